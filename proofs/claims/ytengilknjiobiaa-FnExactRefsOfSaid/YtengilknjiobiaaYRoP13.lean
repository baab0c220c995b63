/- Printed functions: impl_textOf, impl_isField, impl_Value__impl_isField. -/
import Derived.Test.YtengilknjiobiaaYRoP0
import Derived.Test.YtengilknjiobiaaYRoPE
import Derived.Test.YtengilknjiobiaaYRoP10
namespace Go.Proofs.Ytengilknjiobiaa.PFnExactRefsOf
open Go.RowKit Go.Proofs.YtengilknjiobiaaG Go.Proofs.YtengilknjiobiaaW.PrintWords Go.Proofs.YtengilknjiobiaaW.PrintLast Go.Proofs.YtengilknjiobiaaW.PrintMore
attribute [local go_sem] max2_int min2_int max_two min_two max_three min_three max_four min_four
set_option linter.unusedVariables false
set_option linter.unusedSimpArgs false
section
attribute [local go_sem high] eqA29
def impl_textOf.f (a0:ByteArray):Option (Int×Int×ByteArray×Int):=some (1,0,a0,0)
set_option maxHeartbeats 8000000 in
set_option maxRecDepth 100000 in
theorem impl_textOf.calls (a0:ByteArray) (r1:Int) (r2:Int) (r3:ByteArray) (r4:Int) (w:World) (h:impl_textOf.f a0=some (r1,r2,r3,r4)):
  Calls Try.prog 76 #[.string a0] w fun e w'=>e= .returned (.agg #[.int .i64 r1,.int .i64 r2,.string r3,.int .i64 r4])∧Below w.heap.size w w':=by
 have c:=Try.underlying29
 have HB:=zM (Below.refl w.heap.size w)
 have H:(some (1,0,a0,0))=some (r1,r2,r3,r4):=h
 clear h
 simp only[Option.some.injEq,Prod.mk.injEq]at H
 obtain⟨rfl,rfl,rfl,rfl⟩:=H
 go_enter Try.func76,Try.ntmps76
 go_wp2_with (first|((with_reducible refine gate_dst (N:=2) rfl ?_);refine sV (N:=2) (cs:= #[.int .i64 0,.int .i64 0,.string (⟨#[]⟩:ByteArray),.int .i64 0]) (t:=29) ?_;intro b hg d hbox hb;have a:=zM (hbox);have j:=sG HB hg;have l:=sG HB hg;replace HB:=sB HB hb;clear hb hbox hg;obtain⟨m,p,q,s,u,x,y,z⟩:=cells4 a.out))
 refine bodyPost_ret (results_cell_row rfl _ _ b 29 #[.int .i64 1,.int .i64 0,.string a0,.int .i64 0] (0,0) _ rfl (by exact sP4 (sT a.out)) Try.underlying29 rfl (by kernel_rfl)) rfl ?_
 exact⟨sq,sb⟩
end
section
attribute [local go_sem high] eqA29
def impl_isField.f (k:Nat) (a0_0:Int) (a0_1:Int) (a0_2:ByteArray) (a0_3:Int):Option (Bool):=(impl_textOf.f a0_2).bind fun bt254=>(if(a0_0==bt254.1&&(a0_1==bt254.2.1&&(a0_2.toList==bt254.2.2.1.toList&&(a0_3==bt254.2.2.2))))=true then((impl_IsName.f k a0_2).bind fun t258=>(some t258))else(some false))
def impl_isField.T1:Bool×List (List Nat×List Nat):=(true,[([],[]),([],[]),([1],[1]),([2],[2]),([0,3],[0,3]),([4,3],[4]),([5],[5]),([6,5],[5,6]),([7,5,5],[5,7]),([5,8],[5,8]),([9,8,0,1,2,3,4,5,6,7,8,9],[9])])
def impl_isField.B1:List Nat:=[0,0,2,6,15,31,63,127,255,511,1023]
theorem impl_isField.tab1:rtab .any (opsOf Try.f92 1)=impl_isField.T1:=by kernel_rfl
theorem impl_isField.bits1:waitsOk impl_isField.T1.2 impl_isField.B1=true:=by kernel_rfl
set_option maxHeartbeats 8000000 in
set_option maxRecDepth 100000 in
theorem impl_isField.calls (k:Nat) (a0_0:Int) (a0_1:Int) (a0_2:ByteArray) (a0_3:Int) (r:Bool) (w:World) (h:impl_isField.f k a0_0 a0_1 a0_2 a0_3=some r):
  Calls Try.prog 92 #[.agg #[.int .i64 a0_0,.int .i64 a0_1,.string a0_2,.int .i64 a0_3]] w fun e w'=>e= .returned (.bool r)∧Below w.heap.size w w':=by
 have L:=Try.underlying29
 have HB:=zM (Below.refl w.heap.size w)
 have H:((impl_textOf.f a0_2).bind fun u=>(if(a0_0==u.1&&(a0_1==u.2.1&&(a0_2.toList==u.2.2.1.toList&&(a0_3==u.2.2.2))))=true then((impl_IsName.f k a0_2).bind fun s=>(some s))else(some false)))=some r:=h
 clear h
 replace H:=Option.bind_eq_some_iff.mp H
 obtain⟨⟨c,d,j,l⟩,B,H⟩:=H
 replace H:(if(a0_0==c&&(a0_1==d&&(a0_2.toList==j.toList&&(a0_3==l))))=true then((impl_IsName.f k a0_2).bind fun s=>(some s))else(some false))=some r:=H
 have D:=zM B
 clear B
 by_cases m:(a0_0==c&&(a0_1==d&&(a0_2.toList==j.toList&&(a0_3==l))))=true
 ·(
 rw[if_pos m]at H
 have c3b0:(a0_0==c&&(a0_1==d&&(a0_2.toList==j.toList&&(a0_3==l))))=true:=m
 (try(have c3b1:decide (a0_0=c&&(a0_1==d&&(a0_2.toList==j.toList&&(a0_3==l))))=true:=by simpa using m))
 (try(have c3b2:(a0_0==c&&(a0_1==d&&(a0_2.toList==j.toList&&(a0_3==l))))=true:=by simpa using m))
 clear m
 obtain⟨s,E,H⟩:=sO H
 obtain rfl:=zI H
 go_enter Try.func92,Try.ntmps92
 try go_wp2_with (first|((with_reducible refine gate_dst (N:=1) rfl ?_);refine sV (N:=1) (cs:= #[.int .i64 a0_0,.int .i64 a0_1,.string a0_2,.int .i64 a0_3]) (t:=29) ?_;intro p hg F hbox hb;have a:=zM (hbox);have G:=sG HB hg;have I:=sG HB hg;replace HB:=sB HB hb;clear hb hbox hg))
 replace a:=zM (blk_drew a.out)
 replace HB:=zM (below_drew1 HB.out)
 refine start_ (n:=11) (S:=fun w'=>w'.cell? ⟨p,0,none⟩=some (.int .i64 a0_0)∧w'.cell? ⟨p,1,none⟩=some (.int .i64 a0_1)∧w'.cell? ⟨p,2,none⟩=some (.string a0_2)∧w'.cell? ⟨p,3,none⟩=some (.int .i64 a0_3)) (ds:=[]) #[false,false,false,false,false,false,false,false,false,false,false] (by kernel_rfl) rfl rfl ⟨(blk_cell a.out 0).trans rfl,(blk_cell a.out 1).trans rfl,(blk_cell a.out 2).trans rfl,(blk_cell a.out 3).trans rfl⟩ (fun hHeld=>?_);refine with_tabW impl_isField.tab1 impl_isField.bits1 (fun b q=>?_)
 generalize F.drew=w6 at a HB hHeld ⊢
 refine pure_ (i:=1) (N:=some 4) (v:=?_) (a':=?_) (bN 11 2) rfl rfl (any_of b.out (by kernel_rfl)) (fun _ _ _ h=>h) (Or.inl ⟨by rfl,?_⟩) ?_ ?_
 rotate_left
 ·(
 intro w'
 go_simp
 with_reducible rfl)
 rotate_left
 ·(
 simp only[zP,i64_w,i32_w]
 rfl)
 refine take_ (i:=0) (N:=some 3) (v:=?_) (a':=?_) (bN 11 3) rfl rfl (take_ofW b.out q.out (by kernel_rfl)) (fun _ _ _ h=>h) (Or.inl ⟨by rfl,?_⟩) hHeld ?_ ?_
 rotate_left
 ·(
 rintro w' ⟨x,y,z,A⟩
 go_simp
 with_reducible rfl)
 rotate_left
 ·(
 simp only[zP,i64_w,i32_w]
 rfl)
 refine take_ (i:=2) (N:=some 5) (v:=?_) (a':=?_) (bN 11 7) rfl rfl (take_ofW b.out q.out (by kernel_rfl)) (fun _ _ _ h=>h) (Or.inl ⟨by rfl,?_⟩) hHeld ?_ ?_
 rotate_left
 ·(
 rintro w' ⟨x,y,z,A⟩
 go_simp
 with_reducible rfl)
 rotate_left
 ·(
 simp only[zP,i64_w,i32_w]
 rfl)
 refine one_ (i:=3) (N:=some 6) (bN 11 15) rfl rfl (one_of b.out (by kernel_rfl)) (by decide) (fun K hK=>?_)
 refine goes_ Try.func76 (by kernel_rfl) rfl #[.string a0_2] (by rfl) rfl rfl (by(try simp only[List.map_toArray,List.map_cons,List.map_nil]);first|done|rfl|(simp only[List.length_drop,List.length_take];rfl)) ?_
 with_reducible refine(impl_textOf.calls a0_2 c d j l _ D.out).mono ?_
 rintro e M ⟨rfl,hb⟩
 refine⟨_,rfl,?_⟩
 replace a:=sK a hb
 replace HB:=sB HB hb
 (try clear hb)
 (try clear hb2)
 (try clear hk)
 (try clear hi)
 refine hK.out _ _ ⟨(blk_cell a.out 0).trans rfl,(blk_cell a.out 1).trans rfl,(blk_cell a.out 2).trans rfl,(blk_cell a.out 3).trans rfl⟩ (fun hHeld=>?_)
 clear hK K
 refine norm_ (a':=?_) ?_ ?_
 rotate_left
 ·(
 show Act.put _ (some 6) _=_
 simp only[zP,i64_w,i32_w]
 rfl)
 refine pure_ (i:=4) (N:=some 7) (v:=?_) (a':=?_) (bN 11 31) rfl rfl (any_of b.out (by kernel_rfl)) (fun _ _ _ h=>h) (Or.inl ⟨by rfl,?_⟩) ?_ ?_
 rotate_left
 ·(
 intro w'
 go_simp
 with_reducible rfl)
 rotate_left
 ·(
 simp only[zP,i64_w,i32_w]
 rfl)
 refine pure_ (i:=5) (N:=some 8) (v:=?_) (a':=?_) (bN 11 63) rfl rfl (any_of b.out (by kernel_rfl)) (fun _ _ _ h=>h) (Or.inl ⟨by rfl,?_⟩) ?_ ?_
 rotate_left
 ·(
 intro w'
 go_simp
 with_reducible rfl)
 rotate_left
 ·(
 simp only[zP,i64_w,i32_w]
 rfl)
 refine pure_ (i:=6) (N:=some 9) (v:=?_) (a':=?_) (bN 11 127) rfl rfl (any_of b.out (by kernel_rfl)) (fun _ _ _ h=>h) (Or.inl ⟨by rfl,?_⟩) ?_ ?_
 rotate_left
 ·(
 intro w'
 go_simp
 with_reducible rfl)
 rotate_left
 ·(
 simp only[zP,i64_w,i32_w]
 rfl)
 refine take_ (i:=7) (N:=some 10) (v:=?_) (a':=?_) (bN 11 255) rfl rfl (take_ofW b.out q.out (by kernel_rfl)) (fun _ _ _ h=>h) (Or.inl ⟨by rfl,?_⟩) hHeld ?_ ?_
 rotate_left
 ·(
 rintro w' ⟨x,y,z,A⟩
 go_simp
 with_reducible rfl)
 rotate_left
 ·(
 simp only[zP,i64_w,i32_w]
 rfl)
 refine one_ (i:=8) (N:=some 11) (bN 11 511) rfl rfl (one_of b.out (by kernel_rfl)) (by decide) (fun K hK=>?_)
 refine goes_ Try.func93 (by kernel_rfl) rfl #[.string a0_2] (by rfl) rfl rfl (by(try simp only[List.map_toArray,List.map_cons,List.map_nil]);first|done|rfl|(simp only[List.length_drop,List.length_take];rfl)) ?_
 with_reducible refine(impl_IsName.calls k a0_2 s _ E.out).mono ?_
 rintro e O ⟨rfl,hb⟩
 refine⟨_,rfl,?_⟩
 replace a:=sK a hb
 replace HB:=sB HB hb
 (try clear hb)
 (try clear hb2)
 (try clear hk)
 (try clear hi)
 refine hK.out _ _ ⟨(blk_cell a.out 0).trans rfl,(blk_cell a.out 1).trans rfl,(blk_cell a.out 2).trans rfl,(blk_cell a.out 3).trans rfl⟩ (fun hHeld=>?_)
 clear hK K
 refine norm_ (a':=?_) ?_ ?_
 rotate_left
 ·(
 show Act.put _ (some 11) _=_
 simp only[zP,i64_w,i32_w]
 rfl)
 refine pure_ (i:=9) (N:=some 12) (v:=?_) (a':=?_) (bN 11 1023) rfl rfl (any_of b.out (by kernel_rfl)) (fun _ _ _ h=>h) (Or.inl ⟨by rfl,?_⟩) ?_ ?_
 rotate_left
 ·(
 intro w'
 go_simp
 with_reducible rfl)
 rotate_left
 ·(
 simp only[zP,i64_w,i32_w]
 rfl)
 refine pure_ (i:=10) (N:=some 2) (v:=?_) (a':=?_) (bN 11 2047) rfl rfl (any_of b.out (by kernel_rfl)) (fun _ _ _ h=>h) (Or.inl ⟨by rfl,?_⟩) ?_ ?_
 rotate_left
 ·(
 intro w'
 go_simp
 with_reducible rfl)
 rotate_left
 ·(
 simp only[zP,i64_w,i32_w]
 rfl)
 refine done_ (done_of b.out (by kernel_rfl)) ?_
 try go_wp2
 go_ret
 exact⟨sq,sb⟩)
 rw[if_neg m]at H
 have c3b0:(a0_0==c&&(a0_1==d&&(a0_2.toList==j.toList&&(a0_3==l))))=false:=by simpa using m
 (try(have c3b1:decide (a0_0=c&&(a0_1==d&&(a0_2.toList==j.toList&&(a0_3==l))))=false:=by simpa using m))
 (try(have c3b2:(a0_0==c&&(a0_1==d&&(a0_2.toList==j.toList&&(a0_3==l))))=false:=by simpa using m))
 (try(have c3b3:¬(a0_0=c&&(a0_1==d&&(a0_2.toList==j.toList&&(a0_3==l)))):=by simpa using m))
 clear m
 obtain rfl:=zI H
 go_enter Try.func92,Try.ntmps92
 try go_wp2_with (first|((with_reducible refine gate_dst (N:=1) rfl ?_);refine sV (N:=1) (cs:= #[.int .i64 a0_0,.int .i64 a0_1,.string a0_2,.int .i64 a0_3]) (t:=29) ?_;intro p hg J hbox hb;have a:=zM (hbox);have G:=sG HB hg;have I:=sG HB hg;replace HB:=sB HB hb;clear hb hbox hg))
 replace a:=zM (blk_drew a.out)
 replace HB:=zM (below_drew1 HB.out)
 refine start_ (n:=11) (S:=fun w'=>w'.cell? ⟨p,0,none⟩=some (.int .i64 a0_0)∧w'.cell? ⟨p,1,none⟩=some (.int .i64 a0_1)∧w'.cell? ⟨p,2,none⟩=some (.string a0_2)∧w'.cell? ⟨p,3,none⟩=some (.int .i64 a0_3)) (ds:=[]) #[false,false,false,false,false,false,false,false,false,false,false] (by kernel_rfl) rfl rfl ⟨(blk_cell a.out 0).trans rfl,(blk_cell a.out 1).trans rfl,(blk_cell a.out 2).trans rfl,(blk_cell a.out 3).trans rfl⟩ (fun hHeld=>?_);refine with_tabW impl_isField.tab1 impl_isField.bits1 (fun b q=>?_)
 generalize J.drew=w10 at a HB hHeld ⊢
 refine pure_ (i:=1) (N:=some 4) (v:=?_) (a':=?_) (bN 11 2) rfl rfl (any_of b.out (by kernel_rfl)) (fun _ _ _ h=>h) (Or.inl ⟨by rfl,?_⟩) ?_ ?_
 rotate_left
 ·(
 intro w'
 go_simp
 with_reducible rfl)
 rotate_left
 ·(
 simp only[zP,i64_w,i32_w]
 rfl)
 refine take_ (i:=0) (N:=some 3) (v:=?_) (a':=?_) (bN 11 3) rfl rfl (take_ofW b.out q.out (by kernel_rfl)) (fun _ _ _ h=>h) (Or.inl ⟨by rfl,?_⟩) hHeld ?_ ?_
 rotate_left
 ·(
 rintro w' ⟨x,y,z,A⟩
 go_simp
 with_reducible rfl)
 rotate_left
 ·(
 simp only[zP,i64_w,i32_w]
 rfl)
 refine take_ (i:=2) (N:=some 5) (v:=?_) (a':=?_) (bN 11 7) rfl rfl (take_ofW b.out q.out (by kernel_rfl)) (fun _ _ _ h=>h) (Or.inl ⟨by rfl,?_⟩) hHeld ?_ ?_
 rotate_left
 ·(
 rintro w' ⟨x,y,z,A⟩
 go_simp
 with_reducible rfl)
 rotate_left
 ·(
 simp only[zP,i64_w,i32_w]
 rfl)
 refine one_ (i:=3) (N:=some 6) (bN 11 15) rfl rfl (one_of b.out (by kernel_rfl)) (by decide) (fun K hK=>?_)
 refine goes_ Try.func76 (by kernel_rfl) rfl #[.string a0_2] (by rfl) rfl rfl (by(try simp only[List.map_toArray,List.map_cons,List.map_nil]);first|done|rfl|(simp only[List.length_drop,List.length_take];rfl)) ?_
 with_reducible refine(impl_textOf.calls a0_2 c d j l _ D.out).mono ?_
 rintro e P ⟨rfl,hb⟩
 refine⟨_,rfl,?_⟩
 replace a:=sK a hb
 replace HB:=sB HB hb
 (try clear hb)
 (try clear hb2)
 (try clear hk)
 (try clear hi)
 refine hK.out _ _ ⟨(blk_cell a.out 0).trans rfl,(blk_cell a.out 1).trans rfl,(blk_cell a.out 2).trans rfl,(blk_cell a.out 3).trans rfl⟩ (fun hHeld=>?_)
 clear hK K
 refine norm_ (a':=?_) ?_ ?_
 rotate_left
 ·(
 show Act.put _ (some 6) _=_
 simp only[zP,i64_w,i32_w]
 rfl)
 refine pure_ (i:=4) (N:=some 7) (v:=?_) (a':=?_) (bN 11 31) rfl rfl (any_of b.out (by kernel_rfl)) (fun _ _ _ h=>h) (Or.inl ⟨by rfl,?_⟩) ?_ ?_
 rotate_left
 ·(
 intro w'
 go_simp
 with_reducible rfl)
 rotate_left
 ·(
 simp only[zP,i64_w,i32_w]
 rfl)
 refine pure_ (i:=5) (N:=some 8) (v:=?_) (a':=?_) (bN 11 63) rfl rfl (any_of b.out (by kernel_rfl)) (fun _ _ _ h=>h) (Or.inl ⟨by rfl,?_⟩) ?_ ?_
 rotate_left
 ·(
 intro w'
 go_simp
 with_reducible rfl)
 rotate_left
 ·(
 simp only[zP,i64_w,i32_w]
 rfl)
 refine pure_ (i:=6) (N:=some 9) (v:=undef) (a':=?_) (bN 11 127) rfl rfl (any_of b.out (by kernel_rfl)) (fun _ _ _ h=>h) (Or.inr ⟨by rfl,rfl⟩) ?_ ?_
 rotate_left
 ·(
 simp only[zP,i64_w,i32_w]
 rfl)
 refine pure_ (i:=7) (N:=some 10) (v:=undef) (a':=?_) (bN 11 255) rfl rfl (any_of b.out (by kernel_rfl)) (fun _ _ _ h=>h) (Or.inr ⟨by rfl,rfl⟩) ?_ ?_
 rotate_left
 ·(
 simp only[zP,i64_w,i32_w]
 rfl)
 refine pure_ (i:=8) (N:=some 11) (v:=undef) (a':=?_) (bN 11 511) rfl rfl (any_of b.out (by kernel_rfl)) (fun _ _ _ h=>h) (Or.inr ⟨by rfl,rfl⟩) ?_ ?_
 rotate_left
 ·(
 simp only[zP,i64_w,i32_w]
 rfl)
 refine pure_ (i:=9) (N:=some 12) (v:=?_) (a':=?_) (bN 11 1023) rfl rfl (any_of b.out (by kernel_rfl)) (fun _ _ _ h=>h) (Or.inl ⟨by rfl,?_⟩) ?_ ?_
 rotate_left
 ·(
 intro w'
 go_simp
 with_reducible rfl)
 rotate_left
 ·(
 simp only[zP,i64_w,i32_w]
 rfl)
 refine pure_ (i:=10) (N:=some 2) (v:=?_) (a':=?_) (bN 11 2047) rfl rfl (any_of b.out (by kernel_rfl)) (fun _ _ _ h=>h) (Or.inl ⟨by rfl,?_⟩) ?_ ?_
 rotate_left
 ·(
 intro w'
 go_simp
 with_reducible rfl)
 rotate_left
 ·(
 simp only[zP,i64_w,i32_w]
 rfl)
 refine done_ (done_of b.out (by kernel_rfl)) ?_
 try go_wp2
 go_ret
 exact⟨sq,sb⟩
end
section
attribute [local go_sem high] eqA29
def impl_Value__impl_isField.l0 : Nat → List (S29) → Int → Int → Option (Bool)
 |0,_,_,_=>none
 |k+1,x7,x8,x9=>if x9<x8 then(if 0≤x9 then(if x9<(x7.length:Int)then((impl_isField.f k ((rd_T29 x7 x9).f0) ((rd_T29 x7 x9).f1) ((rd_T29 x7 x9).f2) ((rd_T29 x7 x9).f3)).bind fun t261=>(if t261=true then(impl_Value__impl_isField.l0 k x7 x8 (wrap64 (x9+1)))else(some false)))else(none))else(none))else(some true)
def impl_Value__impl_isField.f (k:Nat) (l0:List (S29)):Option (Bool):=impl_Value__impl_isField.l0 k l0 (l0.length:Int) 0
set_option maxHeartbeats 8000000 in
set_option maxRecDepth 100000 in
theorem impl_Value__impl_isField.calls (k:Nat) (A0:Option Addr) (c0:Nat) (l0:List (S29)) (r:Bool) (w:World) (hr0:Kd.C k29 w A0 l0.length l0) (hc0:l0.length≤c0) (h:impl_Value__impl_isField.f k l0=some r):
  Calls Try.prog 89 #[.slice A0 l0.length c0,.func (.func 92) #[] #[]] w fun e w'=>e= .returned (.bool r)∧Below w.heap.size w w':=by
 have L:=Try.underlying29
 have A:=zM hr0
 have M:=zM hc0
 clear hr0 hc0
 have HB:=zM (Below.refl w.heap.size w)
 have H:(impl_Value__impl_isField.l0 k l0 (l0.length:Int) 0)=some r:=h
 clear h
 have H':=zM H
 clear H
 go_enter Try.func89,Try.ntmps89
 go_wp2
 go_loopg [9] k (fun kq E w'=>∃(a:Int),E= .int .i64 a∧Aside0 (impl_Value__impl_isField.l0 kq l0 (l0.length:Int) a=some r)∧Aside0 (kq≤k)∧Aside0 (Below w.heap.size w w'))
 case atStart=>exact⟨(0),sr,H',⟨Nat.le_refl _⟩,⟨sb⟩⟩
 case round=>(
 clear H'
 obtain⟨a,rfl,HA,B,HB⟩:=hrel
 cases gk with
 |zero=>exact absurd HA.out (by simp[impl_Value__impl_isField.l0])
 |succ k1=>(
 have H:=HA.out
 clear HA
 simp only[impl_Value__impl_isField.l0]at H
 by_cases j:a<(l0.length:Int)
 ·(
 rw[if_pos j]at H
 have c3b0:=zT j
 clear j
 by_cases s:0≤a
 ·(
 rw[if_pos s]at H
 have c4b0:=zT s
 clear s
 by_cases u:a<(l0.length:Int)
 ·(
 rw[if_pos u]at H
 have c5b0:=zT u
 clear u
 obtain⟨F,D,H⟩:=sO H
 by_cases x:F=true
 ·(
 subst x
 rewrite[if_pos rfl]at H
 have H':=zM H
 clear H
 have b:0≤(a:Int):=zzA
 have c:a<(l0.length:Int):=zzA
 obtain⟨G,y,l,m,p,q⟩:=at_T29 A.out a b c
 cases y
 replace l:=sX HB l
 replace m:=sX HB m
 replace p:=sX HB p
 replace q:=sX HB q
 replace b:=eq_true b
 replace c:=eq_true c
 go_wp2_with (first|((with_reducible refine gate_dst (N:=6) rfl ?_);refine sV (N:=6) (cs:= #[.int .i64 0,.int .i64 0,.string (⟨#[]⟩:ByteArray),.int .i64 0]) (t:=29) ?_;intro z hg O hbox hb;have d:=zM (hbox);have I:=sG HB hg;have J:=sG HB hg;replace HB:=sB HB hb;clear hb hbox hg;obtain⟨P,Q,R,T,U,V,W,X⟩:=cells4 d.out)|(go_at_call 92;(with_reducible refine(impl_isField.calls k1 ((rd_T29 l0 a).f0) ((rd_T29 l0 a).f1) ((rd_T29 l0 a).f2) ((rd_T29 l0 a).f3) true _ D.out).mono ?_);rintro e Y ⟨rfl,hb⟩;replace d:=zM (blk_below (g:=z) (o:= .cells #[.int .i64 ((rd_T29 l0 a).f0),.int .i64 ((rd_T29 l0 a).f1),.string ((rd_T29 l0 a).f2),.int .i64 ((rd_T29 l0 a).f3)] 29 (0,0)) (by exact sP4 (sT d.out)) hb);replace HB:=sB HB hb;(try clear hb)))
 go_roundg k1
 case measure=>have:=B.out;omega
 case rel=>exact⟨(wrap64 (a+1)),sr,H',⟨by have:=B.out;omega⟩,⟨sb⟩⟩)
 replace x:=zB x
 subst x
 rewrite[if_neg zQ]at H
 obtain rfl:=zI H
 have b:0≤(a:Int):=zzA
 have c:a<(l0.length:Int):=zzA
 obtain⟨G,y,l,m,p,q⟩:=at_T29 A.out a b c
 cases y
 replace l:=sX HB l
 replace m:=sX HB m
 replace p:=sX HB p
 replace q:=sX HB q
 replace b:=eq_true b
 replace c:=eq_true c
 go_wp2_with (first|((with_reducible refine gate_dst (N:=6) rfl ?_);refine sV (N:=6) (cs:= #[.int .i64 0,.int .i64 0,.string (⟨#[]⟩:ByteArray),.int .i64 0]) (t:=29) ?_;intro z hg Z hbox hb;have d:=zM (hbox);have I:=sG HB hg;have J:=sG HB hg;replace HB:=sB HB hb;clear hb hbox hg;obtain⟨aa,ab,ac,ad,ae,af,ag,ah⟩:=cells4 d.out)|(go_at_call 92;(with_reducible refine(impl_isField.calls k1 ((rd_T29 l0 a).f0) ((rd_T29 l0 a).f1) ((rd_T29 l0 a).f2) ((rd_T29 l0 a).f3) false _ D.out).mono ?_);rintro e ai ⟨rfl,hb⟩;replace d:=zM (blk_below (g:=z) (o:= .cells #[.int .i64 ((rd_T29 l0 a).f0),.int .i64 ((rd_T29 l0 a).f1),.string ((rd_T29 l0 a).f2),.int .i64 ((rd_T29 l0 a).f3)] 29 (0,0)) (by exact sP4 (sT d.out)) hb);replace HB:=sB HB hb;(try clear hb)))
 go_ret
 exact⟨sq,sb⟩)
 rw[if_neg u]at H
 exact absurd H (by simp))
 rw[if_neg s]at H
 exact absurd H (by simp))
 rw[if_neg j]at H
 have c3b0:=zF j
 clear j
 obtain rfl:=zI H
 go_wp2
 go_ret
 exact⟨sq,sb⟩))
end
end Go.Proofs.Ytengilknjiobiaa.PFnExactRefsOf
