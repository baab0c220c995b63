/- Printed functions: impl_CaptureText. -/
import Derived.Test.YtjmojijopammjaaDoorYCtP0
import Derived.Test.YtjmojijopammjaaDoorYCtP5
namespace Go.Proofs.YtjmojijopammjaaDoor.PFnExactCaptureText
open Go.RowKit Go.Proofs.YtjmojijopammjaaDoorG Go.Proofs.YtjmojijopammjaaDoorW.PrintWords Go.Proofs.YtjmojijopammjaaDoorW.PrintLast Go.Proofs.YtjmojijopammjaaDoorW.PrintMore
attribute [local go_sem] max2_int min2_int max_two min_two max_three min_three max_four min_four
set_option linter.unusedVariables false
set_option linter.unusedSimpArgs false
def impl_CaptureText.f (a0_0:ByteArray) (a0_1:ByteArray) (a0_2:Int) (a0_3:Int):Option (ByteArray):=if a0_3=3 then(if a0_0.size+1≤9223372036854775807 then((impl_decimal.f a0_2).bind fun t159=>(if a0_0.size+1+t159.size≤9223372036854775807 then(some ((a0_0++(⟨#[58]⟩:ByteArray))++t159))else(none)))else(none))else(if a0_3=1 then(if a0_0.size+1≤9223372036854775807 then((impl_QuoteText.f a0_1).bind fun t160=>(if a0_0.size+1+t160.size≤9223372036854775807 then(some ((a0_0++(⟨#[58]⟩:ByteArray))++t160))else(none)))else(none))else(if a0_3=2 then(if a0_0.size+1≤9223372036854775807 then((impl_QuoteText.f a0_1).bind fun t161=>(if a0_0.size+1+t161.size≤9223372036854775807 then(some ((a0_0++(⟨#[58]⟩:ByteArray))++t161))else(none)))else(none))else(some (⟨#[]⟩:ByteArray))))
def impl_CaptureText.T3:Bool×List (List Nat×List Nat):=(true,[([],[]),([0],[0]),([1],[1]),([],[]),([3],[3]),([4],[4]),([2,5],[2,5]),([6,5,0,1,2,3,4,5,6],[6])])
def impl_CaptureText.B3:List Nat:=[0,1,3,0,8,24,63,127]
theorem impl_CaptureText.tab3:rtab .any (opsOf Tryd.f12 3)=impl_CaptureText.T3:=by kernel_rfl
theorem impl_CaptureText.bits3:waitsOk impl_CaptureText.T3.2 impl_CaptureText.B3=true:=by kernel_rfl
def impl_CaptureText.T6:Bool×List (List Nat×List Nat):=(true,[([],[]),([0],[0]),([1],[1]),([],[]),([3],[3]),([4],[4]),([2,5],[2,5]),([6,5,0,1,2,3,4,5,6],[6])])
def impl_CaptureText.B6:List Nat:=[0,1,3,0,8,24,63,127]
theorem impl_CaptureText.tab6:rtab .any (opsOf Tryd.f12 6)=impl_CaptureText.T6:=by kernel_rfl
theorem impl_CaptureText.bits6:waitsOk impl_CaptureText.T6.2 impl_CaptureText.B6=true:=by kernel_rfl
set_option maxHeartbeats 8000000 in
set_option maxRecDepth 100000 in
theorem impl_CaptureText.calls (a0_0:ByteArray) (a0_1:ByteArray) (a0_2:Int) (a0_3:Int) (r:ByteArray) (w:World) (h:impl_CaptureText.f a0_0 a0_1 a0_2 a0_3=some r) (HT:EnvT w):
  Calls Tryd.prog 12 #[.agg #[.string a0_0,.string a0_1,.int .i64 a0_2,.int .i64 a0_3]] w fun e w'=>e= .returned (.string r)∧Below w.heap.size w w':=by
 have O:=Tryd.underlying26
 have HB:=zM (Below.refl w.heap.size w)
 have H:(if a0_3=3 then(if a0_0.size+1≤9223372036854775807 then((impl_decimal.f a0_2).bind fun l=>(if a0_0.size+1+l.size≤9223372036854775807 then(some ((a0_0++(⟨#[58]⟩:ByteArray))++l))else(none)))else(none))else(if a0_3=1 then(if a0_0.size+1≤9223372036854775807 then((impl_QuoteText.f a0_1).bind fun m=>(if a0_0.size+1+m.size≤9223372036854775807 then(some ((a0_0++(⟨#[58]⟩:ByteArray))++m))else(none)))else(none))else(if a0_3=2 then(if a0_0.size+1≤9223372036854775807 then((impl_QuoteText.f a0_1).bind fun o=>(if a0_0.size+1+o.size≤9223372036854775807 then(some ((a0_0++(⟨#[58]⟩:ByteArray))++o))else(none)))else(none))else(some (⟨#[]⟩:ByteArray)))))=some r:=h
 clear h
 by_cases g:a0_3=3
 ·(
 rw[if_pos g]at H
 have c2b0:(a0_3==3)=true:=zE g
 have c2b1:(a0_3 !=3)=false:=zY g
 clear g
 by_cases p:a0_0.size+1≤9223372036854775807
 ·(
 rw[if_pos p]at H
 have c3b0:=eq_true p
 have c3b1:=zT p
 try have c3b2:(9223372036854775807<a0_0.size+1)=False:=eq_false (Nat.not_lt.2 p)
 obtain⟨l,F,H⟩:=sO H
 by_cases q:a0_0.size+1+l.size≤9223372036854775807
 ·(
 rw[if_pos q]at H
 have c5b0:=eq_true q
 have c5b1:=zT q
 try have c5b2:(9223372036854775807<a0_0.size+1+l.size)=False:=eq_false (Nat.not_lt.2 q)
 obtain rfl:=zI H
 go_enter Tryd.func12,Tryd.ntmps12
 try go_wp2_with (first|((with_reducible refine gate_dst (N:=1) rfl ?_);refine sV (N:=1) (cs:= #[.string a0_0,.string a0_1,.int .i64 a0_2,.int .i64 a0_3]) (t:=26) ?_;intro c hg G hbox hb;have a:=zM (hbox);have D:=sG HB hg;have E:=sG HB hg;replace HB:=sB HB hb;clear hb hbox hg;obtain⟨P,Q,R,T,U,V,W,X⟩:=cells4 a.out))
 replace a:=zM (blk_drew a.out)
 replace HB:=zM (below_drew1 HB.out)
 refine start_ (n:=8) (S:=fun w'=>w'.cell? ⟨c,0,none⟩=some (.string a0_0)∧w'.cell? ⟨c,1,none⟩=some (.string a0_1)∧w'.cell? ⟨c,2,none⟩=some (.int .i64 a0_2)∧w'.cell? ⟨c,3,none⟩=some (.int .i64 a0_3)) (ds:=[]) #[false,false,false,false,false,false,false,false] (by kernel_rfl) rfl rfl ⟨(blk_cell a.out 0).trans rfl,(blk_cell a.out 1).trans rfl,(blk_cell a.out 2).trans rfl,(blk_cell a.out 3).trans rfl⟩ (fun hHeld=>?_);refine with_tabW impl_CaptureText.tab3 impl_CaptureText.bits3 (fun b d=>?_)
 generalize G.drew=w8 at a HB hHeld ⊢
 refine pure_ (i:=0) (N:=some 7) (v:=?_) (a':=?_) (bN 8 1) rfl rfl (any_of b.out (by kernel_rfl)) (fun _ _ _ h=>h) (Or.inl ⟨by rfl,?_⟩) ?_ ?_
 rotate_left
 ·(
 intro w'
 go_simp
 with_reducible rfl)
 rotate_left
 ·(
 simp only[zP,i64_w,i32_w]
 rfl)
 refine pure_ (i:=3) (N:=some 10) (v:=?_) (a':=?_) (bN 8 9) rfl rfl (any_of b.out (by kernel_rfl)) (fun _ _ _ h=>h) (Or.inl ⟨by rfl,?_⟩) ?_ ?_
 rotate_left
 ·(
 intro w'
 go_simp
 with_reducible rfl)
 rotate_left
 ·(
 simp only[zP,i64_w,i32_w]
 rfl)
 refine take_ (i:=1) (N:=some 8) (v:=?_) (a':=?_) (bN 8 11) rfl rfl (take_ofW b.out d.out (by kernel_rfl)) (fun _ _ _ h=>h) (Or.inl ⟨by rfl,?_⟩) hHeld ?_ ?_
 rotate_left
 ·(
 rintro w' ⟨s,u,x,y⟩
 go_simp
 with_reducible rfl)
 rotate_left
 ·(
 simp only[zP,i64_w,i32_w]
 rfl)
 refine pure_ (i:=2) (N:=some 9) (v:=?_) (a':=?_) (bN 8 15) rfl rfl (any_of b.out (by kernel_rfl)) (fun _ _ _ h=>h) (Or.inl ⟨by rfl,?_⟩) ?_ ?_
 rotate_left
 ·(
 intro w'
 go_simp
 with_reducible rfl)
 rotate_left
 ·(
 simp only[zP,i64_w,i32_w]
 rfl)
 refine take_ (i:=4) (N:=some 11) (v:=?_) (a':=?_) (bN 8 31) rfl rfl (take_ofW b.out d.out (by kernel_rfl)) (fun _ _ _ h=>h) (Or.inl ⟨by rfl,?_⟩) hHeld ?_ ?_
 rotate_left
 ·(
 rintro w' ⟨s,u,x,y⟩
 go_simp
 with_reducible rfl)
 rotate_left
 ·(
 simp only[zP,i64_w,i32_w]
 rfl)
 refine one_ (i:=5) (N:=some 12) (bN 8 63) rfl rfl (one_of b.out (by kernel_rfl)) (by decide) (fun K hK=>?_)
 refine goes_ Tryd.func37 (by kernel_rfl) rfl #[.int .i64 a0_2] (by rfl) rfl rfl (by(try simp only[List.map_toArray,List.map_cons,List.map_nil]);first|done|rfl|(simp only[List.length_drop,List.length_take];rfl)) ?_
 with_reducible refine(impl_decimal.calls a0_2 l _ F.out (by first|with_reducible exact HT|exact EnvT.below HT sb)).mono ?_
 rintro e Y ⟨rfl,hb⟩
 refine⟨_,rfl,?_⟩
 replace a:=sK a hb
 replace HB:=sB HB hb
 (try clear hb)
 (try clear hb2)
 (try clear hk)
 (try clear hi)
 refine hK.out _ _ ⟨(blk_cell a.out 0).trans rfl,(blk_cell a.out 1).trans rfl,(blk_cell a.out 2).trans rfl,(blk_cell a.out 3).trans rfl⟩ (fun hHeld=>?_)
 clear hK K
 refine norm_ (a':=?_) ?_ ?_
 rotate_left
 ·(
 show Act.put _ (some 12) _=_
 simp only[zP,i64_w,i32_w]
 rfl)
 refine pure_ (i:=6) (N:=some 13) (v:=?_) (a':=?_) (bN 8 127) rfl rfl (any_of b.out (by kernel_rfl)) (fun _ _ _ h=>h) (Or.inl ⟨by rfl,?_⟩) ?_ ?_
 rotate_left
 ·(
 intro w'
 go_simp
 with_reducible rfl)
 rotate_left
 ·(
 simp only[zP,i64_w,i32_w]
 rfl)
 refine pure_ (i:=7) (N:=some 2) (v:=?_) (a':=?_) (bN 8 255) rfl rfl (any_of b.out (by kernel_rfl)) (fun _ _ _ h=>h) (Or.inl ⟨by rfl,?_⟩) ?_ ?_
 rotate_left
 ·(
 intro w'
 go_simp
 with_reducible rfl)
 rotate_left
 ·(
 simp only[zP,i64_w,i32_w]
 rfl)
 refine done_ (done_of b.out (by kernel_rfl)) ?_
 try go_wp2
 go_ret
 exact⟨sq,sb⟩)
 rw[if_neg q]at H
 exact absurd H (by simp))
 rw[if_neg p]at H
 exact absurd H (by simp))
 rw[if_neg g]at H
 have c2b0:(a0_3==3)=false:=zN g
 have c2b1:(a0_3 !=3)=true:=zX g
 by_cases j:a0_3=1
 ·(
 rw[if_pos j]at H
 have c10b0:(a0_3==1)=true:=zE j
 have c10b1:(a0_3 !=1)=false:=zY j
 clear j
 by_cases z:a0_0.size+1≤9223372036854775807
 ·(
 rw[if_pos z]at H
 have c11b0:=eq_true z
 have c11b1:=zT z
 try have c11b2:(9223372036854775807<a0_0.size+1)=False:=eq_false (Nat.not_lt.2 z)
 obtain⟨m,I,H⟩:=sO H
 by_cases A:a0_0.size+1+m.size≤9223372036854775807
 ·(
 rw[if_pos A]at H
 have c13b0:=eq_true A
 have c13b1:=zT A
 try have c13b2:(9223372036854775807<a0_0.size+1+m.size)=False:=eq_false (Nat.not_lt.2 A)
 obtain rfl:=zI H
 go_enter Tryd.func12,Tryd.ntmps12
 try go_wp2_with (first|((with_reducible refine gate_dst (N:=1) rfl ?_);refine sV (N:=1) (cs:= #[.string a0_0,.string a0_1,.int .i64 a0_2,.int .i64 a0_3]) (t:=26) ?_;intro c hg J hbox hb;have a:=zM (hbox);have D:=sG HB hg;have E:=sG HB hg;replace HB:=sB HB hb;clear hb hbox hg;obtain⟨Z,aa,ab,ac,ad,ae,af,ag⟩:=cells4 a.out))
 replace a:=zM (blk_drew a.out)
 replace HB:=zM (below_drew1 HB.out)
 refine start_ (n:=8) (S:=fun w'=>w'.cell? ⟨c,0,none⟩=some (.string a0_0)∧w'.cell? ⟨c,1,none⟩=some (.string a0_1)∧w'.cell? ⟨c,2,none⟩=some (.int .i64 a0_2)∧w'.cell? ⟨c,3,none⟩=some (.int .i64 a0_3)) (ds:=[]) #[false,false,false,false,false,false,false,false] (by kernel_rfl) rfl rfl ⟨(blk_cell a.out 0).trans rfl,(blk_cell a.out 1).trans rfl,(blk_cell a.out 2).trans rfl,(blk_cell a.out 3).trans rfl⟩ (fun hHeld=>?_);refine with_tabW impl_CaptureText.tab6 impl_CaptureText.bits6 (fun b d=>?_)
 generalize J.drew=w16 at a HB hHeld ⊢
 refine pure_ (i:=0) (N:=some 17) (v:=?_) (a':=?_) (bN 8 1) rfl rfl (any_of b.out (by kernel_rfl)) (fun _ _ _ h=>h) (Or.inl ⟨by rfl,?_⟩) ?_ ?_
 rotate_left
 ·(
 intro w'
 go_simp
 with_reducible rfl)
 rotate_left
 ·(
 simp only[zP,i64_w,i32_w]
 rfl)
 refine pure_ (i:=3) (N:=some 20) (v:=?_) (a':=?_) (bN 8 9) rfl rfl (any_of b.out (by kernel_rfl)) (fun _ _ _ h=>h) (Or.inl ⟨by rfl,?_⟩) ?_ ?_
 rotate_left
 ·(
 intro w'
 go_simp
 with_reducible rfl)
 rotate_left
 ·(
 simp only[zP,i64_w,i32_w]
 rfl)
 refine take_ (i:=1) (N:=some 18) (v:=?_) (a':=?_) (bN 8 11) rfl rfl (take_ofW b.out d.out (by kernel_rfl)) (fun _ _ _ h=>h) (Or.inl ⟨by rfl,?_⟩) hHeld ?_ ?_
 rotate_left
 ·(
 rintro w' ⟨s,u,x,y⟩
 go_simp
 with_reducible rfl)
 rotate_left
 ·(
 simp only[zP,i64_w,i32_w]
 rfl)
 refine pure_ (i:=2) (N:=some 19) (v:=?_) (a':=?_) (bN 8 15) rfl rfl (any_of b.out (by kernel_rfl)) (fun _ _ _ h=>h) (Or.inl ⟨by rfl,?_⟩) ?_ ?_
 rotate_left
 ·(
 intro w'
 go_simp
 with_reducible rfl)
 rotate_left
 ·(
 simp only[zP,i64_w,i32_w]
 rfl)
 refine take_ (i:=4) (N:=some 21) (v:=?_) (a':=?_) (bN 8 31) rfl rfl (take_ofW b.out d.out (by kernel_rfl)) (fun _ _ _ h=>h) (Or.inl ⟨by rfl,?_⟩) hHeld ?_ ?_
 rotate_left
 ·(
 rintro w' ⟨s,u,x,y⟩
 go_simp
 with_reducible rfl)
 rotate_left
 ·(
 simp only[zP,i64_w,i32_w]
 rfl)
 refine one_ (i:=5) (N:=some 22) (bN 8 63) rfl rfl (one_of b.out (by kernel_rfl)) (by decide) (fun K hK=>?_)
 refine goes_ Tryd.func38 (by kernel_rfl) rfl #[.string a0_1] (by rfl) rfl rfl (by(try simp only[List.map_toArray,List.map_cons,List.map_nil]);first|done|rfl|(simp only[List.length_drop,List.length_take];rfl)) ?_
 with_reducible refine(impl_QuoteText.calls a0_1 m _ I.out (by first|with_reducible exact HT|exact EnvT.below HT sb)).mono ?_
 rintro e ah ⟨rfl,hb⟩
 refine⟨_,rfl,?_⟩
 replace a:=sK a hb
 replace HB:=sB HB hb
 (try clear hb)
 (try clear hb2)
 (try clear hk)
 (try clear hi)
 refine hK.out _ _ ⟨(blk_cell a.out 0).trans rfl,(blk_cell a.out 1).trans rfl,(blk_cell a.out 2).trans rfl,(blk_cell a.out 3).trans rfl⟩ (fun hHeld=>?_)
 clear hK K
 refine norm_ (a':=?_) ?_ ?_
 rotate_left
 ·(
 show Act.put _ (some 22) _=_
 simp only[zP,i64_w,i32_w]
 rfl)
 refine pure_ (i:=6) (N:=some 23) (v:=?_) (a':=?_) (bN 8 127) rfl rfl (any_of b.out (by kernel_rfl)) (fun _ _ _ h=>h) (Or.inl ⟨by rfl,?_⟩) ?_ ?_
 rotate_left
 ·(
 intro w'
 go_simp
 with_reducible rfl)
 rotate_left
 ·(
 simp only[zP,i64_w,i32_w]
 rfl)
 refine pure_ (i:=7) (N:=some 2) (v:=?_) (a':=?_) (bN 8 255) rfl rfl (any_of b.out (by kernel_rfl)) (fun _ _ _ h=>h) (Or.inl ⟨by rfl,?_⟩) ?_ ?_
 rotate_left
 ·(
 intro w'
 go_simp
 with_reducible rfl)
 rotate_left
 ·(
 simp only[zP,i64_w,i32_w]
 rfl)
 refine done_ (done_of b.out (by kernel_rfl)) ?_
 try go_wp2
 go_ret
 exact⟨sq,sb⟩)
 rw[if_neg A]at H
 exact absurd H (by simp))
 rw[if_neg z]at H
 exact absurd H (by simp))
 rw[if_neg j]at H
 have c10b0:(a0_3==1)=false:=zN j
 have c10b1:(a0_3 !=1)=true:=zX j
 by_cases k:a0_3=2
 ·(
 rw[if_pos k]at H
 have c18b0:(a0_3==2)=true:=zE k
 have c18b1:(a0_3 !=2)=false:=zY k
 clear k
 by_cases B:a0_0.size+1≤9223372036854775807
 ·(
 rw[if_pos B]at H
 have c19b0:=eq_true B
 have c19b1:=zT B
 try have c19b2:(9223372036854775807<a0_0.size+1)=False:=eq_false (Nat.not_lt.2 B)
 obtain⟨o,L,H⟩:=sO H
 by_cases C:a0_0.size+1+o.size≤9223372036854775807
 ·(
 rw[if_pos C]at H
 have c21b0:=eq_true C
 have c21b1:=zT C
 try have c21b2:(9223372036854775807<a0_0.size+1+o.size)=False:=eq_false (Nat.not_lt.2 C)
 obtain rfl:=zI H
 go_enter Tryd.func12,Tryd.ntmps12
 try go_wp2_with (first|((with_reducible refine gate_dst (N:=1) rfl ?_);refine sV (N:=1) (cs:= #[.string a0_0,.string a0_1,.int .i64 a0_2,.int .i64 a0_3]) (t:=26) ?_;intro c hg M hbox hb;have a:=zM (hbox);have D:=sG HB hg;have E:=sG HB hg;replace HB:=sB HB hb;clear hb hbox hg;obtain⟨ai,aj,ak,al,am,an,ao,ap⟩:=cells4 a.out))
 replace a:=zM (blk_drew a.out)
 replace HB:=zM (below_drew1 HB.out)
 refine start_ (n:=8) (S:=fun w'=>w'.cell? ⟨c,0,none⟩=some (.string a0_0)∧w'.cell? ⟨c,1,none⟩=some (.string a0_1)∧w'.cell? ⟨c,2,none⟩=some (.int .i64 a0_2)∧w'.cell? ⟨c,3,none⟩=some (.int .i64 a0_3)) (ds:=[]) #[false,false,false,false,false,false,false,false] (by kernel_rfl) rfl rfl ⟨(blk_cell a.out 0).trans rfl,(blk_cell a.out 1).trans rfl,(blk_cell a.out 2).trans rfl,(blk_cell a.out 3).trans rfl⟩ (fun hHeld=>?_);refine with_tabW impl_CaptureText.tab6 impl_CaptureText.bits6 (fun b d=>?_)
 generalize M.drew=w24 at a HB hHeld ⊢
 refine pure_ (i:=0) (N:=some 17) (v:=?_) (a':=?_) (bN 8 1) rfl rfl (any_of b.out (by kernel_rfl)) (fun _ _ _ h=>h) (Or.inl ⟨by rfl,?_⟩) ?_ ?_
 rotate_left
 ·(
 intro w'
 go_simp
 with_reducible rfl)
 rotate_left
 ·(
 simp only[zP,i64_w,i32_w]
 rfl)
 refine pure_ (i:=3) (N:=some 20) (v:=?_) (a':=?_) (bN 8 9) rfl rfl (any_of b.out (by kernel_rfl)) (fun _ _ _ h=>h) (Or.inl ⟨by rfl,?_⟩) ?_ ?_
 rotate_left
 ·(
 intro w'
 go_simp
 with_reducible rfl)
 rotate_left
 ·(
 simp only[zP,i64_w,i32_w]
 rfl)
 refine take_ (i:=1) (N:=some 18) (v:=?_) (a':=?_) (bN 8 11) rfl rfl (take_ofW b.out d.out (by kernel_rfl)) (fun _ _ _ h=>h) (Or.inl ⟨by rfl,?_⟩) hHeld ?_ ?_
 rotate_left
 ·(
 rintro w' ⟨s,u,x,y⟩
 go_simp
 with_reducible rfl)
 rotate_left
 ·(
 simp only[zP,i64_w,i32_w]
 rfl)
 refine pure_ (i:=2) (N:=some 19) (v:=?_) (a':=?_) (bN 8 15) rfl rfl (any_of b.out (by kernel_rfl)) (fun _ _ _ h=>h) (Or.inl ⟨by rfl,?_⟩) ?_ ?_
 rotate_left
 ·(
 intro w'
 go_simp
 with_reducible rfl)
 rotate_left
 ·(
 simp only[zP,i64_w,i32_w]
 rfl)
 refine take_ (i:=4) (N:=some 21) (v:=?_) (a':=?_) (bN 8 31) rfl rfl (take_ofW b.out d.out (by kernel_rfl)) (fun _ _ _ h=>h) (Or.inl ⟨by rfl,?_⟩) hHeld ?_ ?_
 rotate_left
 ·(
 rintro w' ⟨s,u,x,y⟩
 go_simp
 with_reducible rfl)
 rotate_left
 ·(
 simp only[zP,i64_w,i32_w]
 rfl)
 refine one_ (i:=5) (N:=some 22) (bN 8 63) rfl rfl (one_of b.out (by kernel_rfl)) (by decide) (fun K hK=>?_)
 refine goes_ Tryd.func38 (by kernel_rfl) rfl #[.string a0_1] (by rfl) rfl rfl (by(try simp only[List.map_toArray,List.map_cons,List.map_nil]);first|done|rfl|(simp only[List.length_drop,List.length_take];rfl)) ?_
 with_reducible refine(impl_QuoteText.calls a0_1 o _ L.out (by first|with_reducible exact HT|exact EnvT.below HT sb)).mono ?_
 rintro e aq ⟨rfl,hb⟩
 refine⟨_,rfl,?_⟩
 replace a:=sK a hb
 replace HB:=sB HB hb
 (try clear hb)
 (try clear hb2)
 (try clear hk)
 (try clear hi)
 refine hK.out _ _ ⟨(blk_cell a.out 0).trans rfl,(blk_cell a.out 1).trans rfl,(blk_cell a.out 2).trans rfl,(blk_cell a.out 3).trans rfl⟩ (fun hHeld=>?_)
 clear hK K
 refine norm_ (a':=?_) ?_ ?_
 rotate_left
 ·(
 show Act.put _ (some 22) _=_
 simp only[zP,i64_w,i32_w]
 rfl)
 refine pure_ (i:=6) (N:=some 23) (v:=?_) (a':=?_) (bN 8 127) rfl rfl (any_of b.out (by kernel_rfl)) (fun _ _ _ h=>h) (Or.inl ⟨by rfl,?_⟩) ?_ ?_
 rotate_left
 ·(
 intro w'
 go_simp
 with_reducible rfl)
 rotate_left
 ·(
 simp only[zP,i64_w,i32_w]
 rfl)
 refine pure_ (i:=7) (N:=some 2) (v:=?_) (a':=?_) (bN 8 255) rfl rfl (any_of b.out (by kernel_rfl)) (fun _ _ _ h=>h) (Or.inl ⟨by rfl,?_⟩) ?_ ?_
 rotate_left
 ·(
 intro w'
 go_simp
 with_reducible rfl)
 rotate_left
 ·(
 simp only[zP,i64_w,i32_w]
 rfl)
 refine done_ (done_of b.out (by kernel_rfl)) ?_
 try go_wp2
 go_ret
 exact⟨sq,sb⟩)
 rw[if_neg C]at H
 exact absurd H (by simp))
 rw[if_neg B]at H
 exact absurd H (by simp))
 rw[if_neg k]at H
 have c18b0:(a0_3==2)=false:=zN k
 have c18b1:(a0_3 !=2)=true:=zX k
 obtain rfl:=zI H
 go_enter Tryd.func12,Tryd.ntmps12
 go_wp2_with (first|((with_reducible refine gate_dst (N:=1) rfl ?_);refine sV (N:=1) (cs:= #[.string a0_0,.string a0_1,.int .i64 a0_2,.int .i64 a0_3]) (t:=26) ?_;intro c hg ar hbox hb;have a:=zM (hbox);have D:=sG HB hg;have E:=sG HB hg;replace HB:=sB HB hb;clear hb hbox hg;obtain⟨au,av,aw,ax,ay,az,aA,aB⟩:=cells4 a.out))
 go_ret
 exact⟨sq,sb⟩
end Go.Proofs.YtjmojijopammjaaDoor.PFnExactCaptureText
