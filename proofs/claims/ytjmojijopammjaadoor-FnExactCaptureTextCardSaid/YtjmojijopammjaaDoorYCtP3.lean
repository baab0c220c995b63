/- Printed functions: spec_l16Digits, spec_CaptureText, laws_FnExactCaptureText. -/
import Derived.Test.YtjmojijopammjaaDoorYCtP0
import Derived.Test.YtjmojijopammjaaDoorYCtP1
import Derived.Test.YtjmojijopammjaaDoorYCtP2
import Derived.Test.YtjmojijopammjaaDoorYCtP4
import Derived.Test.YtjmojijopammjaaDoorYCtP6
namespace Go.Proofs.YtjmojijopammjaaDoor.PFnExactCaptureText
open Go.RowKit Go.Proofs.YtjmojijopammjaaDoorG Go.Proofs.YtjmojijopammjaaDoorW.PrintWords Go.Proofs.YtjmojijopammjaaDoorW.PrintLast Go.Proofs.YtjmojijopammjaaDoorW.PrintMore
attribute [local go_sem] max2_int min2_int max_two min_two max_three min_three max_four min_four
set_option linter.unusedVariables false
set_option linter.unusedSimpArgs false
def spec_l16Digits.f (k:Nat) (a0:Int):Option (ByteArray):=if a0<0 then((spec_l16Below.f k a0).bind fun t116=>(if 1+t116.size≤9223372036854775807 then(some ((⟨#[45]⟩:ByteArray)++t116))else(none)))else((spec_l11Digits.f k a0).bind fun t117=>(some t117))
set_option maxHeartbeats 8000000 in
set_option maxRecDepth 100000 in
theorem spec_l16Digits.calls (k:Nat) (a0:Int) (r:ByteArray) (w:World) (h:spec_l16Digits.f k a0=some r):
  Calls Tryd.prog 35 #[.int .i64 a0] w fun e w'=>e= .returned (.string r)∧Below w.heap.size w w':=by
 have HB:=zM (Below.refl w.heap.size w)
 have H:(if a0<0 then((spec_l16Below.f k a0).bind fun a=>(if 1+a.size≤9223372036854775807 then(some ((⟨#[45]⟩:ByteArray)++a))else(none)))else((spec_l11Digits.f k a0).bind fun d=>(some d)))=some r:=h
 clear h
 by_cases b:a0<0
 ·(
 rw[if_pos b]at H
 have c2b0:=zT b
 clear b
 obtain⟨a,g,H⟩:=sO H
 by_cases c:1+a.size≤9223372036854775807
 ·(
 rw[if_pos c]at H
 have c4b0:=eq_true c
 have c4b1:=zT c
 try have c4b2:(9223372036854775807<1+a.size)=False:=eq_false (Nat.not_lt.2 c)
 obtain rfl:=zI H
 go_enter Tryd.func35,Tryd.ntmps35
 go_wp2_with (first|((with_reducible refine gate_callee (f:=83) rfl ?_);refine sC (some 6) Tryd.func83 #[.int .i64 a0] (spec_l16Below.calls k a0 a _ g.out) ?_;rintro e l ⟨rfl,hb⟩;refine⟨_,rfl,?_⟩;replace HB:=sB HB hb;(try clear hb)))
 go_ret
 exact⟨sq,sb⟩)
 rw[if_neg c]at H
 exact absurd H (by simp))
 rw[if_neg b]at H
 have c2b0:=zF b
 clear b
 obtain⟨d,j,H⟩:=sO H
 obtain rfl:=zI H
 go_enter Tryd.func35,Tryd.ntmps35
 go_wp2_with (first|((with_reducible refine gate_callee (f:=84) rfl ?_);refine sC (some 9) Tryd.func84 #[.int .i64 a0] (spec_l11Digits.calls k a0 d _ j.out) ?_;rintro e m ⟨rfl,hb⟩;refine⟨_,rfl,?_⟩;replace HB:=sB HB hb;(try clear hb)))
 go_ret
 exact⟨sq,sb⟩
def spec_CaptureText.f (k:Nat) (a0_0:ByteArray) (a0_1:ByteArray) (a0_2:Int) (a0_3:Int):Option (ByteArray):=if a0_3=3 then(if a0_0.size+1≤9223372036854775807 then((spec_l16Digits.f k a0_2).bind fun t131=>(if a0_0.size+1+t131.size≤9223372036854775807 then(some ((a0_0++(⟨#[58]⟩:ByteArray))++t131))else(none)))else(none))else(if a0_3=1 then(if a0_0.size+1≤9223372036854775807 then((spec_l11Literal.f k a0_1).bind fun t132=>(if a0_0.size+1+t132.size≤9223372036854775807 then(some ((a0_0++(⟨#[58]⟩:ByteArray))++t132))else(none)))else(none))else(if a0_3=2 then(if a0_0.size+1≤9223372036854775807 then((spec_l11Literal.f k a0_1).bind fun t133=>(if a0_0.size+1+t133.size≤9223372036854775807 then(some ((a0_0++(⟨#[58]⟩:ByteArray))++t133))else(none)))else(none))else(some (⟨#[]⟩:ByteArray))))
def spec_CaptureText.T3:Bool×List (List Nat×List Nat):=(true,[([],[]),([0],[0]),([1],[1]),([],[]),([3],[3]),([4],[4]),([2,5],[2,5]),([6,5,0,1,2,3,4,5,6],[6])])
def spec_CaptureText.B3:List Nat:=[0,1,3,0,8,24,63,127]
theorem spec_CaptureText.tab3:rtab .any (opsOf Tryd.f10 3)=spec_CaptureText.T3:=by kernel_rfl
theorem spec_CaptureText.bits3:waitsOk spec_CaptureText.T3.2 spec_CaptureText.B3=true:=by kernel_rfl
def spec_CaptureText.T6:Bool×List (List Nat×List Nat):=(true,[([],[]),([0],[0]),([1],[1]),([],[]),([3],[3]),([4],[4]),([2,5],[2,5]),([6,5,0,1,2,3,4,5,6],[6])])
def spec_CaptureText.B6:List Nat:=[0,1,3,0,8,24,63,127]
theorem spec_CaptureText.tab6:rtab .any (opsOf Tryd.f10 6)=spec_CaptureText.T6:=by kernel_rfl
theorem spec_CaptureText.bits6:waitsOk spec_CaptureText.T6.2 spec_CaptureText.B6=true:=by kernel_rfl
set_option maxHeartbeats 8000000 in
set_option maxRecDepth 100000 in
theorem spec_CaptureText.calls (k:Nat) (a0_0:ByteArray) (a0_1:ByteArray) (a0_2:Int) (a0_3:Int) (r:ByteArray) (w:World) (h:spec_CaptureText.f k a0_0 a0_1 a0_2 a0_3=some r):
  Calls Tryd.prog 10 #[.agg #[.string a0_0,.string a0_1,.int .i64 a0_2,.int .i64 a0_3]] w fun e w'=>e= .returned (.string r)∧Below w.heap.size w w':=by
 have P:=Tryd.underlying26
 have HB:=zM (Below.refl w.heap.size w)
 have H:(if a0_3=3 then(if a0_0.size+1≤9223372036854775807 then((spec_l16Digits.f k a0_2).bind fun m=>(if a0_0.size+1+m.size≤9223372036854775807 then(some ((a0_0++(⟨#[58]⟩:ByteArray))++m))else(none)))else(none))else(if a0_3=1 then(if a0_0.size+1≤9223372036854775807 then((spec_l11Literal.f k a0_1).bind fun o=>(if a0_0.size+1+o.size≤9223372036854775807 then(some ((a0_0++(⟨#[58]⟩:ByteArray))++o))else(none)))else(none))else(if a0_3=2 then(if a0_0.size+1≤9223372036854775807 then((spec_l11Literal.f k a0_1).bind fun p=>(if a0_0.size+1+p.size≤9223372036854775807 then(some ((a0_0++(⟨#[58]⟩:ByteArray))++p))else(none)))else(none))else(some (⟨#[]⟩:ByteArray)))))=some r:=h
 clear h
 by_cases g:a0_3=3
 ·(
 rw[if_pos g]at H
 have c2b0:(a0_3==3)=true:=zE g
 have c2b1:(a0_3 !=3)=false:=zY g
 clear g
 by_cases q:a0_0.size+1≤9223372036854775807
 ·(
 rw[if_pos q]at H
 have c3b0:=eq_true q
 have c3b1:=zT q
 try have c3b2:(9223372036854775807<a0_0.size+1)=False:=eq_false (Nat.not_lt.2 q)
 obtain⟨m,G,H⟩:=sO H
 by_cases s:a0_0.size+1+m.size≤9223372036854775807
 ·(
 rw[if_pos s]at H
 have c5b0:=eq_true s
 have c5b1:=zT s
 try have c5b2:(9223372036854775807<a0_0.size+1+m.size)=False:=eq_false (Nat.not_lt.2 s)
 obtain rfl:=zI H
 go_enter Tryd.func10,Tryd.ntmps10
 try go_wp2_with (first|((with_reducible refine gate_dst (N:=1) rfl ?_);refine sV (N:=1) (cs:= #[.string a0_0,.string a0_1,.int .i64 a0_2,.int .i64 a0_3]) (t:=26) ?_;intro c hg I hbox hb;have a:=zM (hbox);have E:=sG HB hg;have F:=sG HB hg;replace HB:=sB HB hb;clear hb hbox hg;obtain⟨Q,R,T,U,V,W,X,Y⟩:=cells4 a.out))
 replace a:=zM (blk_drew a.out)
 replace HB:=zM (below_drew1 HB.out)
 refine start_ (n:=8) (S:=fun w'=>w'.cell? ⟨c,0,none⟩=some (.string a0_0)∧w'.cell? ⟨c,1,none⟩=some (.string a0_1)∧w'.cell? ⟨c,2,none⟩=some (.int .i64 a0_2)∧w'.cell? ⟨c,3,none⟩=some (.int .i64 a0_3)) (ds:=[]) #[false,false,false,false,false,false,false,false] (by kernel_rfl) rfl rfl ⟨(blk_cell a.out 0).trans rfl,(blk_cell a.out 1).trans rfl,(blk_cell a.out 2).trans rfl,(blk_cell a.out 3).trans rfl⟩ (fun hHeld=>?_);refine with_tabW spec_CaptureText.tab3 spec_CaptureText.bits3 (fun b d=>?_)
 generalize I.drew=w8 at a HB hHeld ⊢
 refine pure_ (i:=0) (N:=some 7) (v:=?_) (a':=?_) (bN 8 1) rfl rfl (any_of b.out (by kernel_rfl)) (fun _ _ _ h=>h) (Or.inl ⟨by rfl,?_⟩) ?_ ?_
 rotate_left
 ·(
 intro w'
 go_simp
 with_reducible rfl)
 rotate_left
 ·(
 simp only[zP,i64_w,i32_w]
 rfl)
 refine pure_ (i:=3) (N:=some 10) (v:=?_) (a':=?_) (bN 8 9) rfl rfl (any_of b.out (by kernel_rfl)) (fun _ _ _ h=>h) (Or.inl ⟨by rfl,?_⟩) ?_ ?_
 rotate_left
 ·(
 intro w'
 go_simp
 with_reducible rfl)
 rotate_left
 ·(
 simp only[zP,i64_w,i32_w]
 rfl)
 refine take_ (i:=1) (N:=some 8) (v:=?_) (a':=?_) (bN 8 11) rfl rfl (take_ofW b.out d.out (by kernel_rfl)) (fun _ _ _ h=>h) (Or.inl ⟨by rfl,?_⟩) hHeld ?_ ?_
 rotate_left
 ·(
 rintro w' ⟨u,x,y,z⟩
 go_simp
 with_reducible rfl)
 rotate_left
 ·(
 simp only[zP,i64_w,i32_w]
 rfl)
 refine pure_ (i:=2) (N:=some 9) (v:=?_) (a':=?_) (bN 8 15) rfl rfl (any_of b.out (by kernel_rfl)) (fun _ _ _ h=>h) (Or.inl ⟨by rfl,?_⟩) ?_ ?_
 rotate_left
 ·(
 intro w'
 go_simp
 with_reducible rfl)
 rotate_left
 ·(
 simp only[zP,i64_w,i32_w]
 rfl)
 refine take_ (i:=4) (N:=some 11) (v:=?_) (a':=?_) (bN 8 31) rfl rfl (take_ofW b.out d.out (by kernel_rfl)) (fun _ _ _ h=>h) (Or.inl ⟨by rfl,?_⟩) hHeld ?_ ?_
 rotate_left
 ·(
 rintro w' ⟨u,x,y,z⟩
 go_simp
 with_reducible rfl)
 rotate_left
 ·(
 simp only[zP,i64_w,i32_w]
 rfl)
 refine one_ (i:=5) (N:=some 12) (bN 8 63) rfl rfl (one_of b.out (by kernel_rfl)) (by decide) (fun K hK=>?_)
 refine goes_ Tryd.func35 (by kernel_rfl) rfl #[.int .i64 a0_2] (by rfl) rfl rfl (by(try simp only[List.map_toArray,List.map_cons,List.map_nil]);first|done|rfl|(simp only[List.length_drop,List.length_take];rfl)) ?_
 with_reducible refine(spec_l16Digits.calls k a0_2 m _ G.out).mono ?_
 rintro e Z ⟨rfl,hb⟩
 refine⟨_,rfl,?_⟩
 replace a:=sK a hb
 replace HB:=sB HB hb
 (try clear hb)
 (try clear hb2)
 (try clear hk)
 (try clear hi)
 refine hK.out _ _ ⟨(blk_cell a.out 0).trans rfl,(blk_cell a.out 1).trans rfl,(blk_cell a.out 2).trans rfl,(blk_cell a.out 3).trans rfl⟩ (fun hHeld=>?_)
 clear hK K
 refine norm_ (a':=?_) ?_ ?_
 rotate_left
 ·(
 show Act.put _ (some 12) _=_
 simp only[zP,i64_w,i32_w]
 rfl)
 refine pure_ (i:=6) (N:=some 13) (v:=?_) (a':=?_) (bN 8 127) rfl rfl (any_of b.out (by kernel_rfl)) (fun _ _ _ h=>h) (Or.inl ⟨by rfl,?_⟩) ?_ ?_
 rotate_left
 ·(
 intro w'
 go_simp
 with_reducible rfl)
 rotate_left
 ·(
 simp only[zP,i64_w,i32_w]
 rfl)
 refine pure_ (i:=7) (N:=some 2) (v:=?_) (a':=?_) (bN 8 255) rfl rfl (any_of b.out (by kernel_rfl)) (fun _ _ _ h=>h) (Or.inl ⟨by rfl,?_⟩) ?_ ?_
 rotate_left
 ·(
 intro w'
 go_simp
 with_reducible rfl)
 rotate_left
 ·(
 simp only[zP,i64_w,i32_w]
 rfl)
 refine done_ (done_of b.out (by kernel_rfl)) ?_
 try go_wp2
 go_ret
 exact⟨sq,sb⟩)
 rw[if_neg s]at H
 exact absurd H (by simp))
 rw[if_neg q]at H
 exact absurd H (by simp))
 rw[if_neg g]at H
 have c2b0:(a0_3==3)=false:=zN g
 have c2b1:(a0_3 !=3)=true:=zX g
 by_cases j:a0_3=1
 ·(
 rw[if_pos j]at H
 have c10b0:(a0_3==1)=true:=zE j
 have c10b1:(a0_3 !=1)=false:=zY j
 clear j
 by_cases A:a0_0.size+1≤9223372036854775807
 ·(
 rw[if_pos A]at H
 have c11b0:=eq_true A
 have c11b1:=zT A
 try have c11b2:(9223372036854775807<a0_0.size+1)=False:=eq_false (Nat.not_lt.2 A)
 obtain⟨o,J,H⟩:=sO H
 by_cases B:a0_0.size+1+o.size≤9223372036854775807
 ·(
 rw[if_pos B]at H
 have c13b0:=eq_true B
 have c13b1:=zT B
 try have c13b2:(9223372036854775807<a0_0.size+1+o.size)=False:=eq_false (Nat.not_lt.2 B)
 obtain rfl:=zI H
 go_enter Tryd.func10,Tryd.ntmps10
 try go_wp2_with (first|((with_reducible refine gate_dst (N:=1) rfl ?_);refine sV (N:=1) (cs:= #[.string a0_0,.string a0_1,.int .i64 a0_2,.int .i64 a0_3]) (t:=26) ?_;intro c hg L hbox hb;have a:=zM (hbox);have E:=sG HB hg;have F:=sG HB hg;replace HB:=sB HB hb;clear hb hbox hg;obtain⟨aa,ab,ac,ad,ae,af,ag,ah⟩:=cells4 a.out))
 replace a:=zM (blk_drew a.out)
 replace HB:=zM (below_drew1 HB.out)
 refine start_ (n:=8) (S:=fun w'=>w'.cell? ⟨c,0,none⟩=some (.string a0_0)∧w'.cell? ⟨c,1,none⟩=some (.string a0_1)∧w'.cell? ⟨c,2,none⟩=some (.int .i64 a0_2)∧w'.cell? ⟨c,3,none⟩=some (.int .i64 a0_3)) (ds:=[]) #[false,false,false,false,false,false,false,false] (by kernel_rfl) rfl rfl ⟨(blk_cell a.out 0).trans rfl,(blk_cell a.out 1).trans rfl,(blk_cell a.out 2).trans rfl,(blk_cell a.out 3).trans rfl⟩ (fun hHeld=>?_);refine with_tabW spec_CaptureText.tab6 spec_CaptureText.bits6 (fun b d=>?_)
 generalize L.drew=w16 at a HB hHeld ⊢
 refine pure_ (i:=0) (N:=some 17) (v:=?_) (a':=?_) (bN 8 1) rfl rfl (any_of b.out (by kernel_rfl)) (fun _ _ _ h=>h) (Or.inl ⟨by rfl,?_⟩) ?_ ?_
 rotate_left
 ·(
 intro w'
 go_simp
 with_reducible rfl)
 rotate_left
 ·(
 simp only[zP,i64_w,i32_w]
 rfl)
 refine pure_ (i:=3) (N:=some 20) (v:=?_) (a':=?_) (bN 8 9) rfl rfl (any_of b.out (by kernel_rfl)) (fun _ _ _ h=>h) (Or.inl ⟨by rfl,?_⟩) ?_ ?_
 rotate_left
 ·(
 intro w'
 go_simp
 with_reducible rfl)
 rotate_left
 ·(
 simp only[zP,i64_w,i32_w]
 rfl)
 refine take_ (i:=1) (N:=some 18) (v:=?_) (a':=?_) (bN 8 11) rfl rfl (take_ofW b.out d.out (by kernel_rfl)) (fun _ _ _ h=>h) (Or.inl ⟨by rfl,?_⟩) hHeld ?_ ?_
 rotate_left
 ·(
 rintro w' ⟨u,x,y,z⟩
 go_simp
 with_reducible rfl)
 rotate_left
 ·(
 simp only[zP,i64_w,i32_w]
 rfl)
 refine pure_ (i:=2) (N:=some 19) (v:=?_) (a':=?_) (bN 8 15) rfl rfl (any_of b.out (by kernel_rfl)) (fun _ _ _ h=>h) (Or.inl ⟨by rfl,?_⟩) ?_ ?_
 rotate_left
 ·(
 intro w'
 go_simp
 with_reducible rfl)
 rotate_left
 ·(
 simp only[zP,i64_w,i32_w]
 rfl)
 refine take_ (i:=4) (N:=some 21) (v:=?_) (a':=?_) (bN 8 31) rfl rfl (take_ofW b.out d.out (by kernel_rfl)) (fun _ _ _ h=>h) (Or.inl ⟨by rfl,?_⟩) hHeld ?_ ?_
 rotate_left
 ·(
 rintro w' ⟨u,x,y,z⟩
 go_simp
 with_reducible rfl)
 rotate_left
 ·(
 simp only[zP,i64_w,i32_w]
 rfl)
 refine one_ (i:=5) (N:=some 22) (bN 8 63) rfl rfl (one_of b.out (by kernel_rfl)) (by decide) (fun K hK=>?_)
 refine goes_ Tryd.func36 (by kernel_rfl) rfl #[.string a0_1] (by rfl) rfl rfl (by(try simp only[List.map_toArray,List.map_cons,List.map_nil]);first|done|rfl|(simp only[List.length_drop,List.length_take];rfl)) ?_
 with_reducible refine(spec_l11Literal.calls k a0_1 o _ J.out).mono ?_
 rintro e ai ⟨rfl,hb⟩
 refine⟨_,rfl,?_⟩
 replace a:=sK a hb
 replace HB:=sB HB hb
 (try clear hb)
 (try clear hb2)
 (try clear hk)
 (try clear hi)
 refine hK.out _ _ ⟨(blk_cell a.out 0).trans rfl,(blk_cell a.out 1).trans rfl,(blk_cell a.out 2).trans rfl,(blk_cell a.out 3).trans rfl⟩ (fun hHeld=>?_)
 clear hK K
 refine norm_ (a':=?_) ?_ ?_
 rotate_left
 ·(
 show Act.put _ (some 22) _=_
 simp only[zP,i64_w,i32_w]
 rfl)
 refine pure_ (i:=6) (N:=some 23) (v:=?_) (a':=?_) (bN 8 127) rfl rfl (any_of b.out (by kernel_rfl)) (fun _ _ _ h=>h) (Or.inl ⟨by rfl,?_⟩) ?_ ?_
 rotate_left
 ·(
 intro w'
 go_simp
 with_reducible rfl)
 rotate_left
 ·(
 simp only[zP,i64_w,i32_w]
 rfl)
 refine pure_ (i:=7) (N:=some 2) (v:=?_) (a':=?_) (bN 8 255) rfl rfl (any_of b.out (by kernel_rfl)) (fun _ _ _ h=>h) (Or.inl ⟨by rfl,?_⟩) ?_ ?_
 rotate_left
 ·(
 intro w'
 go_simp
 with_reducible rfl)
 rotate_left
 ·(
 simp only[zP,i64_w,i32_w]
 rfl)
 refine done_ (done_of b.out (by kernel_rfl)) ?_
 try go_wp2
 go_ret
 exact⟨sq,sb⟩)
 rw[if_neg B]at H
 exact absurd H (by simp))
 rw[if_neg A]at H
 exact absurd H (by simp))
 rw[if_neg j]at H
 have c10b0:(a0_3==1)=false:=zN j
 have c10b1:(a0_3 !=1)=true:=zX j
 by_cases l:a0_3=2
 ·(
 rw[if_pos l]at H
 have c18b0:(a0_3==2)=true:=zE l
 have c18b1:(a0_3 !=2)=false:=zY l
 clear l
 by_cases C:a0_0.size+1≤9223372036854775807
 ·(
 rw[if_pos C]at H
 have c19b0:=eq_true C
 have c19b1:=zT C
 try have c19b2:(9223372036854775807<a0_0.size+1)=False:=eq_false (Nat.not_lt.2 C)
 obtain⟨p,M,H⟩:=sO H
 by_cases D:a0_0.size+1+p.size≤9223372036854775807
 ·(
 rw[if_pos D]at H
 have c21b0:=eq_true D
 have c21b1:=zT D
 try have c21b2:(9223372036854775807<a0_0.size+1+p.size)=False:=eq_false (Nat.not_lt.2 D)
 obtain rfl:=zI H
 go_enter Tryd.func10,Tryd.ntmps10
 try go_wp2_with (first|((with_reducible refine gate_dst (N:=1) rfl ?_);refine sV (N:=1) (cs:= #[.string a0_0,.string a0_1,.int .i64 a0_2,.int .i64 a0_3]) (t:=26) ?_;intro c hg O hbox hb;have a:=zM (hbox);have E:=sG HB hg;have F:=sG HB hg;replace HB:=sB HB hb;clear hb hbox hg;obtain⟨aj,ak,al,am,an,ao,ap,aq⟩:=cells4 a.out))
 replace a:=zM (blk_drew a.out)
 replace HB:=zM (below_drew1 HB.out)
 refine start_ (n:=8) (S:=fun w'=>w'.cell? ⟨c,0,none⟩=some (.string a0_0)∧w'.cell? ⟨c,1,none⟩=some (.string a0_1)∧w'.cell? ⟨c,2,none⟩=some (.int .i64 a0_2)∧w'.cell? ⟨c,3,none⟩=some (.int .i64 a0_3)) (ds:=[]) #[false,false,false,false,false,false,false,false] (by kernel_rfl) rfl rfl ⟨(blk_cell a.out 0).trans rfl,(blk_cell a.out 1).trans rfl,(blk_cell a.out 2).trans rfl,(blk_cell a.out 3).trans rfl⟩ (fun hHeld=>?_);refine with_tabW spec_CaptureText.tab6 spec_CaptureText.bits6 (fun b d=>?_)
 generalize O.drew=w24 at a HB hHeld ⊢
 refine pure_ (i:=0) (N:=some 17) (v:=?_) (a':=?_) (bN 8 1) rfl rfl (any_of b.out (by kernel_rfl)) (fun _ _ _ h=>h) (Or.inl ⟨by rfl,?_⟩) ?_ ?_
 rotate_left
 ·(
 intro w'
 go_simp
 with_reducible rfl)
 rotate_left
 ·(
 simp only[zP,i64_w,i32_w]
 rfl)
 refine pure_ (i:=3) (N:=some 20) (v:=?_) (a':=?_) (bN 8 9) rfl rfl (any_of b.out (by kernel_rfl)) (fun _ _ _ h=>h) (Or.inl ⟨by rfl,?_⟩) ?_ ?_
 rotate_left
 ·(
 intro w'
 go_simp
 with_reducible rfl)
 rotate_left
 ·(
 simp only[zP,i64_w,i32_w]
 rfl)
 refine take_ (i:=1) (N:=some 18) (v:=?_) (a':=?_) (bN 8 11) rfl rfl (take_ofW b.out d.out (by kernel_rfl)) (fun _ _ _ h=>h) (Or.inl ⟨by rfl,?_⟩) hHeld ?_ ?_
 rotate_left
 ·(
 rintro w' ⟨u,x,y,z⟩
 go_simp
 with_reducible rfl)
 rotate_left
 ·(
 simp only[zP,i64_w,i32_w]
 rfl)
 refine pure_ (i:=2) (N:=some 19) (v:=?_) (a':=?_) (bN 8 15) rfl rfl (any_of b.out (by kernel_rfl)) (fun _ _ _ h=>h) (Or.inl ⟨by rfl,?_⟩) ?_ ?_
 rotate_left
 ·(
 intro w'
 go_simp
 with_reducible rfl)
 rotate_left
 ·(
 simp only[zP,i64_w,i32_w]
 rfl)
 refine take_ (i:=4) (N:=some 21) (v:=?_) (a':=?_) (bN 8 31) rfl rfl (take_ofW b.out d.out (by kernel_rfl)) (fun _ _ _ h=>h) (Or.inl ⟨by rfl,?_⟩) hHeld ?_ ?_
 rotate_left
 ·(
 rintro w' ⟨u,x,y,z⟩
 go_simp
 with_reducible rfl)
 rotate_left
 ·(
 simp only[zP,i64_w,i32_w]
 rfl)
 refine one_ (i:=5) (N:=some 22) (bN 8 63) rfl rfl (one_of b.out (by kernel_rfl)) (by decide) (fun K hK=>?_)
 refine goes_ Tryd.func36 (by kernel_rfl) rfl #[.string a0_1] (by rfl) rfl rfl (by(try simp only[List.map_toArray,List.map_cons,List.map_nil]);first|done|rfl|(simp only[List.length_drop,List.length_take];rfl)) ?_
 with_reducible refine(spec_l11Literal.calls k a0_1 p _ M.out).mono ?_
 rintro e ar ⟨rfl,hb⟩
 refine⟨_,rfl,?_⟩
 replace a:=sK a hb
 replace HB:=sB HB hb
 (try clear hb)
 (try clear hb2)
 (try clear hk)
 (try clear hi)
 refine hK.out _ _ ⟨(blk_cell a.out 0).trans rfl,(blk_cell a.out 1).trans rfl,(blk_cell a.out 2).trans rfl,(blk_cell a.out 3).trans rfl⟩ (fun hHeld=>?_)
 clear hK K
 refine norm_ (a':=?_) ?_ ?_
 rotate_left
 ·(
 show Act.put _ (some 22) _=_
 simp only[zP,i64_w,i32_w]
 rfl)
 refine pure_ (i:=6) (N:=some 23) (v:=?_) (a':=?_) (bN 8 127) rfl rfl (any_of b.out (by kernel_rfl)) (fun _ _ _ h=>h) (Or.inl ⟨by rfl,?_⟩) ?_ ?_
 rotate_left
 ·(
 intro w'
 go_simp
 with_reducible rfl)
 rotate_left
 ·(
 simp only[zP,i64_w,i32_w]
 rfl)
 refine pure_ (i:=7) (N:=some 2) (v:=?_) (a':=?_) (bN 8 255) rfl rfl (any_of b.out (by kernel_rfl)) (fun _ _ _ h=>h) (Or.inl ⟨by rfl,?_⟩) ?_ ?_
 rotate_left
 ·(
 intro w'
 go_simp
 with_reducible rfl)
 rotate_left
 ·(
 simp only[zP,i64_w,i32_w]
 rfl)
 refine done_ (done_of b.out (by kernel_rfl)) ?_
 try go_wp2
 go_ret
 exact⟨sq,sb⟩)
 rw[if_neg D]at H
 exact absurd H (by simp))
 rw[if_neg C]at H
 exact absurd H (by simp))
 rw[if_neg l]at H
 have c18b0:(a0_3==2)=false:=zN l
 have c18b1:(a0_3 !=2)=true:=zX l
 obtain rfl:=zI H
 go_enter Tryd.func10,Tryd.ntmps10
 go_wp2_with (first|((with_reducible refine gate_dst (N:=1) rfl ?_);refine sV (N:=1) (cs:= #[.string a0_0,.string a0_1,.int .i64 a0_2,.int .i64 a0_3]) (t:=26) ?_;intro c hg au hbox hb;have a:=zM (hbox);have E:=sG HB hg;have F:=sG HB hg;replace HB:=sB HB hb;clear hb hbox hg;obtain⟨av,aw,ax,ay,az,aA,aB,aC⟩:=cells4 a.out))
 go_ret
 exact⟨sq,sb⟩
def laws_FnExactCaptureText.f (k:Nat) (a0_0:ByteArray) (a0_1:ByteArray) (a0_2:Int) (a0_3:Int):Option (Bool):=(laws_szCapture.f a0_0 a0_1 a0_2 a0_3 1048576).bind fun t163=>(if t163<0 then(some true)else((laws_toCapture.f a0_0 a0_1 a0_2 a0_3).bind fun bt164=>((spec_CaptureText.f k bt164.1 bt164.2.1 bt164.2.2.1 bt164.2.2.2).bind fun t168=>((laws_toCapture.f a0_0 a0_1 a0_2 a0_3).bind fun bt169=>((impl_CaptureText.f bt169.1 bt169.2.1 bt169.2.2.1 bt169.2.2.2).bind fun t173=>(if t173.toList=t168.toList then(some true)else(some false)))))))
set_option maxHeartbeats 8000000 in
set_option maxRecDepth 100000 in
theorem laws_FnExactCaptureText.calls (k:Nat) (a0_0:ByteArray) (a0_1:ByteArray) (a0_2:Int) (a0_3:Int) (w:World) (h:laws_FnExactCaptureText.f k a0_0 a0_1 a0_2 a0_3=some true) (HT:EnvT w):
  Calls Tryd.prog 3 #[.agg #[.string a0_0,.string a0_1,.int .i64 a0_2,.int .i64 a0_3]] w fun e w'=>e= .returned (.bool true)∧Below w.heap.size w w':=by
 have M:=Tryd.underlying23
 have HB:=zM (Below.refl w.heap.size w)
 have H:((laws_szCapture.f a0_0 a0_1 a0_2 a0_3 1048576).bind fun l=>(if l<0 then(some true)else((laws_toCapture.f a0_0 a0_1 a0_2 a0_3).bind fun m=>((spec_CaptureText.f k m.1 m.2.1 m.2.2.1 m.2.2.2).bind fun c=>((laws_toCapture.f a0_0 a0_1 a0_2 a0_3).bind fun d=>((impl_CaptureText.f d.1 d.2.1 d.2.2.1 d.2.2.2).bind fun b=>(if b.toList=c.toList then(some true)else(some false))))))))=some true:=h
 clear h
 obtain⟨l,A,H⟩:=sO H
 by_cases j:l<0
 ·(
 rw[if_pos j]at H
 have c3b0:=zT j
 clear j
 clear H
 go_enter Tryd.func3,Tryd.ntmps3
 go_wp2_with (first|((with_reducible refine gate_dst (N:=1) rfl ?_);refine sV (N:=1) (cs:= #[.string a0_0,.string a0_1,.int .i64 a0_2,.int .i64 a0_3]) (t:=23) ?_;intro D hg O hbox hb;have a:=zM (hbox);have E:=sG HB hg;have F:=sG HB hg;replace HB:=sB HB hb;clear hb hbox hg;obtain⟨P,Q,R,T,U,V,W,X⟩:=cells4 a.out)|((with_reducible refine gate_callee (f:=9) rfl ?_);refine sC (some 8) Tryd.func9 #[.agg #[.string a0_0,.string a0_1,.int .i64 a0_2,.int .i64 a0_3],.int .i64 1048576] (laws_szCapture.calls a0_0 a0_1 a0_2 a0_3 1048576 l _ A.out) ?_;rintro e Y ⟨rfl,hb⟩;refine⟨_,rfl,?_⟩;replace a:=sK a hb;replace HB:=sB HB hb;(try clear hb)))
 go_ret
 exact⟨sq,sb⟩)
 rw[if_neg j]at H
 have c3b0:=zF j
 clear j
 replace H:=Option.bind_eq_some_iff.mp H
 obtain⟨⟨o,p,q,s⟩,B,H⟩:=H
 replace H:((spec_CaptureText.f k o p q s).bind fun c=>((laws_toCapture.f a0_0 a0_1 a0_2 a0_3).bind fun d=>((impl_CaptureText.f d.1 d.2.1 d.2.2.1 d.2.2.2).bind fun b=>(if b.toList=c.toList then(some true)else(some false)))))=some true:=H
 have G:=zM B
 clear B
 obtain⟨c,I,H⟩:=sO H
 replace H:=Option.bind_eq_some_iff.mp H
 obtain⟨⟨u,x,y,z⟩,C,H⟩:=H
 replace H:((impl_CaptureText.f u x y z).bind fun b=>(if b.toList=c.toList then(some true)else(some false)))=some true:=H
 have J:=zM C
 clear C
 obtain⟨b,L,H⟩:=sO H
 by_cases g:b.toList=c.toList
 ·(
 rw[if_pos g]at H
 have c11b0:(b.toList==c.toList)=true:=zE g
 have c11b1:(b.toList !=c.toList)=false:=zY g
 clear g
 clear H
 go_enter Tryd.func3,Tryd.ntmps3
 go_wp2_with (first|((with_reducible refine gate_dst (N:=1) rfl ?_);refine sV (N:=1) (cs:= #[.string a0_0,.string a0_1,.int .i64 a0_2,.int .i64 a0_3]) (t:=23) ?_;intro D hg Z hbox hb;have a:=zM (hbox);have E:=sG HB hg;have F:=sG HB hg;replace HB:=sB HB hb;clear hb hbox hg;obtain⟨aa,ab,ac,ad,ae,af,ag,ah⟩:=cells4 a.out)|((with_reducible refine gate_callee (f:=9) rfl ?_);refine sC (some 8) Tryd.func9 #[.agg #[.string a0_0,.string a0_1,.int .i64 a0_2,.int .i64 a0_3],.int .i64 1048576] (laws_szCapture.calls a0_0 a0_1 a0_2 a0_3 1048576 l _ A.out) ?_;rintro e ai ⟨rfl,hb⟩;refine⟨_,rfl,?_⟩;replace a:=sK a hb;replace HB:=sB HB hb;(try clear hb);obtain⟨aj,ak,al,am,an,ao,ap,aq⟩:=cells4 a.out)|((with_reducible refine gate_callee (f:=11) rfl ?_);refine sC (some 12) Tryd.func11 #[.agg #[.string a0_0,.string a0_1,.int .i64 a0_2,.int .i64 a0_3]] (laws_toCapture.calls a0_0 a0_1 a0_2 a0_3 o p q s _ G.out) ?_;rintro e ar ⟨rfl,hb⟩;refine⟨_,rfl,?_⟩;replace a:=sK a hb;replace HB:=sB HB hb;(try clear hb))|((with_reducible refine gate_callee (f:=10) rfl ?_);refine sC (some 13) Tryd.func10 #[.agg #[.string o,.string p,.int .i64 q,.int .i64 s]] (spec_CaptureText.calls k o p q s c _ I.out) ?_;rintro e au ⟨rfl,hb⟩;refine⟨_,rfl,?_⟩;replace a:=sK a hb;replace HB:=sB HB hb;(try clear hb);obtain⟨av,aw,ax,ay,az,aA,aB,aC⟩:=cells4 a.out)|((with_reducible refine gate_callee (f:=11) rfl ?_);refine sC (some 15) Tryd.func11 #[.agg #[.string a0_0,.string a0_1,.int .i64 a0_2,.int .i64 a0_3]] (laws_toCapture.calls a0_0 a0_1 a0_2 a0_3 u x y z _ J.out) ?_;rintro e aD ⟨rfl,hb⟩;refine⟨_,rfl,?_⟩;replace a:=sK a hb;replace HB:=sB HB hb;(try clear hb))|((with_reducible refine gate_callee (f:=12) rfl ?_);refine sC (some 16) Tryd.func12 #[.agg #[.string u,.string x,.int .i64 y,.int .i64 z]] (impl_CaptureText.calls u x y z b _ L.out (by first|with_reducible exact HT|exact EnvT.below HT sb)) ?_;rintro e aE ⟨rfl,hb⟩;refine⟨_,rfl,?_⟩;replace a:=sK a hb;replace HB:=sB HB hb;(try clear hb)))
 go_ret
 exact⟨sq,sb⟩)
 rw[if_neg g]at H
 have c11b0:(b.toList==c.toList)=false:=zN g
 have c11b1:(b.toList !=c.toList)=true:=zX g
 exact absurd H (by simp)
end Go.Proofs.YtjmojijopammjaaDoor.PFnExactCaptureText
