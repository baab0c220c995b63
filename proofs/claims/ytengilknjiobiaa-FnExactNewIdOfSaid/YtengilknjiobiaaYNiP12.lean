/- Printed functions: spec_l08Valid, spec_NewIdOf, laws_FnExactNewIdOf. -/
import Derived.Test.YtengilknjiobiaaYNiP0
import Derived.Test.YtengilknjiobiaaYNiP1
import Derived.Test.YtengilknjiobiaaYNiP2
import Derived.Test.YtengilknjiobiaaYNiP3
import Derived.Test.YtengilknjiobiaaYNiP9
import Derived.Test.YtengilknjiobiaaYNiP11
import Derived.Test.YtengilknjiobiaaYNiP14
import Derived.Test.YtengilknjiobiaaYNiP15
import Derived.Test.YtengilknjiobiaaYNiP20
import Derived.Test.YtengilknjiobiaaYNiP25
import Derived.Test.YtengilknjiobiaaYNiP27
namespace Go.Proofs.Ytengilknjiobiaa.PFnExactNewIdOf
open Go.RowKit Go.Proofs.YtengilknjiobiaaG Go.Proofs.YtengilknjiobiaaW.PrintWords Go.Proofs.YtengilknjiobiaaW.PrintLast Go.Proofs.YtengilknjiobiaaW.PrintMore
attribute [local go_sem] max2_int min2_int max_two min_two max_three min_three max_four min_four
set_option linter.unusedVariables false
set_option linter.unusedSimpArgs false
def spec_l08Valid.f (k:Nat) (l0:List (S34)) (l1:List (S29)):Option (Bool):=(spec_l07Ok.f k l0).bind fun t234=>(if t234=true then((spec_l07FitAll.f k l0 l1).bind fun t235=>(some t235))else(some false))
set_option maxHeartbeats 8000000 in
set_option maxRecDepth 100000 in
theorem spec_l08Valid.calls (k:Nat) (A0:Option Addr) (l0:List (S34)) (A1:Option Addr) (c1:Nat) (l1:List (S29)) (r:Bool) (w:World) (hr0:Kd.C k34 w A0 l0.length l0) (hr1:Kd.C k29 w A1 l1.length l1) (hc1:l1.length≤c1) (h:spec_l08Valid.f k l0 l1=some r):
  Calls Try.prog 66 #[.pointer A0,.slice A1 l1.length c1] w fun e w'=>e= .returned (.bool r)∧Below w.heap.size w w':=by
 have b:=zM hr0
 have q:=zM (Nat.le_refl l0.length)
 clear hr0
 have l:=zM hr1
 have m:=zM hc1
 clear hr1 hc1
 have HB:=zM (Below.refl w.heap.size w)
 have H:((spec_l07Ok.f k l0).bind fun c=>(if c=true then((spec_l07FitAll.f k l0 l1).bind fun d=>(some d))else(some false)))=some r:=h
 clear h
 obtain⟨c,j,H⟩:=sO H
 by_cases a:c=true
 ·(
 subst a
 rewrite[if_pos rfl]at H
 obtain⟨d,p,H⟩:=sO H
 obtain rfl:=zI H
 go_enter Try.func66,Try.ntmps66
 go_wp2_with (first|((with_reducible refine gate_callee (f:=72) rfl ?_);refine sC (some 6) Try.func72 #[.pointer A0] (spec_l07Ok.calls k _ l0 true _ ?side1 j.out) ?_;(case side1=>exact sD b.out);rintro e s ⟨rfl,hb⟩;refine⟨_,rfl,?_⟩;replace HB:=sB HB hb;(try clear hb))|(go_at_call 73;(with_reducible refine(spec_l07FitAll.calls k _ l0 _ _ l1 d _ ?side1 ?side2 ?side3 p.out).mono ?_);(case side1=>exact sD (zC b.out HB.out));(case side2=>exact sD (zC l.out HB.out));(case side3=>exact m.out);rintro e u ⟨rfl,hb⟩;replace HB:=sB HB hb;(try clear hb)))
 go_ret
 exact⟨sq,sb⟩)
 replace a:=zB a
 subst a
 rewrite[if_neg zQ]at H
 obtain rfl:=zI H
 go_enter Try.func66,Try.ntmps66
 go_wp2_with (first|((with_reducible refine gate_callee (f:=72) rfl ?_);refine sC (some 6) Try.func72 #[.pointer A0] (spec_l07Ok.calls k _ l0 false _ ?side1 j.out) ?_;(case side1=>exact sD b.out);rintro e x ⟨rfl,hb⟩;refine⟨_,rfl,?_⟩;replace HB:=sB HB hb;(try clear hb)))
 go_ret
 exact⟨sq,sb⟩
def spec_NewIdOf.f (k:Nat) (a0_0:Int) (l0_1:List (S56)) (l1:List (S29)) (a2:Int):Option (Int):=(spec_l08Valid.f k [(⟨a0_0,l0_1⟩:S34)] l1).bind fun t267=>(if t267=true then((spec_l08Trace.f k [(⟨a0_0,l0_1⟩:S34)] l1).bind fun t268=>((spec_l08New.f k t268 a2).bind fun t271=>(some t271)))else(some 0))
set_option maxHeartbeats 8000000 in
set_option maxRecDepth 100000 in
theorem spec_NewIdOf.calls (k:Nat) (a0_0:Int) (A0_1:Option Addr) (c0_1:Nat) (l0_1:List (S56)) (A1:Option Addr) (c1:Nat) (l1:List (S29)) (a2:Int) (r:Int) (w:World) (hr0_1:Kd.C k56 w A0_1 l0_1.length l0_1) (hc0_1:l0_1.length≤c0_1) (hr1:Kd.C k29 w A1 l1.length l1) (hc1:l1.length≤c1) (h:spec_NewIdOf.f k a0_0 l0_1 l1 a2=some r):
  Calls Try.prog 35 #[.agg #[.int .i64 a0_0,.slice A0_1 l0_1.length c0_1],.slice A1 l1.length c1,.int .i64 a2] w fun e w'=>e= .returned (.int .i64 r)∧Below w.heap.size w w':=by
 have I:=Try.underlying34
 have j:=zM hr0_1
 have l:=zM hc0_1
 clear hr0_1 hc0_1
 have m:=zM hr1
 have p:=zM hc1
 clear hr1 hc1
 have HB:=zM (Below.refl w.heap.size w)
 have H:((spec_l08Valid.f k [(⟨a0_0,l0_1⟩:S34)] l1).bind fun q=>(if q=true then((spec_l08Trace.f k [(⟨a0_0,l0_1⟩:S34)] l1).bind fun b=>((spec_l08New.f k b a2).bind fun s=>(some s)))else(some 0)))=some r:=h
 clear h
 obtain⟨q,x,H⟩:=sO H
 by_cases c:q=true
 ·(
 subst c
 rewrite[if_pos rfl]at H
 obtain⟨b,A,H⟩:=sO H
 obtain⟨s,B,H⟩:=sO H
 obtain rfl:=zI H
 go_enter Try.func35,Try.ntmps35
 go_wp2_with (first|((with_reducible refine gate_dst (N:=3) rfl ?_);refine sV (N:=3) (cs:= #[.int .i64 a0_0,.slice A0_1 l0_1.length c0_1]) (t:=34) ?_;intro d hg J hbox hb;have a:=zM (hbox);have D:=sG HB hg;have y:=sG HB hg;replace HB:=sB HB hb;clear hb hbox hg)|((with_reducible refine gate_callee (f:=66) rfl ?_);refine sC (some 8) Try.func66 #[.pointer (some ⟨d,0,none⟩),.slice A1 l1.length c1] (spec_l08Valid.calls k _ [(⟨a0_0,l0_1⟩:S34)] _ _ l1 true _ ?side1 ?side2 ?side3 x.out) ?_;(case side1=>exact C_box (t:=34) (sT a.out) (k34_mk _ (⟨a0_0,l0_1⟩:S34) (by exact l.out) (by exact sD (zC j.out HB.out))));(case side2=>exact sD (zC m.out HB.out));(case side3=>exact p.out);rintro e L ⟨rfl,hb⟩;refine⟨_,rfl,?_⟩;replace a:=sK a hb;replace HB:=sB HB hb;(try clear hb))|((with_reducible refine gate_callee (f:=68) rfl ?_);refine sC (some 11) Try.func68 #[.pointer (some ⟨d,0,none⟩),.slice A1 l1.length c1] (spec_l08Trace.calls k _ [(⟨a0_0,l0_1⟩:S34)] _ _ l1 b _ ?side1 ?side2 ?side3 A.out) ?_;(case side1=>exact C_box (t:=34) (sT a.out) (k34_mk _ (⟨a0_0,l0_1⟩:S34) (by exact l.out) (by exact sD (zC j.out HB.out))));(case side2=>exact sD (zC m.out HB.out));(case side3=>exact p.out);rintro e M ⟨O,rfl,z,hb⟩;refine⟨_,rfl,?_⟩;have u:=zM (Kd.R_lower z (below_size (by repeat(first|(with_reducible first|exact HB.out|apply below_alloc|apply pw_below_drewN|apply below_drew1|refine below_set ?_ y.out)|exact HB.out))));replace a:=sK a hb;replace HB:=sB HB hb;(try clear hb);(try clear z);obtain⟨E,F,G⟩:=Kd.R_slice u.out;subst G)|((with_reducible refine gate_callee (f:=67) rfl ?_);refine sC (some 13) Try.func67 #[.slice E b.length F,.int .i64 a2] (spec_l08New.calls k _ _ b a2 s _ ?side1 ?side2 B.out) ?_;(case side1=>exact sD ((Kd.R_reads' u.out).2.2));(case side2=>exact(Kd.R_reads' u.out).2.1);rintro e w' ⟨rfl,⟨nd,rfl⟩⟩;refine⟨_,rfl,?_⟩))
 go_ret
 exact⟨sq,sb⟩)
 replace c:=zB c
 subst c
 rewrite[if_neg zQ]at H
 obtain rfl:=zI H
 go_enter Try.func35,Try.ntmps35
 go_wp2_with (first|((with_reducible refine gate_dst (N:=3) rfl ?_);refine sV (N:=3) (cs:= #[.int .i64 a0_0,.slice A0_1 l0_1.length c0_1]) (t:=34) ?_;intro d hg P hbox hb;have a:=zM (hbox);have D:=sG HB hg;have y:=sG HB hg;replace HB:=sB HB hb;clear hb hbox hg)|((with_reducible refine gate_callee (f:=66) rfl ?_);refine sC (some 8) Try.func66 #[.pointer (some ⟨d,0,none⟩),.slice A1 l1.length c1] (spec_l08Valid.calls k _ [(⟨a0_0,l0_1⟩:S34)] _ _ l1 false _ ?side1 ?side2 ?side3 x.out) ?_;(case side1=>exact C_box (t:=34) (sT a.out) (k34_mk _ (⟨a0_0,l0_1⟩:S34) (by exact l.out) (by exact sD (zC j.out HB.out))));(case side2=>exact sD (zC m.out HB.out));(case side3=>exact p.out);rintro e Q ⟨rfl,hb⟩;refine⟨_,rfl,?_⟩;replace a:=sK a hb;replace HB:=sB HB hb;(try clear hb)))
 go_ret
 exact⟨sq,sb⟩
def laws_FnExactNewIdOf.f (k:Nat) (a0_0:Int) (l0_1:List (S51)) (l1:List (S26)) (a2:Int):Option (Bool):=(laws_szHeap.f k a0_0 l0_1 1048576).bind fun t434=>(if t434<0 then(some true)else((laws_szValueS.f k l1 t434).bind fun t435=>(if t435<0 then(some true)else((laws_toHeap.f k a0_0 l0_1).bind fun bt436=>((laws_toValueS.f k l1).bind fun t440=>((spec_NewIdOf.f k bt436.1 bt436.2 t440 a2).bind fun t443=>((laws_toHeap.f k a0_0 l0_1).bind fun bt444=>((laws_toValueS.f k l1).bind fun t449=>((impl_NewIdOf.f k bt444.1 bt444.2 t449 a2).bind fun t452=>(if t452=t443 then((laws_toHeap.f k a0_0 l0_1).bind fun bt453=>((laws_eqHeap.f k bt444.1 bt444.2 bt453.1 bt453.2).bind fun t457=>(if t457=true then((laws_toValueS.f k l1).bind fun t458=>((laws_eqValueS.f k t449 t458).bind fun t461=>(if t461=true then(some true)else(some false))))else(some false))))else(some false)))))))))))
set_option maxHeartbeats 8000000 in
set_option maxRecDepth 100000 in
theorem laws_FnExactNewIdOf.calls (k:Nat) (a0_0:Int) (A0_1:Option Addr) (c0_1:Nat) (l0_1:List (S51)) (A1:Option Addr) (c1:Nat) (l1:List (S26)) (a2:Int) (w:World) (hr0_1:Kd.C k51 w A0_1 l0_1.length l0_1) (hc0_1:l0_1.length≤c0_1) (hr1:Kd.C k26 w A1 l1.length l1) (hc1:l1.length≤c1) (h:laws_FnExactNewIdOf.f k a0_0 l0_1 l1 a2=some true):
  Calls Try.prog 7 #[.agg #[.int .i64 a0_0,.slice A0_1 l0_1.length c0_1],.slice A1 l1.length c1,.int .i64 a2] w fun e w'=>e= .returned (.bool true)∧Below w.heap.size w w':=by
 have a4:=Try.underlying24
 have a5:=Try.underlying34
 have O:=zM hr0_1
 have P:=zM hc0_1
 clear hr0_1 hc0_1
 have T:=zM hr1
 have U:=zM hc1
 clear hr1 hc1
 have HB:=zM (Below.refl w.heap.size w)
 have H:((laws_szHeap.f k a0_0 l0_1 1048576).bind fun s=>(if s<0 then(some true)else((laws_szValueS.f k l1 s).bind fun V=>(if V<0 then(some true)else((laws_toHeap.f k a0_0 l0_1).bind fun ai=>((laws_toValueS.f k l1).bind fun I=>((spec_NewIdOf.f k ai.1 ai.2 I a2).bind fun u=>((laws_toHeap.f k a0_0 l0_1).bind fun A=>((laws_toValueS.f k l1).bind fun p=>((impl_NewIdOf.f k A.1 A.2 p a2).bind fun q=>(if q=u then((laws_toHeap.f k a0_0 l0_1).bind fun G=>((laws_eqHeap.f k A.1 A.2 G.1 G.2).bind fun B=>(if B=true then((laws_toValueS.f k l1).bind fun x=>((laws_eqValueS.f k p x).bind fun D=>(if D=true then(some true)else(some false))))else(some false))))else(some false))))))))))))=some true:=h
 clear h
 obtain⟨s,A4,H⟩:=sO H
 by_cases Q:s<0
 ·(
 rw[if_pos Q]at H
 have c5b0:=zT Q
 clear Q
 clear H
 go_enter Try.func7,Try.ntmps7
 go_wp2_with (first|((with_reducible refine gate_dst (N:=3) rfl ?_);refine sV (N:=3) (cs:= #[.int .i64 a0_0,.slice A0_1 l0_1.length c0_1]) (t:=24) ?_;intro W hg w6 hbox hb;have a:=zM (hbox);have aj:=sG HB hg;have E:=sG HB hg;replace HB:=sB HB hb;clear hb hbox hg;obtain⟨a6,a7,a8,a9⟩:=cells2 a.out)|((with_reducible refine gate_callee (f:=9) rfl ?_);refine sC (some 14) Try.func9 #[.agg #[.int .i64 a0_0,.slice A0_1 l0_1.length c0_1],.int .i64 1048576] (laws_szHeap.calls k a0_0 _ _ l0_1 1048576 s _ ?side1 ?side2 A4.out) ?_;(case side1=>exact sD (zC O.out HB.out));(case side2=>exact P.out);rintro e w8 ⟨rfl,hb⟩;refine⟨_,rfl,?_⟩;replace a:=sK a hb;replace HB:=sB HB hb;(try clear hb)))
 go_ret
 exact⟨sq,sb⟩)
 rw[if_neg Q]at H
 have c5b0:=zF Q
 clear Q
 obtain⟨V,A9,H⟩:=sO H
 by_cases R:V<0
 ·(
 rw[if_pos R]at H
 have c10b0:=zT R
 clear R
 clear H
 go_enter Try.func7,Try.ntmps7
 go_wp2_with (first|((with_reducible refine gate_dst (N:=3) rfl ?_);refine sV (N:=3) (cs:= #[.int .i64 a0_0,.slice A0_1 l0_1.length c0_1]) (t:=24) ?_;intro W hg ba hbox hb;have a:=zM (hbox);have aj:=sG HB hg;have E:=sG HB hg;replace HB:=sB HB hb;clear hb hbox hg;obtain⟨bb,bc,bd,be⟩:=cells2 a.out)|((with_reducible refine gate_callee (f:=9) rfl ?_);refine sC (some 14) Try.func9 #[.agg #[.int .i64 a0_0,.slice A0_1 l0_1.length c0_1],.int .i64 1048576] (laws_szHeap.calls k a0_0 _ _ l0_1 1048576 s _ ?side1 ?side2 A4.out) ?_;(case side1=>exact sD (zC O.out HB.out));(case side2=>exact P.out);rintro e bf ⟨rfl,hb⟩;refine⟨_,rfl,?_⟩;replace a:=sK a hb;replace HB:=sB HB hb;(try clear hb))|((with_reducible refine gate_callee (f:=34) rfl ?_);refine sC (some 19) Try.func34 #[.slice A1 l1.length c1,.int .i64 s] (laws_szValueS.calls k _ _ l1 s V _ ?side1 ?side2 A9.out) ?_;(case side1=>exact sD (zC T.out HB.out));(case side2=>exact U.out);rintro e bg ⟨rfl,hb⟩;refine⟨_,rfl,?_⟩;replace a:=sK a hb;replace HB:=sB HB hb;(try clear hb)))
 go_ret
 exact⟨sq,sb⟩)
 rw[if_neg R]at H
 have c10b0:=zF R
 clear R
 replace H:=Option.bind_eq_some_iff.mp H
 obtain⟨⟨Y,Z⟩,ak,H⟩:=H
 replace H:((laws_toValueS.f k l1).bind fun I=>((spec_NewIdOf.f k Y Z I a2).bind fun u=>((laws_toHeap.f k a0_0 l0_1).bind fun A=>((laws_toValueS.f k l1).bind fun p=>((impl_NewIdOf.f k A.1 A.2 p a2).bind fun q=>(if q=u then((laws_toHeap.f k a0_0 l0_1).bind fun G=>((laws_eqHeap.f k A.1 A.2 G.1 G.2).bind fun B=>(if B=true then((laws_toValueS.f k l1).bind fun x=>((laws_eqValueS.f k p x).bind fun D=>(if D=true then(some true)else(some false))))else(some false))))else(some false)))))))=some true:=H
 have aB:=zM ak
 clear ak
 obtain⟨I,aC,H⟩:=sO H
 obtain⟨u,aD,H⟩:=sO H
 replace H:=Option.bind_eq_some_iff.mp H
 obtain⟨⟨y,z⟩,al,H⟩:=H
 replace H:((laws_toValueS.f k l1).bind fun p=>((impl_NewIdOf.f k y z p a2).bind fun q=>(if q=u then((laws_toHeap.f k a0_0 l0_1).bind fun G=>((laws_eqHeap.f k y z G.1 G.2).bind fun B=>(if B=true then((laws_toValueS.f k l1).bind fun x=>((laws_eqValueS.f k p x).bind fun D=>(if D=true then(some true)else(some false))))else(some false))))else(some false))))=some true:=H
 have aE:=zM al
 clear al
 obtain⟨p,aF,H⟩:=sO H
 obtain⟨q,aG,H⟩:=sO H
 by_cases J:q=u
 ·(
 rw[if_pos J]at H
 have c21b0:(q==u)=true:=zE J
 have c21b1:(q !=u)=false:=zY J
 clear J
 replace H:=Option.bind_eq_some_iff.mp H
 obtain⟨⟨aa,ab⟩,am,H⟩:=H
 replace H:((laws_eqHeap.f k y z aa ab).bind fun B=>(if B=true then((laws_toValueS.f k l1).bind fun x=>((laws_eqValueS.f k p x).bind fun D=>(if D=true then(some true)else(some false))))else(some false)))=some true:=H
 have aH:=zM am
 clear am
 obtain⟨B,aI,H⟩:=sO H
 by_cases ac:B=true
 ·(
 subst ac
 rewrite[if_pos rfl]at H
 obtain⟨x,aJ,H⟩:=sO H
 obtain⟨D,aK,H⟩:=sO H
 by_cases ad:D=true
 ·(
 subst ad
 have H1:(some true)=some true:=rfl
 clear H
 have H:=H1
 clear H1
 clear H
 go_enter Try.func7,Try.ntmps7
 try go_wp2_with (first|((with_reducible refine gate_dst (N:=3) rfl ?_);refine sV (N:=3) (cs:= #[.int .i64 a0_0,.slice A0_1 l0_1.length c0_1]) (t:=24) ?_;intro W hg bh hbox hb;have a:=zM (hbox);have aj:=sG HB hg;have E:=sG HB hg;replace HB:=sB HB hb;clear hb hbox hg;obtain⟨bi,bj,bk,bl⟩:=cells2 a.out)|((with_reducible refine gate_callee (f:=9) rfl ?_);refine sC (some 14) Try.func9 #[.agg #[.int .i64 a0_0,.slice A0_1 l0_1.length c0_1],.int .i64 1048576] (laws_szHeap.calls k a0_0 _ _ l0_1 1048576 s _ ?side1 ?side2 A4.out) ?_;(case side1=>exact sD (zC O.out HB.out));(case side2=>exact P.out);rintro e bm ⟨rfl,hb⟩;refine⟨_,rfl,?_⟩;replace a:=sK a hb;replace HB:=sB HB hb;(try clear hb))|((with_reducible refine gate_callee (f:=34) rfl ?_);refine sC (some 19) Try.func34 #[.slice A1 l1.length c1,.int .i64 s] (laws_szValueS.calls k _ _ l1 s V _ ?side1 ?side2 A9.out) ?_;(case side1=>exact sD (zC T.out HB.out));(case side2=>exact U.out);rintro e bn ⟨rfl,hb⟩;refine⟨_,rfl,?_⟩;replace a:=sK a hb;replace HB:=sB HB hb;(try clear hb);obtain⟨bo,bp,bq,br⟩:=cells2 a.out)|((with_reducible refine gate_callee (f:=12) rfl ?_);refine sC (some 23) Try.func12 #[.agg #[.int .i64 a0_0,.slice A0_1 l0_1.length c0_1]] (laws_toHeap.calls k a0_0 _ _ l0_1 Y Z _ ?side1 ?side2 aB.out) ?_;(case side1=>exact sD (zC O.out HB.out));(case side2=>exact P.out);rintro e bs ⟨bt,rfl,b,hb⟩;refine⟨_,rfl,?_⟩;have c:=zM (Kd.S_lower b (below_size (by repeat(first|(with_reducible first|exact HB.out|apply below_alloc|apply pw_below_drewN|apply below_drew1|refine below_set ?_ E.out)|exact HB.out))));replace a:=sK a hb;replace HB:=sB HB hb;(try clear hb);(try clear b))|((with_reducible refine gate_callee (f:=36) rfl ?_);refine sC (some 25) Try.func36 #[.slice A1 l1.length c1] (laws_toValueS.calls k _ _ l1 I _ ?side1 ?side2 aC.out) ?_;(case side1=>exact sD (zC T.out HB.out));(case side2=>exact U.out);rintro e bu ⟨bv,rfl,b,hb⟩;refine⟨_,rfl,?_⟩;replace c:=zM (Kd.S_elder' (sI c.out) (Kd.R_base b) hb);have d:=zM (Kd.R_lower b (below_size (by repeat(first|(with_reducible first|exact HB.out|apply below_alloc|apply pw_below_drewN|apply below_drew1|refine below_set ?_ E.out)|exact HB.out))));replace a:=sK a hb;replace HB:=sB HB hb;(try clear hb);(try clear b);obtain⟨aL,aM,aN⟩:=Kd.S_slice c.out;subst aN;obtain⟨aO,aP,aQ⟩:=Kd.R_slice d.out;subst aQ)|((with_reducible refine gate_callee (f:=35) rfl ?_);refine sC (some 27) Try.func35 #[.agg #[.int .i64 Y,.slice aL Z.length aM],.slice aO I.length aP,.int .i64 a2] (spec_NewIdOf.calls k Y _ _ Z _ _ I a2 u _ ?side1 ?side2 ?side3 ?side4 aD.out) ?_;(case side1=>exact sD ((Kd.S_reads' c.out).2.2));(case side2=>exact(Kd.S_reads' c.out).2.1);(case side3=>exact sD ((Kd.R_reads' d.out).2.2));(case side4=>exact(Kd.R_reads' d.out).2.1);rintro e bw ⟨rfl,hb⟩;refine⟨_,rfl,?_⟩;replace c:=zM (Kd.S_below (sI c.out) hb);replace d:=zM (Kd.R_below (sE d.out) hb);replace a:=sK a hb;replace HB:=sB HB hb;(try clear hb);obtain⟨bx,bz,bA,bB⟩:=cells2 a.out)|((with_reducible refine gate_callee (f:=12) rfl ?_);refine sC (some 29) Try.func12 #[.agg #[.int .i64 a0_0,.slice A0_1 l0_1.length c0_1]] (laws_toHeap.calls k a0_0 _ _ l0_1 y z _ ?side1 ?side2 aE.out) ?_;(case side1=>exact sD (zC O.out HB.out));(case side2=>exact P.out);rintro e bC ⟨bD,rfl,b,hb⟩;refine⟨_,rfl,?_⟩;have l:=zM (Kd.S_lower (Kd.S_new' (Kd.S_new' b (Kd.S_lt (sI c.out))) (Kd.R_lt (sE d.out))) (below_size (by repeat(first|(with_reducible first|exact HB.out|apply below_alloc|apply pw_below_drewN|apply below_drew1|refine below_set ?_ E.out)|exact HB.out))));replace c:=zM (Kd.S_elder' (sI c.out) (Kd.S_base b) hb);replace d:=zM (Kd.R_below (sE d.out) hb);replace a:=sK a hb;replace HB:=sB HB hb;(try clear hb);(try clear b))|((with_reducible refine gate_dst (N:=9) rfl ?_);refine sV (N:=9) (cs:= #[.int .i64 0,.slice none 0 0]) (t:=34) ?_;intro L hg bE hbox hb;replace c:=zM (Kd.S_below (sI c.out) hb);replace d:=zM (Kd.R_below (sE d.out) hb);replace l:=zM (Kd.S_below (sI l.out) hb);have j:=zM (hbox);have bF:=sG HB hg;have ae:=sG HB hg;replace HB:=sB HB hb;have ah:=sN a hg;have aR:=sM a hg;replace a:=sK a hb;clear hb hbox hg;have bG:=aR.out;have bH:=ah.out;obtain⟨bI,bJ,bK,bL⟩:=cells2 j.out;obtain⟨af,ag,aS⟩:=Kd.S_slice l.out;subst aS)|((with_reducible refine gate_callee (f:=36) rfl ?_);refine sC (some 31) Try.func36 #[.slice A1 l1.length c1] (laws_toValueS.calls k _ _ l1 p _ ?side1 ?side2 aF.out) ?_;(case side1=>exact zC T.out (by repeat(first|(with_reducible first|exact HB.out|apply below_alloc|apply pw_below_drewN|apply below_drew1|refine below_set ?_ E.out|refine below_set ?_ ae.out)|exact HB.out)));(case side2=>exact U.out);rintro e bM ⟨bN,rfl,b,hb⟩;refine⟨_,rfl,?_⟩;have an:=zM (Kd.S_elder' (by(with_reducible repeat(first|apply Kd.S_alloc|apply Kd.S_drewN|apply Kd.S_drew));exact(Kd.S_mono (sSF2 (g:=L) (Kd.S_types c.out j.out (by decide)) (fun _ hk=>hk.2)) (fun _ M=>M.1))) (Kd.R_base b) hb);have ao:=zM (Kd.R_elder' (by(with_reducible repeat(first|apply Kd.R_alloc|apply Kd.R_drewN|apply Kd.R_drew));exact(Kd.R_mono (sRF2 (g:=L) (Kd.R_types d.out j.out (by decide)) (fun _ hk=>hk.2)) (fun _ M=>M.1))) (Kd.R_base b) hb);have ap:=zM (Kd.S_elder' (by(with_reducible repeat(first|apply Kd.S_alloc|apply Kd.S_drewN|apply Kd.S_drew));exact(Kd.S_mono (sSF2 (g:=L) (Kd.S_types l.out j.out (by decide)) (fun _ hk=>hk.2)) (fun _ M=>M.1))) (Kd.R_base b) hb);have aq:=zM (Kd.R_lower (Kd.R_new' b (Kd.R_lt (by(with_reducible repeat(first|apply Kd.R_alloc|apply Kd.R_drewN|apply Kd.R_drew));exact(Kd.R_mono (sRF2 (g:=L) (Kd.R_types d.out j.out (by decide)) (fun _ hk=>hk.2)) (fun _ M=>M.1))))) (below_size (by repeat(first|(with_reducible first|exact HB.out|apply below_alloc|apply pw_below_drewN|apply below_drew1|refine below_set ?_ E.out|refine below_set ?_ ae.out)|exact HB.out))));have ar:=zM (blk_below (g:=W) (o:= .cells #[.int .i64 a0_0,.slice A0_1 l0_1.length c0_1] 24 (0,0)) (by(with_reducible repeat(first|refine blk_drewN ?_ _|refine blk_drew ?_|refine blk_alloc ?_ _));refine blk_far ?_ ah.out _;(with_reducible repeat(first|refine blk_drewN ?_ _|refine blk_drew ?_|refine blk_alloc ?_ _));refine blk_far ?_ ah.out _;exact sT a.out) hb);have au:=zM (blk_below (g:=L) (o:= .cells #[.int .i64 y,.slice af z.length ag] 34 (0,0)) (by exact sP2 (sT j.out)) hb);have av:=sB HB hb;clear c;clear d;clear l;clear a;clear j;clear HB;have c:=an;have d:=ao;have l:=ap;have m:=aq;have a:=ar;have j:=au;have HB:=av;clear an ao ap aq ar au av;(try clear hb);(try clear hk);(try clear b);obtain⟨bO,bP,bQ,bR⟩:=cells2 j.out;obtain⟨aw,ax,aT⟩:=Kd.R_slice m.out;subst aT)|((with_reducible refine gate_callee (f:=37) rfl ?_);refine sC (some 35) Try.func37 #[.agg #[.int .i64 y,.slice af z.length ag],.slice aw p.length ax,.int .i64 a2] (impl_NewIdOf.calls k y _ _ z _ _ p a2 q _ ?side1 ?side2 ?side3 ?side4 aG.out) ?_;(case side1=>exact sD ((Kd.S_reads' l.out).2.2));(case side2=>exact(Kd.S_reads' l.out).2.1);(case side3=>exact sD ((Kd.R_reads' m.out).2.2));(case side4=>exact(Kd.R_reads' m.out).2.1);rintro e aU ⟨rfl,hb⟩;refine⟨_,rfl,?_⟩;replace c:=zM (Kd.S_below (sI c.out) hb);replace d:=zM (Kd.R_below (sE d.out) hb);replace l:=zM (Kd.S_below (sI l.out) hb);replace m:=zM (Kd.R_below (sE m.out) hb);replace a:=sK a hb;replace j:=sK j hb;replace HB:=sB HB hb;(try clear hb);(try clear hk)))
 replace c:=zM (Kd.S_drew c.out)
 replace d:=zM (Kd.R_drew d.out)
 replace l:=zM (Kd.S_drew l.out)
 replace m:=zM (Kd.R_drew m.out)
 replace a:=zM (blk_drew a.out)
 replace j:=zM (blk_drew j.out)
 replace HB:=zM (below_drew1 HB.out)
 refine start_ (n:=5) (S:=fun w'=>w'.cell? ⟨L,0,none⟩=some (.int .i64 y)∧w'.cell? ⟨L,1,none⟩=some (.slice af z.length ag)∧w'.cell? ⟨W,0,none⟩=some (.int .i64 a0_0)∧w'.cell? ⟨W,1,none⟩=some (.slice A0_1 l0_1.length c0_1)) (ds:=[]) #[false,false,false,false,false] (by kernel_rfl) rfl rfl ⟨(blk_cell j.out 0).trans rfl,(blk_cell j.out 1).trans rfl,(blk_cell a.out 0).trans rfl,(blk_cell a.out 1).trans rfl⟩ (fun hHeld=>?_)
 generalize aU.drew=w48 at c d l m a j HB hHeld ⊢
 refine take_ (i:=0) (N:=some 39) (v:=?_) (a':=?_) #[true,false,false,false,false] rfl rfl (by kernel_rfl) (fun _ _ _ h=>h) (Or.inl ⟨by rfl,?_⟩) hHeld ?_ ?_
 rotate_left
 ·(
 rintro w' ⟨s0,s1,s2,s3⟩
 go_simp
 with_reducible rfl)
 rotate_left
 ·(
 simp only[zP,i64_w,i32_w]
 rfl)
 refine take_ (i:=1) (N:=some 40) (v:=?_) (a':=?_) #[true,true,false,false,false] rfl rfl (by kernel_rfl) (fun _ _ _ h=>h) (Or.inl ⟨by rfl,?_⟩) hHeld ?_ ?_
 rotate_left
 ·(
 rintro w' ⟨s0,s1,s2,s3⟩
 go_simp
 with_reducible rfl)
 rotate_left
 ·(
 simp only[zP,i64_w,i32_w]
 rfl)
 refine one_ (i:=2) (N:=some 41) #[true,true,true,false,false] rfl rfl (by kernel_rfl) (by decide) (fun K hK=>?_)
 refine goes_ Try.func12 (by kernel_rfl) rfl #[.agg #[.int .i64 a0_0,.slice A0_1 l0_1.length c0_1]] (by rfl) rfl rfl (by(try simp only[List.map_toArray,List.map_cons,List.map_nil]);first|done|rfl|(simp only[List.length_drop,List.length_take];rfl)) ?_
 with_reducible refine(laws_toHeap.calls k a0_0 _ _ l0_1 aa ab _ ?side1 ?side2 aH.out).mono ?_
 (case side1=>exact sD (zC O.out HB.out))
 (case side2=>exact P.out)
 rintro e bS ⟨bT,rfl,b,hb⟩
 refine⟨_,rfl,?_⟩
 have F:=zM (Kd.S_lower (Kd.S_new' (Kd.S_new' (Kd.S_new' (Kd.S_new' b (Kd.S_lt (sI c.out))) (Kd.R_lt (sE d.out))) (Kd.S_lt (sI l.out))) (Kd.R_lt (sE m.out))) (below_size (by repeat(first|(with_reducible first|exact HB.out|apply below_alloc|apply pw_below_drewN|apply below_drew1|refine below_set ?_ E.out|refine below_set ?_ ae.out)|exact HB.out))))
 replace c:=zM (Kd.S_elder' (sI c.out) (Kd.S_base b) hb)
 replace d:=zM (Kd.R_below (sE d.out) hb)
 replace l:=zM (Kd.S_elder' (sI l.out) (Kd.S_base b) hb)
 replace m:=zM (Kd.R_below (sE m.out) hb)
 replace a:=sK a hb
 replace j:=sK j hb
 replace HB:=sB HB hb
 (try clear hb)
 (try clear hb2)
 (try clear hk)
 (try clear hi)
 (try clear b)
 obtain⟨aV,aW,ay⟩:=Kd.S_slice F.out
 (first|subst ay|(injection ay with az aX aA;have aY:=az.symm;have aZ:=aA.symm;clear az aX aA;subst aY;subst aZ))
 refine hK.out _ _ ⟨(blk_cell j.out 0).trans rfl,(blk_cell j.out 1).trans rfl,(blk_cell a.out 0).trans rfl,(blk_cell a.out 1).trans rfl⟩ (fun hHeld=>?_)
 clear hK K
 refine norm_ (a':=?_) ?_ ?_
 rotate_left
 ·(
 show Act.put _ (some 41) _=_
 simp only[zP,i64_w,i32_w]
 rfl)
 refine one_ (i:=3) (N:=some 42) #[true,true,true,true,false] rfl rfl (by kernel_rfl) (by decide) (fun K hK=>?_)
 refine goes_ Try.func16 (by kernel_rfl) rfl #[.agg #[.int .i64 y,.slice af z.length ag],.agg #[.int .i64 aa,.slice aV ab.length aW]] (by rfl) rfl rfl (by(try simp only[List.map_toArray,List.map_cons,List.map_nil]);first|done|rfl|(simp only[List.length_drop,List.length_take];rfl)) ?_
 with_reducible refine(laws_eqHeap.calls k y _ _ z aa _ _ ab true _ ?side1 ?side2 ?side3 ?side4 aI.out).mono ?_
 (case side1=>exact sD ((Kd.S_reads' l.out).2.2))
 (case side2=>exact(Kd.S_reads' l.out).2.1)
 (case side3=>exact sD ((Kd.S_reads' F.out).2.2))
 (case side4=>exact(Kd.S_reads' F.out).2.1)
 rintro e bU ⟨rfl,hb⟩
 refine⟨_,rfl,?_⟩
 replace c:=zM (Kd.S_below (sI c.out) hb)
 replace d:=zM (Kd.R_below (sE d.out) hb)
 replace l:=zM (Kd.S_below (sI l.out) hb)
 replace m:=zM (Kd.R_below (sE m.out) hb)
 replace F:=zM (Kd.S_below (sI F.out) hb)
 replace a:=sK a hb
 replace j:=sK j hb
 replace HB:=sB HB hb
 (try clear hb)
 (try clear hb2)
 (try clear hk)
 (try clear hi)
 refine hK.out _ _ ⟨(blk_cell j.out 0).trans rfl,(blk_cell j.out 1).trans rfl,(blk_cell a.out 0).trans rfl,(blk_cell a.out 1).trans rfl⟩ (fun hHeld=>?_)
 clear hK K
 refine norm_ (a':=?_) ?_ ?_
 rotate_left
 ·(
 show Act.put _ (some 42) _=_
 simp only[zP,i64_w,i32_w]
 rfl)
 refine pure_ (i:=4) (N:=some 43) (v:=?_) (a':=?_) #[true,true,true,true,true] rfl rfl (by kernel_rfl) (fun _ _ _ h=>h) (Or.inl ⟨by rfl,?_⟩) ?_ ?_
 rotate_left
 ·(
 intro w'
 go_simp
 with_reducible rfl)
 rotate_left
 ·(
 simp only[zP,i64_w,i32_w]
 rfl)
 refine done_ (by kernel_rfl) ?_
 try go_wp2_with (first|((with_reducible refine gate_callee (f:=36) rfl ?_);refine sC (some 46) Try.func36 #[.slice A1 l1.length c1] (laws_toValueS.calls k _ _ l1 x _ ?side1 ?side2 aJ.out) ?_;(case side1=>exact sD (zC T.out HB.out));(case side2=>exact U.out);rintro e bV ⟨bW,rfl,b,hb⟩;refine⟨_,rfl,?_⟩;replace c:=zM (Kd.S_elder' (sI c.out) (Kd.R_base b) hb);replace l:=zM (Kd.S_elder' (sI l.out) (Kd.R_base b) hb);replace F:=zM (Kd.S_elder' (sI F.out) (Kd.R_base b) hb);have X:=zM (Kd.R_lower (Kd.R_new' (Kd.R_new' b (Kd.R_lt (sE d.out))) (Kd.R_lt (sE m.out))) (below_size (by repeat(first|(with_reducible first|exact HB.out|apply below_alloc|apply pw_below_drewN|apply below_drew1|refine below_set ?_ E.out|refine below_set ?_ ae.out)|exact HB.out))));replace d:=zM (Kd.R_elder' (sE d.out) (Kd.R_base b) hb);replace m:=zM (Kd.R_elder' (sE m.out) (Kd.R_base b) hb);replace a:=sK a hb;replace j:=sK j hb;replace HB:=sB HB hb;(try clear hb);(try clear b);obtain⟨a0,a1,a3⟩:=Kd.R_slice X.out;subst a3)|((with_reducible refine gate_callee (f:=21) rfl ?_);refine sC (some 47) Try.func21 #[.slice aw p.length ax,.slice a0 x.length a1] (laws_eqValueS.calls k _ _ p _ _ x true _ ?side1 ?side2 ?side3 ?side4 aK.out) ?_;(case side1=>exact sD ((Kd.R_reads' m.out).2.2));(case side2=>exact(Kd.R_reads' m.out).2.1);(case side3=>exact sD ((Kd.R_reads' X.out).2.2));(case side4=>exact(Kd.R_reads' X.out).2.1);rintro e bX ⟨rfl,hb⟩;refine⟨_,rfl,?_⟩;replace c:=zM (Kd.S_below (sI c.out) hb);replace d:=zM (Kd.R_below (sE d.out) hb);replace l:=zM (Kd.S_below (sI l.out) hb);replace m:=zM (Kd.R_below (sE m.out) hb);replace F:=zM (Kd.S_below (sI F.out) hb);replace X:=zM (Kd.R_below (sE X.out) hb);replace a:=sK a hb;replace j:=sK j hb;replace HB:=sB HB hb;(try clear hb)))
 go_ret
 exact⟨sq,sb⟩)
 replace ad:=zB ad
 subst ad
 rewrite[if_neg zQ]at H
 exact absurd H (by simp))
 replace ac:=zB ac
 subst ac
 rewrite[if_neg zQ]at H
 exact absurd H (by simp))
 rw[if_neg J]at H
 have c21b0:(q==u)=false:=zN J
 have c21b1:(q !=u)=true:=zX J
 exact absurd H (by simp)
end Go.Proofs.Ytengilknjiobiaa.PFnExactNewIdOf
