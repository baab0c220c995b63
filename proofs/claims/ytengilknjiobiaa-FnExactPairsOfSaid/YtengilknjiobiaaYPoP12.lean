/- Printed functions: spec_l09Fit. -/
import Derived.Test.YtengilknjiobiaaYPoP0
import Derived.Test.YtengilknjiobiaaYPoP9
import Derived.Test.YtengilknjiobiaaYPoP11
namespace Go.Proofs.Ytengilknjiobiaa.PFnExactPairsOf
open Go.RowKit Go.Proofs.YtengilknjiobiaaG Go.Proofs.YtengilknjiobiaaW.PrintWords Go.Proofs.YtengilknjiobiaaW.PrintLast Go.Proofs.YtengilknjiobiaaW.PrintMore
attribute [local go_sem] max2_int min2_int max_two min_two max_three min_three max_four min_four
set_option linter.unusedVariables false
set_option linter.unusedSimpArgs false
def spec_l09Fit.f (k:Nat) (l0:List (S34)) (l1:List (S29)):Option (Bool):=(spec_l07Ok.f k l0).bind fun t234=>(if t234=true then((spec_l07FitAll.f k l0 l1).bind fun t235=>(some t235))else(some false))
set_option maxHeartbeats 8000000 in
set_option maxRecDepth 100000 in
theorem spec_l09Fit.calls (k:Nat) (A0:Option Addr) (l0:List (S34)) (A1:Option Addr) (c1:Nat) (l1:List (S29)) (r:Bool) (w:World) (hr0:Kd.C k34 w A0 l0.length l0) (hr1:Kd.C k29 w A1 l1.length l1) (hc1:l1.length≤c1) (h:spec_l09Fit.f k l0 l1=some r):
  Calls Try.prog 41 #[.pointer A0,.slice A1 l1.length c1] w fun e w'=>e= .returned (.bool r)∧Below w.heap.size w w':=by
 have b:=zM hr0
 have m:=zM (Nat.le_refl l0.length)
 clear hr0
 have i:=zM hr1
 have j:=zM hc1
 clear hr1 hc1
 have HB:=zM (Below.refl w.heap.size w)
 have H:((spec_l07Ok.f k l0).bind fun c=>(if c=true then((spec_l07FitAll.f k l0 l1).bind fun d=>(some d))else(some false)))=some r:=h
 clear h
 obtain⟨c,g,H⟩:=sO H
 by_cases a:c=true
 ·(
 subst a
 rewrite[if_pos rfl]at H
 obtain⟨d,l,H⟩:=sO H
 obtain rfl:=zI H
 go_enter Try.func41,Try.ntmps41
 go_wp2_with (first|((with_reducible refine gate_callee (f:=72) rfl ?_);refine sC (some 6) Try.func72 #[.pointer A0] (spec_l07Ok.calls k _ l0 true _ ?side1 g.out) ?_;(case side1=>exact sD b.out);rintro e n ⟨rfl,hb⟩;refine⟨_,rfl,?_⟩;replace HB:=sB HB hb;(try clear hb))|(go_at_call 73;(with_reducible refine(spec_l07FitAll.calls k _ l0 _ _ l1 d _ ?side1 ?side2 ?side3 l.out).mono ?_);(case side1=>exact sD (zC b.out HB.out));(case side2=>exact sD (zC i.out HB.out));(case side3=>exact j.out);rintro e o ⟨rfl,hb⟩;replace HB:=sB HB hb;(try clear hb)))
 go_ret
 exact⟨sq,sb⟩)
 replace a:=zB a
 subst a
 rewrite[if_neg zQ]at H
 obtain rfl:=zI H
 go_enter Try.func41,Try.ntmps41
 go_wp2_with (first|((with_reducible refine gate_callee (f:=72) rfl ?_);refine sC (some 6) Try.func72 #[.pointer A0] (spec_l07Ok.calls k _ l0 false _ ?side1 g.out) ?_;(case side1=>exact sD b.out);rintro e p ⟨rfl,hb⟩;refine⟨_,rfl,?_⟩;replace HB:=sB HB hb;(try clear hb)))
 go_ret
 exact⟨sq,sb⟩
end Go.Proofs.Ytengilknjiobiaa.PFnExactPairsOf
