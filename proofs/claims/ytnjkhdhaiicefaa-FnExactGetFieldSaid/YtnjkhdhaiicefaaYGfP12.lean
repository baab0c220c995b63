/- Printed functions: spec_l09Fit. -/
import Derived.Test.YtnjkhdhaiicefaaYGfP0
import Derived.Test.YtnjkhdhaiicefaaYGfPE
import Derived.Test.YtnjkhdhaiicefaaYGfP9
import Derived.Test.YtnjkhdhaiicefaaYGfP11
namespace Go.Proofs.Ytnjkhdhaiicefaa.PFnExactGetField
open Go.RowKit Go.Proofs.YtnjkhdhaiicefaaG Go.Proofs.YtnjkhdhaiicefaaW.PrintWords Go.Proofs.YtnjkhdhaiicefaaW.PrintLast Go.Proofs.YtnjkhdhaiicefaaW.PrintMore
attribute [local go_sem] max2_int min2_int max_two min_two max_three min_three max_four min_four   -- for this text's walks alone
set_option linter.unusedVariables false
set_option linter.unusedSimpArgs false
section
attribute [local go_sem high] eqA29
/-! ### spec_l09Fit: function 61 -/
def spec_l09Fit.f (k : Nat) (l0 : List (S34)) (l1 : List (S29)) : Option (Bool) := (spec_l07Ok.f k l0).bind fun t234 => (if t234 = true then ((spec_l07FitAll.f k l0 l1).bind fun t235 => (some t235)) else (some false))
set_option maxHeartbeats 8000000 in
set_option maxRecDepth 100000 in
theorem spec_l09Fit.calls (k : Nat) (A0 : Option Addr) (l0 : List (S34)) (A1 : Option Addr) (c1 : Nat) (l1 : List (S29)) (r : Bool) (w : World) (hr0 : Kd.C k34 w A0 l0.length l0) (hr1 : Kd.C k29 w A1 l1.length l1) (hc1 : l1.length ≤ c1) (h : spec_l09Fit.f k l0 l1 = some r) :
  Calls Try.prog 61 #[.pointer A0, .slice A1 l1.length c1] w fun e w' => e = .returned (.bool r) ∧ Below w.heap.size w w' := by
 have HR0 := Aside0.mk hr0
 have HC0 := Aside0.mk (Nat.le_refl l0.length)
 clear hr0
 have HR1 := Aside0.mk hr1
 have HC1 := Aside0.mk hc1
 clear hr1 hc1
 have HB := Aside0.mk (Below.refl w.heap.size w)
 have H : ((spec_l07Ok.f k l0).bind fun t234 => (if t234 = true then ((spec_l07FitAll.f k l0 l1).bind fun t235 => (some t235)) else (some false))) = some r := h
 clear h
 obtain ⟨t234, A3, H⟩ := sO H
 by_cases c4 : t234 = true
 ·subst c4
  rewrite [if_pos rfl] at H
  obtain ⟨t235, A5, H⟩ := sO H
  obtain rfl := Option.some.inj H
  go_enter Try.func61, Try.ntmps61
  go_wp2_with (first | ((with_reducible refine gate_callee (f := 101) rfl ?_); refine sC (some 6) Try.func101 #[.pointer A0] (spec_l07Ok.calls k _ l0 true _ ?side1 A3.out) ?_; (case side1 => exact sD HR0.out); rintro e w6 ⟨rfl, hb⟩; refine ⟨_, rfl, ?_⟩; have n0_ := sB HB hb; clear HB; have HB := n0_; clear n0_; (try clear hb); (try clear hb2); (try clear hk); (try clear hi)) | (go_at_call 108; (with_reducible refine (spec_l07FitAll.calls k _ l0 _ _ l1 t235 _ ?side1 ?side2 ?side3 A5.out).mono ?_); (case side1 => exact sD (Kd.C_below HR0.out HB.out)); (case side2 => exact sD (Kd.C_below HR1.out HB.out)); (case side3 => exact HC1.out); rintro e w7 ⟨rfl, hb⟩; have n0_ := sB HB hb; clear HB; have HB := n0_; clear n0_; (try clear hb); (try clear hb2); (try clear hk); (try clear hi)))
  go_ret
  exact ⟨sq, sb⟩
 replace c4 := Bool.eq_false_iff.mpr c4
 subst c4
 rewrite [if_neg (show ¬ (false = true) by decide)] at H
 obtain rfl := Option.some.inj H
 go_enter Try.func61, Try.ntmps61
 go_wp2_with (first | ((with_reducible refine gate_callee (f := 101) rfl ?_); refine sC (some 6) Try.func101 #[.pointer A0] (spec_l07Ok.calls k _ l0 false _ ?side1 A3.out) ?_; (case side1 => exact sD HR0.out); rintro e w8 ⟨rfl, hb⟩; refine ⟨_, rfl, ?_⟩; have n0_ := sB HB hb; clear HB; have HB := n0_; clear n0_; (try clear hb); (try clear hb2); (try clear hk); (try clear hi)))
 go_ret
 exact ⟨sq, sb⟩
end
end Go.Proofs.Ytnjkhdhaiicefaa.PFnExactGetField
