/- Printed functions: spec_l07Refs. -/
import Derived.Test.YtnjkhdhaiicefaaYGfP0
import Derived.Test.YtnjkhdhaiicefaaYGfP9
namespace Go.Proofs.Ytnjkhdhaiicefaa.PFnExactGetField
open Go.RowKit Go.Proofs.YtnjkhdhaiicefaaG Go.Proofs.YtnjkhdhaiicefaaW.PrintWords Go.Proofs.YtnjkhdhaiicefaaW.PrintLast Go.Proofs.YtnjkhdhaiicefaaW.PrintMore
attribute [local go_sem] max2_int min2_int max_two min_two max_three min_three max_four min_four   -- for this text's walks alone
set_option linter.unusedVariables false
set_option linter.unusedSimpArgs false
/-! ### spec_l07Refs: function 145 -/
def spec_l07Refs.f (k : Nat) (l0 : List (S34)) (l1 : List (S56)) : Option (Bool) := if 0 < (l1.length : Int) then ((spec_l07FitAll.f k l0 ((rd_T56 l1 0).f4)).bind fun t213 => (if t213 = true then ((spec_l07FitAll.f k l0 ((rd_T56 l1 0).f5)).bind fun t215 => (if t215 = true then (if ((rd_T56 l1 0).f1) = 2 then ((spec_l07Fits.f k l0 ((rd_T56 l1 0).f6.f0) ((rd_T56 l1 0).f6.f1) ((rd_T56 l1 0).f6.f2) ((rd_T56 l1 0).f6.f3)).bind fun t218 => (some t218)) else (some true)) else (some false))) else (some false))) else (none)
set_option maxHeartbeats 8000000 in
set_option maxRecDepth 100000 in
theorem spec_l07Refs.calls (k : Nat) (A0 : Option Addr) (l0 : List (S34)) (A1 : Option Addr) (l1 : List (S56)) (r : Bool) (w : World) (hr0 : Kd.C k34 w A0 l0.length l0) (hr1 : Kd.C k56 w A1 l1.length l1) (h : spec_l07Refs.f k l0 l1 = some r) :
  Calls Try.prog 145 #[.pointer A0, .pointer A1] w fun e w' => e = .returned (.bool r) ∧ Below w.heap.size w w' := by
 have hu29 := Try.underlying29
 have HR0 := Aside0.mk hr0
 have HC0 := Aside0.mk (Nat.le_refl l0.length)
 clear hr0
 have HR1 := Aside0.mk hr1
 have HC1 := Aside0.mk (Nat.le_refl l1.length)
 clear hr1
 have HB := Aside0.mk (Below.refl w.heap.size w)
 have H : (if 0 < (l1.length : Int) then ((spec_l07FitAll.f k l0 ((rd_T56 l1 0).f4)).bind fun t213 => (if t213 = true then ((spec_l07FitAll.f k l0 ((rd_T56 l1 0).f5)).bind fun t215 => (if t215 = true then (if ((rd_T56 l1 0).f1) = 2 then ((spec_l07Fits.f k l0 ((rd_T56 l1 0).f6.f0) ((rd_T56 l1 0).f6.f1) ((rd_T56 l1 0).f6.f2) ((rd_T56 l1 0).f6.f3)).bind fun t218 => (some t218)) else (some true)) else (some false))) else (some false))) else (none)) = some r := h
 clear h
 by_cases c3 : 0 < (l1.length : Int)
 ·rw [if_pos c3] at H
  have c3b0 := decide_eq_true c3
  have c3b1 : decide (0 < l1.length) = true := decide_eq_true (by omega)
  clear c3
  obtain ⟨t213, A4, H⟩ := sO H
  by_cases c5 : t213 = true
  ·subst c5
   rewrite [if_pos rfl] at H
   obtain ⟨t215, A6, H⟩ := sO H
   by_cases c7 : t215 = true
   ·subst c7
    rewrite [if_pos rfl] at H
    by_cases c8 : ((rd_T56 l1 0).f1) = 2
    ·rw [if_pos c8] at H
     have c8b0 : (((rd_T56 l1 0).f1) == 2) = true := beq_iff_eq.mpr c8
     have c8b1 : (((rd_T56 l1 0).f1) != 2) = false := bne_eq_false_iff_eq.mpr c8
     clear c8
     obtain ⟨t218, A9, H⟩ := sO H
     obtain rfl := Option.some.inj H
     have p212 : 0 ≤ (0 : Int) := (by omega)
     have q212 : 0 < (l1.length : Int) := of_decide_eq_true (by first | (with_reducible assumption) | assumption)
     obtain ⟨ad212, A212_4, c212_4, A212_5, c212_5, e212, hx212_0, hx212_1, hx212_2, hx212_3, hx212_4, hx212_5, hx212_6, hx212_7, hx212_8, hx212_9, hl212_4, hi212_4, hl212_5, hi212_5⟩ := at_T56 HR1.out 0 p212 q212
     cases e212
     have qi212 : (0 < l1.length) = True := eq_true (by omega)
     (try rw [sZ] at hx212_0)
     (try rw [sZ] at hx212_1)
     (try rw [sZ] at hx212_2)
     (try rw [sZ] at hx212_3)
     (try rw [sZ] at hx212_4)
     (try rw [sZ] at hx212_5)
     (try rw [sZ] at hx212_6)
     (try rw [sZ] at hx212_7)
     (try rw [sZ] at hx212_8)
     (try rw [sZ] at hx212_9)
     have HR212_4 := Aside0.mk hi212_4
     have HC212_4 := Aside0.mk hl212_4
     clear hi212_4 hl212_4
     have HR212_5 := Aside0.mk hi212_5
     have HC212_5 := Aside0.mk hl212_5
     clear hi212_5 hl212_5
     replace p212 := eq_true p212
     replace q212 := eq_true q212
     go_enter Try.func145, Try.ntmps145
     go_wp2_with (first | ((with_reducible refine gate_callee (f := 108) rfl ?_); refine sC (some 10) Try.func108 #[.pointer A0, .slice A212_4 ((rd_T56 l1 0).f4).length c212_4] (spec_l07FitAll.calls k _ l0 _ _ ((rd_T56 l1 0).f4) true _ ?side1 ?side2 ?side3 A4.out) ?_; (case side1 => exact sD HR0.out); (case side2 => exact sD HR212_4.out); (case side3 => exact HC212_4.out); rintro e w10 ⟨rfl, hb⟩; refine ⟨_, rfl, ?_⟩; have n0_ := sB HB hb; clear HB; have HB := n0_; clear n0_; (try clear hb); (try clear hb2); (try clear hk); (try clear hi); have p214 : 0 ≤ (0 : Int) := (by omega); have q214 : 0 < (l1.length : Int) := of_decide_eq_true (by first | (with_reducible assumption) | assumption); obtain ⟨ad214, A214_4, c214_4, A214_5, c214_5, e214, hx214_0, hx214_1, hx214_2, hx214_3, hx214_4, hx214_5, hx214_6, hx214_7, hx214_8, hx214_9, hl214_4, hi214_4, hl214_5, hi214_5⟩ := at_T56 HR1.out 0 p214 q214; obtain rfl : ad212 = ad214 := (by injection e214); have qi214 : (0 < l1.length) = True := eq_true (by omega); (try rw [show ((0 : Int)).toNat = 0 from rfl] at hx214_0); (try rw [show 0 * 10 = 0 from rfl] at hx214_0); (try rw [Addr.add_zero'] at hx214_0); (try rw [show ((0 : Int)).toNat = 0 from rfl] at hx214_1); (try rw [show 0 * 10 = 0 from rfl] at hx214_1); (try rw [Addr.add_zero'] at hx214_1); (try rw [show ((0 : Int)).toNat = 0 from rfl] at hx214_2); (try rw [show 0 * 10 = 0 from rfl] at hx214_2); (try rw [Addr.add_zero'] at hx214_2); (try rw [show ((0 : Int)).toNat = 0 from rfl] at hx214_3); (try rw [show 0 * 10 = 0 from rfl] at hx214_3); (try rw [Addr.add_zero'] at hx214_3); (try rw [show ((0 : Int)).toNat = 0 from rfl] at hx214_4); (try rw [show 0 * 10 = 0 from rfl] at hx214_4); (try rw [Addr.add_zero'] at hx214_4); (try rw [show ((0 : Int)).toNat = 0 from rfl] at hx214_5); (try rw [show 0 * 10 = 0 from rfl] at hx214_5); (try rw [Addr.add_zero'] at hx214_5); (try rw [show ((0 : Int)).toNat = 0 from rfl] at hx214_6); (try rw [show 0 * 10 = 0 from rfl] at hx214_6); (try rw [Addr.add_zero'] at hx214_6); (try rw [show ((0 : Int)).toNat = 0 from rfl] at hx214_7); (try rw [show 0 * 10 = 0 from rfl] at hx214_7); (try rw [Addr.add_zero'] at hx214_7); (try rw [show ((0 : Int)).toNat = 0 from rfl] at hx214_8); (try rw [show 0 * 10 = 0 from rfl] at hx214_8); (try rw [Addr.add_zero'] at hx214_8); (try rw [show ((0 : Int)).toNat = 0 from rfl] at hx214_9); (try rw [show 0 * 10 = 0 from rfl] at hx214_9); (try rw [Addr.add_zero'] at hx214_9); replace hx214_0 := sX HB hx214_0; replace hx214_1 := sX HB hx214_1; replace hx214_2 := sX HB hx214_2; replace hx214_3 := sX HB hx214_3; replace hx214_4 := sX HB hx214_4; replace hx214_5 := sX HB hx214_5; replace hx214_6 := sX HB hx214_6; replace hx214_7 := sX HB hx214_7; replace hx214_8 := sX HB hx214_8; replace hx214_9 := sX HB hx214_9; have HR214_4 := Aside0.mk hi214_4; have HC214_4 := Aside0.mk hl214_4; clear hi214_4 hl214_4; have HR214_5 := Aside0.mk hi214_5; have HC214_5 := Aside0.mk hl214_5; clear hi214_5 hl214_5; replace p214 := eq_true p214; replace q214 := eq_true q214) | (go_at_call 108; (with_reducible refine (spec_l07FitAll.calls k _ l0 _ _ ((rd_T56 l1 0).f5) true _ ?side1 ?side2 ?side3 A6.out).mono ?_); (case side1 => exact sD (Kd.C_below HR0.out HB.out)); (case side2 => exact sD (Kd.C_below HR214_5.out HB.out)); (case side3 => exact HC214_5.out); rintro e w11 ⟨rfl, hb⟩; have n0_ := sB HB hb; clear HB; have HB := n0_; clear n0_; (try clear hb); (try clear hb2); (try clear hk); (try clear hi); have p216 : 0 ≤ (0 : Int) := (by omega); have q216 : 0 < (l1.length : Int) := of_decide_eq_true (by first | (with_reducible assumption) | assumption); obtain ⟨ad216, A216_4, c216_4, A216_5, c216_5, e216, hx216_0, hx216_1, hx216_2, hx216_3, hx216_4, hx216_5, hx216_6, hx216_7, hx216_8, hx216_9, hl216_4, hi216_4, hl216_5, hi216_5⟩ := at_T56 HR1.out 0 p216 q216; obtain rfl : ad212 = ad216 := (by injection e216); have qi216 : (0 < l1.length) = True := eq_true (by omega); (try rw [show ((0 : Int)).toNat = 0 from rfl] at hx216_0); (try rw [show 0 * 10 = 0 from rfl] at hx216_0); (try rw [Addr.add_zero'] at hx216_0); (try rw [show ((0 : Int)).toNat = 0 from rfl] at hx216_1); (try rw [show 0 * 10 = 0 from rfl] at hx216_1); (try rw [Addr.add_zero'] at hx216_1); (try rw [show ((0 : Int)).toNat = 0 from rfl] at hx216_2); (try rw [show 0 * 10 = 0 from rfl] at hx216_2); (try rw [Addr.add_zero'] at hx216_2); (try rw [show ((0 : Int)).toNat = 0 from rfl] at hx216_3); (try rw [show 0 * 10 = 0 from rfl] at hx216_3); (try rw [Addr.add_zero'] at hx216_3); (try rw [show ((0 : Int)).toNat = 0 from rfl] at hx216_4); (try rw [show 0 * 10 = 0 from rfl] at hx216_4); (try rw [Addr.add_zero'] at hx216_4); (try rw [show ((0 : Int)).toNat = 0 from rfl] at hx216_5); (try rw [show 0 * 10 = 0 from rfl] at hx216_5); (try rw [Addr.add_zero'] at hx216_5); (try rw [show ((0 : Int)).toNat = 0 from rfl] at hx216_6); (try rw [show 0 * 10 = 0 from rfl] at hx216_6); (try rw [Addr.add_zero'] at hx216_6); (try rw [show ((0 : Int)).toNat = 0 from rfl] at hx216_7); (try rw [show 0 * 10 = 0 from rfl] at hx216_7); (try rw [Addr.add_zero'] at hx216_7); (try rw [show ((0 : Int)).toNat = 0 from rfl] at hx216_8); (try rw [show 0 * 10 = 0 from rfl] at hx216_8); (try rw [Addr.add_zero'] at hx216_8); (try rw [show ((0 : Int)).toNat = 0 from rfl] at hx216_9); (try rw [show 0 * 10 = 0 from rfl] at hx216_9); (try rw [Addr.add_zero'] at hx216_9); replace hx216_0 := sX HB hx216_0; replace hx216_1 := sX HB hx216_1; replace hx216_2 := sX HB hx216_2; replace hx216_3 := sX HB hx216_3; replace hx216_4 := sX HB hx216_4; replace hx216_5 := sX HB hx216_5; replace hx216_6 := sX HB hx216_6; replace hx216_7 := sX HB hx216_7; replace hx216_8 := sX HB hx216_8; replace hx216_9 := sX HB hx216_9; have HR216_4 := Aside0.mk hi216_4; have HC216_4 := Aside0.mk hl216_4; clear hi216_4 hl216_4; have HR216_5 := Aside0.mk hi216_5; have HC216_5 := Aside0.mk hl216_5; clear hi216_5 hl216_5; replace p216 := eq_true p216; replace q216 := eq_true q216; have p217 : 0 ≤ (0 : Int) := (by omega); have q217 : 0 < (l1.length : Int) := of_decide_eq_true (by first | (with_reducible assumption) | assumption); obtain ⟨ad217, A217_4, c217_4, A217_5, c217_5, e217, hx217_0, hx217_1, hx217_2, hx217_3, hx217_4, hx217_5, hx217_6, hx217_7, hx217_8, hx217_9, hl217_4, hi217_4, hl217_5, hi217_5⟩ := at_T56 HR1.out 0 p217 q217; obtain rfl : ad212 = ad217 := (by injection e217); have qi217 : (0 < l1.length) = True := eq_true (by omega); (try rw [show ((0 : Int)).toNat = 0 from rfl] at hx217_0); (try rw [show 0 * 10 = 0 from rfl] at hx217_0); (try rw [Addr.add_zero'] at hx217_0); (try rw [show ((0 : Int)).toNat = 0 from rfl] at hx217_1); (try rw [show 0 * 10 = 0 from rfl] at hx217_1); (try rw [Addr.add_zero'] at hx217_1); (try rw [show ((0 : Int)).toNat = 0 from rfl] at hx217_2); (try rw [show 0 * 10 = 0 from rfl] at hx217_2); (try rw [Addr.add_zero'] at hx217_2); (try rw [show ((0 : Int)).toNat = 0 from rfl] at hx217_3); (try rw [show 0 * 10 = 0 from rfl] at hx217_3); (try rw [Addr.add_zero'] at hx217_3); (try rw [show ((0 : Int)).toNat = 0 from rfl] at hx217_4); (try rw [show 0 * 10 = 0 from rfl] at hx217_4); (try rw [Addr.add_zero'] at hx217_4); (try rw [show ((0 : Int)).toNat = 0 from rfl] at hx217_5); (try rw [show 0 * 10 = 0 from rfl] at hx217_5); (try rw [Addr.add_zero'] at hx217_5); (try rw [show ((0 : Int)).toNat = 0 from rfl] at hx217_6); (try rw [show 0 * 10 = 0 from rfl] at hx217_6); (try rw [Addr.add_zero'] at hx217_6); (try rw [show ((0 : Int)).toNat = 0 from rfl] at hx217_7); (try rw [show 0 * 10 = 0 from rfl] at hx217_7); (try rw [Addr.add_zero'] at hx217_7); (try rw [show ((0 : Int)).toNat = 0 from rfl] at hx217_8); (try rw [show 0 * 10 = 0 from rfl] at hx217_8); (try rw [Addr.add_zero'] at hx217_8); (try rw [show ((0 : Int)).toNat = 0 from rfl] at hx217_9); (try rw [show 0 * 10 = 0 from rfl] at hx217_9); (try rw [Addr.add_zero'] at hx217_9); replace hx217_0 := sX HB hx217_0; replace hx217_1 := sX HB hx217_1; replace hx217_2 := sX HB hx217_2; replace hx217_3 := sX HB hx217_3; replace hx217_4 := sX HB hx217_4; replace hx217_5 := sX HB hx217_5; replace hx217_6 := sX HB hx217_6; replace hx217_7 := sX HB hx217_7; replace hx217_8 := sX HB hx217_8; replace hx217_9 := sX HB hx217_9; have HR217_4 := Aside0.mk hi217_4; have HC217_4 := Aside0.mk hl217_4; clear hi217_4 hl217_4; have HR217_5 := Aside0.mk hi217_5; have HC217_5 := Aside0.mk hl217_5; clear hi217_5 hl217_5; replace p217 := eq_true p217; replace q217 := eq_true q217; have ea_ := Option.some.inj (hx216_4.symm.trans hx217_4); injection ea_ with ea_ en_ ec_; subst ea_; subst ec_; clear en_; have ea_ := Option.some.inj (hx216_5.symm.trans hx217_5); injection ea_ with ea_ en_ ec_; subst ea_; subst ec_; clear en_) | (go_at_call 147; (with_reducible refine (spec_l07Fits.calls k _ l0 ((rd_T56 l1 0).f6.f0) ((rd_T56 l1 0).f6.f1) ((rd_T56 l1 0).f6.f2) ((rd_T56 l1 0).f6.f3) t218 _ ?side1 A9.out).mono ?_); (case side1 => exact sD (Kd.C_below HR0.out HB.out)); rintro e w12 ⟨rfl, hb⟩; have n0_ := sB HB hb; clear HB; have HB := n0_; clear n0_; (try clear hb); (try clear hb2); (try clear hk); (try clear hi)))
     go_ret
     exact ⟨sq, sb⟩
    rw [if_neg c8] at H
    have c8b0 : (((rd_T56 l1 0).f1) == 2) = false := beq_eq_false_iff_ne.mpr c8
    have c8b1 : (((rd_T56 l1 0).f1) != 2) = true := bne_iff_ne.mpr c8
    obtain rfl := Option.some.inj H
    have p212 : 0 ≤ (0 : Int) := (by omega)
    have q212 : 0 < (l1.length : Int) := of_decide_eq_true (by first | (with_reducible assumption) | assumption)
    obtain ⟨ad212, A212_4, c212_4, A212_5, c212_5, e212, hx212_0, hx212_1, hx212_2, hx212_3, hx212_4, hx212_5, hx212_6, hx212_7, hx212_8, hx212_9, hl212_4, hi212_4, hl212_5, hi212_5⟩ := at_T56 HR1.out 0 p212 q212
    cases e212
    have qi212 : (0 < l1.length) = True := eq_true (by omega)
    (try rw [sZ] at hx212_0)
    (try rw [sZ] at hx212_1)
    (try rw [sZ] at hx212_2)
    (try rw [sZ] at hx212_3)
    (try rw [sZ] at hx212_4)
    (try rw [sZ] at hx212_5)
    (try rw [sZ] at hx212_6)
    (try rw [sZ] at hx212_7)
    (try rw [sZ] at hx212_8)
    (try rw [sZ] at hx212_9)
    have HR212_4 := Aside0.mk hi212_4
    have HC212_4 := Aside0.mk hl212_4
    clear hi212_4 hl212_4
    have HR212_5 := Aside0.mk hi212_5
    have HC212_5 := Aside0.mk hl212_5
    clear hi212_5 hl212_5
    replace p212 := eq_true p212
    replace q212 := eq_true q212
    go_enter Try.func145, Try.ntmps145
    go_wp2_with (first | ((with_reducible refine gate_callee (f := 108) rfl ?_); refine sC (some 10) Try.func108 #[.pointer A0, .slice A212_4 ((rd_T56 l1 0).f4).length c212_4] (spec_l07FitAll.calls k _ l0 _ _ ((rd_T56 l1 0).f4) true _ ?side1 ?side2 ?side3 A4.out) ?_; (case side1 => exact sD HR0.out); (case side2 => exact sD HR212_4.out); (case side3 => exact HC212_4.out); rintro e w13 ⟨rfl, hb⟩; refine ⟨_, rfl, ?_⟩; have n0_ := sB HB hb; clear HB; have HB := n0_; clear n0_; (try clear hb); (try clear hb2); (try clear hk); (try clear hi); have p214 : 0 ≤ (0 : Int) := (by omega); have q214 : 0 < (l1.length : Int) := of_decide_eq_true (by first | (with_reducible assumption) | assumption); obtain ⟨ad214, A214_4, c214_4, A214_5, c214_5, e214, hx214_0, hx214_1, hx214_2, hx214_3, hx214_4, hx214_5, hx214_6, hx214_7, hx214_8, hx214_9, hl214_4, hi214_4, hl214_5, hi214_5⟩ := at_T56 HR1.out 0 p214 q214; obtain rfl : ad212 = ad214 := (by injection e214); have qi214 : (0 < l1.length) = True := eq_true (by omega); (try rw [show ((0 : Int)).toNat = 0 from rfl] at hx214_0); (try rw [show 0 * 10 = 0 from rfl] at hx214_0); (try rw [Addr.add_zero'] at hx214_0); (try rw [show ((0 : Int)).toNat = 0 from rfl] at hx214_1); (try rw [show 0 * 10 = 0 from rfl] at hx214_1); (try rw [Addr.add_zero'] at hx214_1); (try rw [show ((0 : Int)).toNat = 0 from rfl] at hx214_2); (try rw [show 0 * 10 = 0 from rfl] at hx214_2); (try rw [Addr.add_zero'] at hx214_2); (try rw [show ((0 : Int)).toNat = 0 from rfl] at hx214_3); (try rw [show 0 * 10 = 0 from rfl] at hx214_3); (try rw [Addr.add_zero'] at hx214_3); (try rw [show ((0 : Int)).toNat = 0 from rfl] at hx214_4); (try rw [show 0 * 10 = 0 from rfl] at hx214_4); (try rw [Addr.add_zero'] at hx214_4); (try rw [show ((0 : Int)).toNat = 0 from rfl] at hx214_5); (try rw [show 0 * 10 = 0 from rfl] at hx214_5); (try rw [Addr.add_zero'] at hx214_5); (try rw [show ((0 : Int)).toNat = 0 from rfl] at hx214_6); (try rw [show 0 * 10 = 0 from rfl] at hx214_6); (try rw [Addr.add_zero'] at hx214_6); (try rw [show ((0 : Int)).toNat = 0 from rfl] at hx214_7); (try rw [show 0 * 10 = 0 from rfl] at hx214_7); (try rw [Addr.add_zero'] at hx214_7); (try rw [show ((0 : Int)).toNat = 0 from rfl] at hx214_8); (try rw [show 0 * 10 = 0 from rfl] at hx214_8); (try rw [Addr.add_zero'] at hx214_8); (try rw [show ((0 : Int)).toNat = 0 from rfl] at hx214_9); (try rw [show 0 * 10 = 0 from rfl] at hx214_9); (try rw [Addr.add_zero'] at hx214_9); replace hx214_0 := sX HB hx214_0; replace hx214_1 := sX HB hx214_1; replace hx214_2 := sX HB hx214_2; replace hx214_3 := sX HB hx214_3; replace hx214_4 := sX HB hx214_4; replace hx214_5 := sX HB hx214_5; replace hx214_6 := sX HB hx214_6; replace hx214_7 := sX HB hx214_7; replace hx214_8 := sX HB hx214_8; replace hx214_9 := sX HB hx214_9; have HR214_4 := Aside0.mk hi214_4; have HC214_4 := Aside0.mk hl214_4; clear hi214_4 hl214_4; have HR214_5 := Aside0.mk hi214_5; have HC214_5 := Aside0.mk hl214_5; clear hi214_5 hl214_5; replace p214 := eq_true p214; replace q214 := eq_true q214) | (go_at_call 108; (with_reducible refine (spec_l07FitAll.calls k _ l0 _ _ ((rd_T56 l1 0).f5) true _ ?side1 ?side2 ?side3 A6.out).mono ?_); (case side1 => exact sD (Kd.C_below HR0.out HB.out)); (case side2 => exact sD (Kd.C_below HR214_5.out HB.out)); (case side3 => exact HC214_5.out); rintro e w14 ⟨rfl, hb⟩; have n0_ := sB HB hb; clear HB; have HB := n0_; clear n0_; (try clear hb); (try clear hb2); (try clear hk); (try clear hi); have p216 : 0 ≤ (0 : Int) := (by omega); have q216 : 0 < (l1.length : Int) := of_decide_eq_true (by first | (with_reducible assumption) | assumption); obtain ⟨ad216, A216_4, c216_4, A216_5, c216_5, e216, hx216_0, hx216_1, hx216_2, hx216_3, hx216_4, hx216_5, hx216_6, hx216_7, hx216_8, hx216_9, hl216_4, hi216_4, hl216_5, hi216_5⟩ := at_T56 HR1.out 0 p216 q216; obtain rfl : ad212 = ad216 := (by injection e216); have qi216 : (0 < l1.length) = True := eq_true (by omega); (try rw [show ((0 : Int)).toNat = 0 from rfl] at hx216_0); (try rw [show 0 * 10 = 0 from rfl] at hx216_0); (try rw [Addr.add_zero'] at hx216_0); (try rw [show ((0 : Int)).toNat = 0 from rfl] at hx216_1); (try rw [show 0 * 10 = 0 from rfl] at hx216_1); (try rw [Addr.add_zero'] at hx216_1); (try rw [show ((0 : Int)).toNat = 0 from rfl] at hx216_2); (try rw [show 0 * 10 = 0 from rfl] at hx216_2); (try rw [Addr.add_zero'] at hx216_2); (try rw [show ((0 : Int)).toNat = 0 from rfl] at hx216_3); (try rw [show 0 * 10 = 0 from rfl] at hx216_3); (try rw [Addr.add_zero'] at hx216_3); (try rw [show ((0 : Int)).toNat = 0 from rfl] at hx216_4); (try rw [show 0 * 10 = 0 from rfl] at hx216_4); (try rw [Addr.add_zero'] at hx216_4); (try rw [show ((0 : Int)).toNat = 0 from rfl] at hx216_5); (try rw [show 0 * 10 = 0 from rfl] at hx216_5); (try rw [Addr.add_zero'] at hx216_5); (try rw [show ((0 : Int)).toNat = 0 from rfl] at hx216_6); (try rw [show 0 * 10 = 0 from rfl] at hx216_6); (try rw [Addr.add_zero'] at hx216_6); (try rw [show ((0 : Int)).toNat = 0 from rfl] at hx216_7); (try rw [show 0 * 10 = 0 from rfl] at hx216_7); (try rw [Addr.add_zero'] at hx216_7); (try rw [show ((0 : Int)).toNat = 0 from rfl] at hx216_8); (try rw [show 0 * 10 = 0 from rfl] at hx216_8); (try rw [Addr.add_zero'] at hx216_8); (try rw [show ((0 : Int)).toNat = 0 from rfl] at hx216_9); (try rw [show 0 * 10 = 0 from rfl] at hx216_9); (try rw [Addr.add_zero'] at hx216_9); replace hx216_0 := sX HB hx216_0; replace hx216_1 := sX HB hx216_1; replace hx216_2 := sX HB hx216_2; replace hx216_3 := sX HB hx216_3; replace hx216_4 := sX HB hx216_4; replace hx216_5 := sX HB hx216_5; replace hx216_6 := sX HB hx216_6; replace hx216_7 := sX HB hx216_7; replace hx216_8 := sX HB hx216_8; replace hx216_9 := sX HB hx216_9; have HR216_4 := Aside0.mk hi216_4; have HC216_4 := Aside0.mk hl216_4; clear hi216_4 hl216_4; have HR216_5 := Aside0.mk hi216_5; have HC216_5 := Aside0.mk hl216_5; clear hi216_5 hl216_5; replace p216 := eq_true p216; replace q216 := eq_true q216))
    go_ret
    exact ⟨sq, sb⟩
   replace c7 := Bool.eq_false_iff.mpr c7
   subst c7
   rewrite [if_neg (show ¬ (false = true) by decide)] at H
   obtain rfl := Option.some.inj H
   have p212 : 0 ≤ (0 : Int) := (by omega)
   have q212 : 0 < (l1.length : Int) := of_decide_eq_true (by first | (with_reducible assumption) | assumption)
   obtain ⟨ad212, A212_4, c212_4, A212_5, c212_5, e212, hx212_0, hx212_1, hx212_2, hx212_3, hx212_4, hx212_5, hx212_6, hx212_7, hx212_8, hx212_9, hl212_4, hi212_4, hl212_5, hi212_5⟩ := at_T56 HR1.out 0 p212 q212
   cases e212
   have qi212 : (0 < l1.length) = True := eq_true (by omega)
   (try rw [sZ] at hx212_0)
   (try rw [sZ] at hx212_1)
   (try rw [sZ] at hx212_2)
   (try rw [sZ] at hx212_3)
   (try rw [sZ] at hx212_4)
   (try rw [sZ] at hx212_5)
   (try rw [sZ] at hx212_6)
   (try rw [sZ] at hx212_7)
   (try rw [sZ] at hx212_8)
   (try rw [sZ] at hx212_9)
   have HR212_4 := Aside0.mk hi212_4
   have HC212_4 := Aside0.mk hl212_4
   clear hi212_4 hl212_4
   have HR212_5 := Aside0.mk hi212_5
   have HC212_5 := Aside0.mk hl212_5
   clear hi212_5 hl212_5
   replace p212 := eq_true p212
   replace q212 := eq_true q212
   go_enter Try.func145, Try.ntmps145
   go_wp2_with (first | ((with_reducible refine gate_callee (f := 108) rfl ?_); refine sC (some 10) Try.func108 #[.pointer A0, .slice A212_4 ((rd_T56 l1 0).f4).length c212_4] (spec_l07FitAll.calls k _ l0 _ _ ((rd_T56 l1 0).f4) true _ ?side1 ?side2 ?side3 A4.out) ?_; (case side1 => exact sD HR0.out); (case side2 => exact sD HR212_4.out); (case side3 => exact HC212_4.out); rintro e w15 ⟨rfl, hb⟩; refine ⟨_, rfl, ?_⟩; have n0_ := sB HB hb; clear HB; have HB := n0_; clear n0_; (try clear hb); (try clear hb2); (try clear hk); (try clear hi); have p214 : 0 ≤ (0 : Int) := (by omega); have q214 : 0 < (l1.length : Int) := of_decide_eq_true (by first | (with_reducible assumption) | assumption); obtain ⟨ad214, A214_4, c214_4, A214_5, c214_5, e214, hx214_0, hx214_1, hx214_2, hx214_3, hx214_4, hx214_5, hx214_6, hx214_7, hx214_8, hx214_9, hl214_4, hi214_4, hl214_5, hi214_5⟩ := at_T56 HR1.out 0 p214 q214; obtain rfl : ad212 = ad214 := (by injection e214); have qi214 : (0 < l1.length) = True := eq_true (by omega); (try rw [show ((0 : Int)).toNat = 0 from rfl] at hx214_0); (try rw [show 0 * 10 = 0 from rfl] at hx214_0); (try rw [Addr.add_zero'] at hx214_0); (try rw [show ((0 : Int)).toNat = 0 from rfl] at hx214_1); (try rw [show 0 * 10 = 0 from rfl] at hx214_1); (try rw [Addr.add_zero'] at hx214_1); (try rw [show ((0 : Int)).toNat = 0 from rfl] at hx214_2); (try rw [show 0 * 10 = 0 from rfl] at hx214_2); (try rw [Addr.add_zero'] at hx214_2); (try rw [show ((0 : Int)).toNat = 0 from rfl] at hx214_3); (try rw [show 0 * 10 = 0 from rfl] at hx214_3); (try rw [Addr.add_zero'] at hx214_3); (try rw [show ((0 : Int)).toNat = 0 from rfl] at hx214_4); (try rw [show 0 * 10 = 0 from rfl] at hx214_4); (try rw [Addr.add_zero'] at hx214_4); (try rw [show ((0 : Int)).toNat = 0 from rfl] at hx214_5); (try rw [show 0 * 10 = 0 from rfl] at hx214_5); (try rw [Addr.add_zero'] at hx214_5); (try rw [show ((0 : Int)).toNat = 0 from rfl] at hx214_6); (try rw [show 0 * 10 = 0 from rfl] at hx214_6); (try rw [Addr.add_zero'] at hx214_6); (try rw [show ((0 : Int)).toNat = 0 from rfl] at hx214_7); (try rw [show 0 * 10 = 0 from rfl] at hx214_7); (try rw [Addr.add_zero'] at hx214_7); (try rw [show ((0 : Int)).toNat = 0 from rfl] at hx214_8); (try rw [show 0 * 10 = 0 from rfl] at hx214_8); (try rw [Addr.add_zero'] at hx214_8); (try rw [show ((0 : Int)).toNat = 0 from rfl] at hx214_9); (try rw [show 0 * 10 = 0 from rfl] at hx214_9); (try rw [Addr.add_zero'] at hx214_9); replace hx214_0 := sX HB hx214_0; replace hx214_1 := sX HB hx214_1; replace hx214_2 := sX HB hx214_2; replace hx214_3 := sX HB hx214_3; replace hx214_4 := sX HB hx214_4; replace hx214_5 := sX HB hx214_5; replace hx214_6 := sX HB hx214_6; replace hx214_7 := sX HB hx214_7; replace hx214_8 := sX HB hx214_8; replace hx214_9 := sX HB hx214_9; have HR214_4 := Aside0.mk hi214_4; have HC214_4 := Aside0.mk hl214_4; clear hi214_4 hl214_4; have HR214_5 := Aside0.mk hi214_5; have HC214_5 := Aside0.mk hl214_5; clear hi214_5 hl214_5; replace p214 := eq_true p214; replace q214 := eq_true q214) | (go_at_call 108; (with_reducible refine (spec_l07FitAll.calls k _ l0 _ _ ((rd_T56 l1 0).f5) false _ ?side1 ?side2 ?side3 A6.out).mono ?_); (case side1 => exact sD (Kd.C_below HR0.out HB.out)); (case side2 => exact sD (Kd.C_below HR214_5.out HB.out)); (case side3 => exact HC214_5.out); rintro e w16 ⟨rfl, hb⟩; have n0_ := sB HB hb; clear HB; have HB := n0_; clear n0_; (try clear hb); (try clear hb2); (try clear hk); (try clear hi)))
   go_ret
   exact ⟨sq, sb⟩
  replace c5 := Bool.eq_false_iff.mpr c5
  subst c5
  rewrite [if_neg (show ¬ (false = true) by decide)] at H
  obtain rfl := Option.some.inj H
  have p212 : 0 ≤ (0 : Int) := (by omega)
  have q212 : 0 < (l1.length : Int) := of_decide_eq_true (by first | (with_reducible assumption) | assumption)
  obtain ⟨ad212, A212_4, c212_4, A212_5, c212_5, e212, hx212_0, hx212_1, hx212_2, hx212_3, hx212_4, hx212_5, hx212_6, hx212_7, hx212_8, hx212_9, hl212_4, hi212_4, hl212_5, hi212_5⟩ := at_T56 HR1.out 0 p212 q212
  cases e212
  have qi212 : (0 < l1.length) = True := eq_true (by omega)
  (try rw [sZ] at hx212_0)
  (try rw [sZ] at hx212_1)
  (try rw [sZ] at hx212_2)
  (try rw [sZ] at hx212_3)
  (try rw [sZ] at hx212_4)
  (try rw [sZ] at hx212_5)
  (try rw [sZ] at hx212_6)
  (try rw [sZ] at hx212_7)
  (try rw [sZ] at hx212_8)
  (try rw [sZ] at hx212_9)
  have HR212_4 := Aside0.mk hi212_4
  have HC212_4 := Aside0.mk hl212_4
  clear hi212_4 hl212_4
  have HR212_5 := Aside0.mk hi212_5
  have HC212_5 := Aside0.mk hl212_5
  clear hi212_5 hl212_5
  replace p212 := eq_true p212
  replace q212 := eq_true q212
  go_enter Try.func145, Try.ntmps145
  go_wp2_with (first | ((with_reducible refine gate_callee (f := 108) rfl ?_); refine sC (some 10) Try.func108 #[.pointer A0, .slice A212_4 ((rd_T56 l1 0).f4).length c212_4] (spec_l07FitAll.calls k _ l0 _ _ ((rd_T56 l1 0).f4) false _ ?side1 ?side2 ?side3 A4.out) ?_; (case side1 => exact sD HR0.out); (case side2 => exact sD HR212_4.out); (case side3 => exact HC212_4.out); rintro e w17 ⟨rfl, hb⟩; refine ⟨_, rfl, ?_⟩; have n0_ := sB HB hb; clear HB; have HB := n0_; clear n0_; (try clear hb); (try clear hb2); (try clear hk); (try clear hi)))
  go_ret
  exact ⟨sq, sb⟩
 rw [if_neg c3] at H
 exact absurd H (by simp)
end Go.Proofs.Ytnjkhdhaiicefaa.PFnExactGetField
