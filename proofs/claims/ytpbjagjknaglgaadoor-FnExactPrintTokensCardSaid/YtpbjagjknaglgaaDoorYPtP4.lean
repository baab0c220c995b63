/- Printed functions: spec_l02Operator, spec_IsOperator, spec_ValidToken. -/
import Derived.Test.YtpbjagjknaglgaaDoorYPtP0
import Derived.Test.YtpbjagjknaglgaaDoorYPtP2
import Derived.Test.YtpbjagjknaglgaaDoorYPtP3
namespace Go.Proofs.YtpbjagjknaglgaaDoor.PFnExactPrintTokens
open Go.RowKit Go.Proofs.YtpbjagjknaglgaaDoorG Go.Proofs.YtpbjagjknaglgaaDoorW.PrintWords Go.Proofs.YtpbjagjknaglgaaDoorW.PrintLast Go.Proofs.YtpbjagjknaglgaaDoorW.PrintMore
attribute [local go_sem] max2_int min2_int max_two min_two max_three min_three max_four min_four   -- for this text's walks alone
set_option linter.unusedVariables false
set_option linter.unusedSimpArgs false
/-! ### spec_l02Operator: function 105 -/
def spec_l02Operator.f (a0 : Int) : Option (Bool) := if a0 = 43 then (some true) else (if a0 = 45 then (some true) else (if a0 = 42 then (some true) else (if a0 = 47 then (some true) else (if a0 = 124 then (some true) else (if a0 = 46 then (some true) else (if a0 = 36 then (some true) else (if a0 = 64 then (some true) else (if a0 = 61 then (some true) else (some false)))))))))
set_option maxHeartbeats 8000000 in
set_option maxRecDepth 100000 in
theorem spec_l02Operator.calls (a0 : Int) (r : Bool) (w : World) (h : spec_l02Operator.f a0 = some r) :
  Calls Tryd.prog 105 #[.int .u8 a0] w fun e w' => e = .returned (.bool r) ∧ Drawn0 w w' := by
 have H : (if a0 = 43 then (some true) else (if a0 = 45 then (some true) else (if a0 = 42 then (some true) else (if a0 = 47 then (some true) else (if a0 = 124 then (some true) else (if a0 = 46 then (some true) else (if a0 = 36 then (some true) else (if a0 = 64 then (some true) else (if a0 = 61 then (some true) else (some false)))))))))) = some r := h
 clear h
 by_cases c2 : a0 = 43
 ·rw [if_pos c2] at H
  have c2b0 : (a0 == 43) = true := beq_iff_eq.mpr c2
  have c2b1 : (a0 != 43) = false := bne_eq_false_iff_eq.mpr c2
  clear c2
  obtain rfl := Option.some.inj H
  go_enter Tryd.func105, Tryd.ntmps105
  go_wp2
  go_ret
  exact ⟨by first | rfl | (simp; done) | (simp [*]; done), by repeat (first | exact Drawn0.refl _ | apply Drawn0.step)⟩
 rw [if_neg c2] at H
 have c2b0 : (a0 == 43) = false := beq_eq_false_iff_ne.mpr c2
 have c2b1 : (a0 != 43) = true := bne_iff_ne.mpr c2
 by_cases c3 : a0 = 45
 ·rw [if_pos c3] at H
  have c3b0 : (a0 == 45) = true := beq_iff_eq.mpr c3
  have c3b1 : (a0 != 45) = false := bne_eq_false_iff_eq.mpr c3
  clear c3
  obtain rfl := Option.some.inj H
  go_enter Tryd.func105, Tryd.ntmps105
  go_wp2
  go_ret
  exact ⟨by first | rfl | (simp; done) | (simp [*]; done), by repeat (first | exact Drawn0.refl _ | apply Drawn0.step)⟩
 rw [if_neg c3] at H
 have c3b0 : (a0 == 45) = false := beq_eq_false_iff_ne.mpr c3
 have c3b1 : (a0 != 45) = true := bne_iff_ne.mpr c3
 by_cases c4 : a0 = 42
 ·rw [if_pos c4] at H
  have c4b0 : (a0 == 42) = true := beq_iff_eq.mpr c4
  have c4b1 : (a0 != 42) = false := bne_eq_false_iff_eq.mpr c4
  clear c4
  obtain rfl := Option.some.inj H
  go_enter Tryd.func105, Tryd.ntmps105
  go_wp2
  go_ret
  exact ⟨by first | rfl | (simp; done) | (simp [*]; done), by repeat (first | exact Drawn0.refl _ | apply Drawn0.step)⟩
 rw [if_neg c4] at H
 have c4b0 : (a0 == 42) = false := beq_eq_false_iff_ne.mpr c4
 have c4b1 : (a0 != 42) = true := bne_iff_ne.mpr c4
 by_cases c5 : a0 = 47
 ·rw [if_pos c5] at H
  have c5b0 : (a0 == 47) = true := beq_iff_eq.mpr c5
  have c5b1 : (a0 != 47) = false := bne_eq_false_iff_eq.mpr c5
  clear c5
  obtain rfl := Option.some.inj H
  go_enter Tryd.func105, Tryd.ntmps105
  go_wp2
  go_ret
  exact ⟨by first | rfl | (simp; done) | (simp [*]; done), by repeat (first | exact Drawn0.refl _ | apply Drawn0.step)⟩
 rw [if_neg c5] at H
 have c5b0 : (a0 == 47) = false := beq_eq_false_iff_ne.mpr c5
 have c5b1 : (a0 != 47) = true := bne_iff_ne.mpr c5
 by_cases c6 : a0 = 124
 ·rw [if_pos c6] at H
  have c6b0 : (a0 == 124) = true := beq_iff_eq.mpr c6
  have c6b1 : (a0 != 124) = false := bne_eq_false_iff_eq.mpr c6
  clear c6
  obtain rfl := Option.some.inj H
  go_enter Tryd.func105, Tryd.ntmps105
  go_wp2
  go_ret
  exact ⟨by first | rfl | (simp; done) | (simp [*]; done), by repeat (first | exact Drawn0.refl _ | apply Drawn0.step)⟩
 rw [if_neg c6] at H
 have c6b0 : (a0 == 124) = false := beq_eq_false_iff_ne.mpr c6
 have c6b1 : (a0 != 124) = true := bne_iff_ne.mpr c6
 by_cases c7 : a0 = 46
 ·rw [if_pos c7] at H
  have c7b0 : (a0 == 46) = true := beq_iff_eq.mpr c7
  have c7b1 : (a0 != 46) = false := bne_eq_false_iff_eq.mpr c7
  clear c7
  obtain rfl := Option.some.inj H
  go_enter Tryd.func105, Tryd.ntmps105
  go_wp2
  go_ret
  exact ⟨by first | rfl | (simp; done) | (simp [*]; done), by repeat (first | exact Drawn0.refl _ | apply Drawn0.step)⟩
 rw [if_neg c7] at H
 have c7b0 : (a0 == 46) = false := beq_eq_false_iff_ne.mpr c7
 have c7b1 : (a0 != 46) = true := bne_iff_ne.mpr c7
 by_cases c8 : a0 = 36
 ·rw [if_pos c8] at H
  have c8b0 : (a0 == 36) = true := beq_iff_eq.mpr c8
  have c8b1 : (a0 != 36) = false := bne_eq_false_iff_eq.mpr c8
  clear c8
  obtain rfl := Option.some.inj H
  go_enter Tryd.func105, Tryd.ntmps105
  go_wp2
  go_ret
  exact ⟨by first | rfl | (simp; done) | (simp [*]; done), by repeat (first | exact Drawn0.refl _ | apply Drawn0.step)⟩
 rw [if_neg c8] at H
 have c8b0 : (a0 == 36) = false := beq_eq_false_iff_ne.mpr c8
 have c8b1 : (a0 != 36) = true := bne_iff_ne.mpr c8
 by_cases c9 : a0 = 64
 ·rw [if_pos c9] at H
  have c9b0 : (a0 == 64) = true := beq_iff_eq.mpr c9
  have c9b1 : (a0 != 64) = false := bne_eq_false_iff_eq.mpr c9
  clear c9
  obtain rfl := Option.some.inj H
  go_enter Tryd.func105, Tryd.ntmps105
  go_wp2
  go_ret
  exact ⟨by first | rfl | (simp; done) | (simp [*]; done), by repeat (first | exact Drawn0.refl _ | apply Drawn0.step)⟩
 rw [if_neg c9] at H
 have c9b0 : (a0 == 64) = false := beq_eq_false_iff_ne.mpr c9
 have c9b1 : (a0 != 64) = true := bne_iff_ne.mpr c9
 by_cases c10 : a0 = 61
 ·rw [if_pos c10] at H
  have c10b0 : (a0 == 61) = true := beq_iff_eq.mpr c10
  have c10b1 : (a0 != 61) = false := bne_eq_false_iff_eq.mpr c10
  clear c10
  obtain rfl := Option.some.inj H
  go_enter Tryd.func105, Tryd.ntmps105
  go_wp2
  go_ret
  exact ⟨by first | rfl | (simp; done) | (simp [*]; done), by repeat (first | exact Drawn0.refl _ | apply Drawn0.step)⟩
 rw [if_neg c10] at H
 have c10b0 : (a0 == 61) = false := beq_eq_false_iff_ne.mpr c10
 have c10b1 : (a0 != 61) = true := bne_iff_ne.mpr c10
 obtain rfl := Option.some.inj H
 go_enter Tryd.func105, Tryd.ntmps105
 go_wp2
 go_ret
 exact ⟨by first | rfl | (simp; done) | (simp [*]; done), by repeat (first | exact Drawn0.refl _ | apply Drawn0.step)⟩

/-! ### spec_IsOperator: function 71 -/
def spec_IsOperator.f (a0 : ByteArray) : Option (Bool) := if (a0.size : Int) = 1 then (if 0 < (a0.size : Int) then ((spec_l02Operator.f (bt a0 0)).bind fun t124 => (some t124)) else (none)) else (some false)
set_option maxHeartbeats 8000000 in
set_option maxRecDepth 100000 in
theorem spec_IsOperator.calls (a0 : ByteArray) (r : Bool) (w : World) (h : spec_IsOperator.f a0 = some r) :
  Calls Tryd.prog 71 #[.string a0] w fun e w' => e = .returned (.bool r) ∧ Drawn0 w w' := by
 have H : (if (a0.size : Int) = 1 then (if 0 < (a0.size : Int) then ((spec_l02Operator.f (bt a0 0)).bind fun t124 => (some t124)) else (none)) else (some false)) = some r := h
 clear h
 by_cases c2 : (a0.size : Int) = 1
 ·rw [if_pos c2] at H
  have c2b0 : ((a0.size : Int) == 1) = true := beq_iff_eq.mpr c2
  have c2b1 : ((a0.size : Int) != 1) = false := bne_eq_false_iff_eq.mpr c2
  clear c2
  by_cases c3 : 0 < (a0.size : Int)
  ·rw [if_pos c3] at H
   have c3b0 := decide_eq_true c3
   have c3b1 : decide (0 < a0.size) = true := decide_eq_true (by omega)
   clear c3
   obtain ⟨t124, A5, H⟩ := sO H
   obtain rfl := Option.some.inj H
   have p4 : 0 ≤ (0 : Int) := (by omega)
   have q4 : 0 < a0.size := (by have : (0 : Int) < (a0.size : Int) := of_decide_eq_true (by first | (with_reducible assumption) | assumption); omega)
   have hx4 : ∀ h : 0 < a0.size, ((a0[0]'h).toNat : Int) = bt a0 0 := bt_at a0 0
   clear p4
   have qi4 : (0 < (a0.size : Int)) = True := eq_true (of_decide_eq_true (by first | (with_reducible assumption) | assumption))
   replace q4 := eq_true q4
   go_enter Tryd.func71, Tryd.ntmps71
   go_wp2_with (first | (go_at_call 105; (with_reducible refine (spec_l02Operator.calls (bt a0 0) t124 _ A5.out).mono ?_); rintro e w' ⟨rfl, ⟨nd, rfl⟩⟩))
   go_ret
   exact ⟨by first | rfl | (simp; done) | (simp [*]; done), by repeat (first | exact Drawn0.refl _ | apply Drawn0.step)⟩
  rw [if_neg c3] at H
  exact absurd H (by simp)
 rw [if_neg c2] at H
 have c2b0 : ((a0.size : Int) == 1) = false := beq_eq_false_iff_ne.mpr c2
 have c2b1 : ((a0.size : Int) != 1) = true := bne_iff_ne.mpr c2
 obtain rfl := Option.some.inj H
 go_enter Tryd.func71, Tryd.ntmps71
 go_wp2
 go_ret
 exact ⟨by first | rfl | (simp; done) | (simp [*]; done), by repeat (first | exact Drawn0.refl _ | apply Drawn0.step)⟩

/-! ### spec_ValidToken: function 32 -/
def spec_ValidToken.f (k : Nat) (a0_0 : Int) (a0_1 : Int) (a0_2 : ByteArray) (a0_3 : Bool) (a0_4 : Bool) : Option (Bool) := if a0_0 = 1 then ((spec_IsName.f k a0_2).bind fun t126 => (if t126 = true then (some (a0_1 == 0)) else (some false))) else (if a0_0 = 2 then (if a0_2.toList = ([] : List UInt8) then ((spec_l00In.f a0_1 0 1000000000000).bind fun t127 => (some t127)) else (some false)) else (if a0_0 = 3 then ((spec_CanQuote.f k a0_2).bind fun t128 => (if t128 = true then (some (a0_1 == 0)) else (some false))) else (if a0_0 = 4 then ((spec_IsOperator.f a0_2).bind fun t129 => (if t129 = true then (some (a0_1 == 0)) else (some false))) else ((spec_l00In.f a0_0 5 10).bind fun t130 => (if t130 = true then (if a0_2.toList = ([] : List UInt8) then (some (a0_1 == 0)) else (some false)) else (some false))))))
set_option maxHeartbeats 8000000 in
set_option maxRecDepth 100000 in
theorem spec_ValidToken.calls (k : Nat) (a0_0 : Int) (a0_1 : Int) (a0_2 : ByteArray) (a0_3 : Bool) (a0_4 : Bool) (r : Bool) (w : World) (h : spec_ValidToken.f k a0_0 a0_1 a0_2 a0_3 a0_4 = some r) :
  Calls Tryd.prog 32 #[.agg #[.int .i64 a0_0, .int .i64 a0_1, .string a0_2, .bool a0_3, .bool a0_4]] w fun e w' => e = .returned (.bool r) ∧ Below w.heap.size w w' := by
 have hu26 := Tryd.underlying26
 have HB := Aside0.mk (Below.refl w.heap.size w)
 have H : (if a0_0 = 1 then ((spec_IsName.f k a0_2).bind fun t126 => (if t126 = true then (some (a0_1 == 0)) else (some false))) else (if a0_0 = 2 then (if a0_2.toList = ([] : List UInt8) then ((spec_l00In.f a0_1 0 1000000000000).bind fun t127 => (some t127)) else (some false)) else (if a0_0 = 3 then ((spec_CanQuote.f k a0_2).bind fun t128 => (if t128 = true then (some (a0_1 == 0)) else (some false))) else (if a0_0 = 4 then ((spec_IsOperator.f a0_2).bind fun t129 => (if t129 = true then (some (a0_1 == 0)) else (some false))) else ((spec_l00In.f a0_0 5 10).bind fun t130 => (if t130 = true then (if a0_2.toList = ([] : List UInt8) then (some (a0_1 == 0)) else (some false)) else (some false))))))) = some r := h
 clear h
 by_cases c2 : a0_0 = 1
 ·rw [if_pos c2] at H
  have c2b0 : (a0_0 == 1) = true := beq_iff_eq.mpr c2
  have c2b1 : (a0_0 != 1) = false := bne_eq_false_iff_eq.mpr c2
  clear c2
  obtain ⟨t126, A3, H⟩ := sO H
  by_cases c4 : t126 = true
  ·subst c4
   rewrite [if_pos rfl] at H
   obtain rfl := Option.some.inj H
   go_enter Tryd.func32, Tryd.ntmps32
   go_wp2_with (first | ((with_reducible refine gate_dst (N := 1) rfl ?_); refine sV (N := 1) (cs := #[.int .i64 a0_0, .int .i64 a0_1, .string a0_2, .bool a0_3, .bool a0_4]) (t := 26) ?_; intro gb125 hg w5 hbox hb; have n0_ := sB HB hb; have n1_ := Aside0.mk (hbox); have n2_ := sG HB hg; have n3_ := sG HB hg; clear HB; have HB := n0_; have BK125 := n1_; have GW125 := n2_; have GE125 := n3_; clear n0_ n1_ n2_ n3_; clear hb hbox hg; obtain ⟨hcz6_0, hcz6_1, hcz6_2, hcz6_3, hcz6_4, hfz6_0, hfz6_1, hfz6_2, hfz6_3, hfz6_4⟩ := cells5 BK125.out) | ((with_reducible refine gate_callee (f := 68) rfl ?_); refine sC (some 9) Tryd.func68 #[.string a0_2] (spec_IsName.calls k a0_2 true _ A3.out) ?_; rintro e w' ⟨rfl, ⟨nd, rfl⟩⟩; refine ⟨_, rfl, ?_⟩))
   go_ret
   exact ⟨sq, sb⟩
  replace c4 := Bool.eq_false_iff.mpr c4
  subst c4
  rewrite [if_neg (show ¬ (false = true) by decide)] at H
  obtain rfl := Option.some.inj H
  go_enter Tryd.func32, Tryd.ntmps32
  go_wp2_with (first | ((with_reducible refine gate_dst (N := 1) rfl ?_); refine sV (N := 1) (cs := #[.int .i64 a0_0, .int .i64 a0_1, .string a0_2, .bool a0_3, .bool a0_4]) (t := 26) ?_; intro gb125 hg w7 hbox hb; have n0_ := sB HB hb; have n1_ := Aside0.mk (hbox); have n2_ := sG HB hg; have n3_ := sG HB hg; clear HB; have HB := n0_; have BK125 := n1_; have GW125 := n2_; have GE125 := n3_; clear n0_ n1_ n2_ n3_; clear hb hbox hg; obtain ⟨hcz8_0, hcz8_1, hcz8_2, hcz8_3, hcz8_4, hfz8_0, hfz8_1, hfz8_2, hfz8_3, hfz8_4⟩ := cells5 BK125.out) | ((with_reducible refine gate_callee (f := 68) rfl ?_); refine sC (some 9) Tryd.func68 #[.string a0_2] (spec_IsName.calls k a0_2 false _ A3.out) ?_; rintro e w' ⟨rfl, ⟨nd, rfl⟩⟩; refine ⟨_, rfl, ?_⟩))
  go_ret
  exact ⟨sq, sb⟩
 rw [if_neg c2] at H
 have c2b0 : (a0_0 == 1) = false := beq_eq_false_iff_ne.mpr c2
 have c2b1 : (a0_0 != 1) = true := bne_iff_ne.mpr c2
 by_cases c9 : a0_0 = 2
 ·rw [if_pos c9] at H
  have c9b0 : (a0_0 == 2) = true := beq_iff_eq.mpr c9
  have c9b1 : (a0_0 != 2) = false := bne_eq_false_iff_eq.mpr c9
  clear c9
  by_cases c10 : a0_2.toList = ([] : List UInt8)
  ·rw [if_pos c10] at H
   have c10b0 : (a0_2.toList == ([] : List UInt8)) = true := beq_iff_eq.mpr c10
   have c10b1 : (a0_2.toList != ([] : List UInt8)) = false := bne_eq_false_iff_eq.mpr c10
   have c10b2 : a0_2.toList.isEmpty = true := by simpa using c10
   clear c10
   obtain ⟨t127, A11, H⟩ := sO H
   obtain rfl := Option.some.inj H
   go_enter Tryd.func32, Tryd.ntmps32
   go_wp2_with (first | ((with_reducible refine gate_dst (N := 1) rfl ?_); refine sV (N := 1) (cs := #[.int .i64 a0_0, .int .i64 a0_1, .string a0_2, .bool a0_3, .bool a0_4]) (t := 26) ?_; intro gb125 hg w12 hbox hb; have n0_ := sB HB hb; have n1_ := Aside0.mk (hbox); have n2_ := sG HB hg; have n3_ := sG HB hg; clear HB; have HB := n0_; have BK125 := n1_; have GW125 := n2_; have GE125 := n3_; clear n0_ n1_ n2_ n3_; clear hb hbox hg; obtain ⟨hcz13_0, hcz13_1, hcz13_2, hcz13_3, hcz13_4, hfz13_0, hfz13_1, hfz13_2, hfz13_3, hfz13_4⟩ := cells5 BK125.out) | (go_at_call 69; (with_reducible refine (spec_l00In.calls a0_1 0 1000000000000 t127 _ A11.out).mono ?_); rintro e w' ⟨rfl, ⟨nd, rfl⟩⟩))
   go_ret
   exact ⟨sq, sb⟩
  rw [if_neg c10] at H
  have c10b0 : (a0_2.toList == ([] : List UInt8)) = false := beq_eq_false_iff_ne.mpr c10
  have c10b1 : (a0_2.toList != ([] : List UInt8)) = true := bne_iff_ne.mpr c10
  have c10b2 : a0_2.toList.isEmpty = false := by simpa using c10
  obtain rfl := Option.some.inj H
  go_enter Tryd.func32, Tryd.ntmps32
  go_wp2_with (first | ((with_reducible refine gate_dst (N := 1) rfl ?_); refine sV (N := 1) (cs := #[.int .i64 a0_0, .int .i64 a0_1, .string a0_2, .bool a0_3, .bool a0_4]) (t := 26) ?_; intro gb125 hg w14 hbox hb; have n0_ := sB HB hb; have n1_ := Aside0.mk (hbox); have n2_ := sG HB hg; have n3_ := sG HB hg; clear HB; have HB := n0_; have BK125 := n1_; have GW125 := n2_; have GE125 := n3_; clear n0_ n1_ n2_ n3_; clear hb hbox hg; obtain ⟨hcz15_0, hcz15_1, hcz15_2, hcz15_3, hcz15_4, hfz15_0, hfz15_1, hfz15_2, hfz15_3, hfz15_4⟩ := cells5 BK125.out))
  go_ret
  exact ⟨sq, sb⟩
 rw [if_neg c9] at H
 have c9b0 : (a0_0 == 2) = false := beq_eq_false_iff_ne.mpr c9
 have c9b1 : (a0_0 != 2) = true := bne_iff_ne.mpr c9
 by_cases c16 : a0_0 = 3
 ·rw [if_pos c16] at H
  have c16b0 : (a0_0 == 3) = true := beq_iff_eq.mpr c16
  have c16b1 : (a0_0 != 3) = false := bne_eq_false_iff_eq.mpr c16
  clear c16
  obtain ⟨t128, A17, H⟩ := sO H
  by_cases c18 : t128 = true
  ·subst c18
   rewrite [if_pos rfl] at H
   obtain rfl := Option.some.inj H
   go_enter Tryd.func32, Tryd.ntmps32
   go_wp2_with (first | ((with_reducible refine gate_dst (N := 1) rfl ?_); refine sV (N := 1) (cs := #[.int .i64 a0_0, .int .i64 a0_1, .string a0_2, .bool a0_3, .bool a0_4]) (t := 26) ?_; intro gb125 hg w19 hbox hb; have n0_ := sB HB hb; have n1_ := Aside0.mk (hbox); have n2_ := sG HB hg; have n3_ := sG HB hg; clear HB; have HB := n0_; have BK125 := n1_; have GW125 := n2_; have GE125 := n3_; clear n0_ n1_ n2_ n3_; clear hb hbox hg; obtain ⟨hcz20_0, hcz20_1, hcz20_2, hcz20_3, hcz20_4, hfz20_0, hfz20_1, hfz20_2, hfz20_3, hfz20_4⟩ := cells5 BK125.out) | ((with_reducible refine gate_callee (f := 70) rfl ?_); refine sC (some 29) Tryd.func70 #[.string a0_2] (spec_CanQuote.calls k a0_2 true _ A17.out) ?_; rintro e w' ⟨rfl, ⟨nd, rfl⟩⟩; refine ⟨_, rfl, ?_⟩))
   go_ret
   exact ⟨sq, sb⟩
  replace c18 := Bool.eq_false_iff.mpr c18
  subst c18
  rewrite [if_neg (show ¬ (false = true) by decide)] at H
  obtain rfl := Option.some.inj H
  go_enter Tryd.func32, Tryd.ntmps32
  go_wp2_with (first | ((with_reducible refine gate_dst (N := 1) rfl ?_); refine sV (N := 1) (cs := #[.int .i64 a0_0, .int .i64 a0_1, .string a0_2, .bool a0_3, .bool a0_4]) (t := 26) ?_; intro gb125 hg w21 hbox hb; have n0_ := sB HB hb; have n1_ := Aside0.mk (hbox); have n2_ := sG HB hg; have n3_ := sG HB hg; clear HB; have HB := n0_; have BK125 := n1_; have GW125 := n2_; have GE125 := n3_; clear n0_ n1_ n2_ n3_; clear hb hbox hg; obtain ⟨hcz22_0, hcz22_1, hcz22_2, hcz22_3, hcz22_4, hfz22_0, hfz22_1, hfz22_2, hfz22_3, hfz22_4⟩ := cells5 BK125.out) | ((with_reducible refine gate_callee (f := 70) rfl ?_); refine sC (some 29) Tryd.func70 #[.string a0_2] (spec_CanQuote.calls k a0_2 false _ A17.out) ?_; rintro e w' ⟨rfl, ⟨nd, rfl⟩⟩; refine ⟨_, rfl, ?_⟩))
  go_ret
  exact ⟨sq, sb⟩
 rw [if_neg c16] at H
 have c16b0 : (a0_0 == 3) = false := beq_eq_false_iff_ne.mpr c16
 have c16b1 : (a0_0 != 3) = true := bne_iff_ne.mpr c16
 by_cases c23 : a0_0 = 4
 ·rw [if_pos c23] at H
  have c23b0 : (a0_0 == 4) = true := beq_iff_eq.mpr c23
  have c23b1 : (a0_0 != 4) = false := bne_eq_false_iff_eq.mpr c23
  clear c23
  obtain ⟨t129, A24, H⟩ := sO H
  by_cases c25 : t129 = true
  ·subst c25
   rewrite [if_pos rfl] at H
   obtain rfl := Option.some.inj H
   go_enter Tryd.func32, Tryd.ntmps32
   go_wp2_with (first | ((with_reducible refine gate_dst (N := 1) rfl ?_); refine sV (N := 1) (cs := #[.int .i64 a0_0, .int .i64 a0_1, .string a0_2, .bool a0_3, .bool a0_4]) (t := 26) ?_; intro gb125 hg w26 hbox hb; have n0_ := sB HB hb; have n1_ := Aside0.mk (hbox); have n2_ := sG HB hg; have n3_ := sG HB hg; clear HB; have HB := n0_; have BK125 := n1_; have GW125 := n2_; have GE125 := n3_; clear n0_ n1_ n2_ n3_; clear hb hbox hg; obtain ⟨hcz27_0, hcz27_1, hcz27_2, hcz27_3, hcz27_4, hfz27_0, hfz27_1, hfz27_2, hfz27_3, hfz27_4⟩ := cells5 BK125.out) | ((with_reducible refine gate_callee (f := 71) rfl ?_); refine sC (some 39) Tryd.func71 #[.string a0_2] (spec_IsOperator.calls a0_2 true _ A24.out) ?_; rintro e w' ⟨rfl, ⟨nd, rfl⟩⟩; refine ⟨_, rfl, ?_⟩))
   go_ret
   exact ⟨sq, sb⟩
  replace c25 := Bool.eq_false_iff.mpr c25
  subst c25
  rewrite [if_neg (show ¬ (false = true) by decide)] at H
  obtain rfl := Option.some.inj H
  go_enter Tryd.func32, Tryd.ntmps32
  go_wp2_with (first | ((with_reducible refine gate_dst (N := 1) rfl ?_); refine sV (N := 1) (cs := #[.int .i64 a0_0, .int .i64 a0_1, .string a0_2, .bool a0_3, .bool a0_4]) (t := 26) ?_; intro gb125 hg w28 hbox hb; have n0_ := sB HB hb; have n1_ := Aside0.mk (hbox); have n2_ := sG HB hg; have n3_ := sG HB hg; clear HB; have HB := n0_; have BK125 := n1_; have GW125 := n2_; have GE125 := n3_; clear n0_ n1_ n2_ n3_; clear hb hbox hg; obtain ⟨hcz29_0, hcz29_1, hcz29_2, hcz29_3, hcz29_4, hfz29_0, hfz29_1, hfz29_2, hfz29_3, hfz29_4⟩ := cells5 BK125.out) | ((with_reducible refine gate_callee (f := 71) rfl ?_); refine sC (some 39) Tryd.func71 #[.string a0_2] (spec_IsOperator.calls a0_2 false _ A24.out) ?_; rintro e w' ⟨rfl, ⟨nd, rfl⟩⟩; refine ⟨_, rfl, ?_⟩))
  go_ret
  exact ⟨sq, sb⟩
 rw [if_neg c23] at H
 have c23b0 : (a0_0 == 4) = false := beq_eq_false_iff_ne.mpr c23
 have c23b1 : (a0_0 != 4) = true := bne_iff_ne.mpr c23
 obtain ⟨t130, A30, H⟩ := sO H
 by_cases c31 : t130 = true
 ·subst c31
  rewrite [if_pos rfl] at H
  by_cases c32 : a0_2.toList = ([] : List UInt8)
  ·rw [if_pos c32] at H
   have c32b0 : (a0_2.toList == ([] : List UInt8)) = true := beq_iff_eq.mpr c32
   have c32b1 : (a0_2.toList != ([] : List UInt8)) = false := bne_eq_false_iff_eq.mpr c32
   have c32b2 : a0_2.toList.isEmpty = true := by simpa using c32
   clear c32
   obtain rfl := Option.some.inj H
   go_enter Tryd.func32, Tryd.ntmps32
   go_wp2_with (first | ((with_reducible refine gate_dst (N := 1) rfl ?_); refine sV (N := 1) (cs := #[.int .i64 a0_0, .int .i64 a0_1, .string a0_2, .bool a0_3, .bool a0_4]) (t := 26) ?_; intro gb125 hg w33 hbox hb; have n0_ := sB HB hb; have n1_ := Aside0.mk (hbox); have n2_ := sG HB hg; have n3_ := sG HB hg; clear HB; have HB := n0_; have BK125 := n1_; have GW125 := n2_; have GE125 := n3_; clear n0_ n1_ n2_ n3_; clear hb hbox hg; obtain ⟨hcz34_0, hcz34_1, hcz34_2, hcz34_3, hcz34_4, hfz34_0, hfz34_1, hfz34_2, hfz34_3, hfz34_4⟩ := cells5 BK125.out) | ((with_reducible refine gate_callee (f := 69) rfl ?_); refine sC (some 47) Tryd.func69 #[.int .i64 a0_0, .int .i64 5, .int .i64 10] (spec_l00In.calls a0_0 5 10 true _ A30.out) ?_; rintro e w' ⟨rfl, ⟨nd, rfl⟩⟩; refine ⟨_, rfl, ?_⟩))
   go_ret
   exact ⟨sq, sb⟩
  rw [if_neg c32] at H
  have c32b0 : (a0_2.toList == ([] : List UInt8)) = false := beq_eq_false_iff_ne.mpr c32
  have c32b1 : (a0_2.toList != ([] : List UInt8)) = true := bne_iff_ne.mpr c32
  have c32b2 : a0_2.toList.isEmpty = false := by simpa using c32
  obtain rfl := Option.some.inj H
  go_enter Tryd.func32, Tryd.ntmps32
  go_wp2_with (first | ((with_reducible refine gate_dst (N := 1) rfl ?_); refine sV (N := 1) (cs := #[.int .i64 a0_0, .int .i64 a0_1, .string a0_2, .bool a0_3, .bool a0_4]) (t := 26) ?_; intro gb125 hg w35 hbox hb; have n0_ := sB HB hb; have n1_ := Aside0.mk (hbox); have n2_ := sG HB hg; have n3_ := sG HB hg; clear HB; have HB := n0_; have BK125 := n1_; have GW125 := n2_; have GE125 := n3_; clear n0_ n1_ n2_ n3_; clear hb hbox hg; obtain ⟨hcz36_0, hcz36_1, hcz36_2, hcz36_3, hcz36_4, hfz36_0, hfz36_1, hfz36_2, hfz36_3, hfz36_4⟩ := cells5 BK125.out) | ((with_reducible refine gate_callee (f := 69) rfl ?_); refine sC (some 47) Tryd.func69 #[.int .i64 a0_0, .int .i64 5, .int .i64 10] (spec_l00In.calls a0_0 5 10 true _ A30.out) ?_; rintro e w' ⟨rfl, ⟨nd, rfl⟩⟩; refine ⟨_, rfl, ?_⟩))
  go_ret
  exact ⟨sq, sb⟩
 replace c31 := Bool.eq_false_iff.mpr c31
 subst c31
 rewrite [if_neg (show ¬ (false = true) by decide)] at H
 obtain rfl := Option.some.inj H
 go_enter Tryd.func32, Tryd.ntmps32
 go_wp2_with (first | ((with_reducible refine gate_dst (N := 1) rfl ?_); refine sV (N := 1) (cs := #[.int .i64 a0_0, .int .i64 a0_1, .string a0_2, .bool a0_3, .bool a0_4]) (t := 26) ?_; intro gb125 hg w37 hbox hb; have n0_ := sB HB hb; have n1_ := Aside0.mk (hbox); have n2_ := sG HB hg; have n3_ := sG HB hg; clear HB; have HB := n0_; have BK125 := n1_; have GW125 := n2_; have GE125 := n3_; clear n0_ n1_ n2_ n3_; clear hb hbox hg; obtain ⟨hcz38_0, hcz38_1, hcz38_2, hcz38_3, hcz38_4, hfz38_0, hfz38_1, hfz38_2, hfz38_3, hfz38_4⟩ := cells5 BK125.out) | ((with_reducible refine gate_callee (f := 69) rfl ?_); refine sC (some 47) Tryd.func69 #[.int .i64 a0_0, .int .i64 5, .int .i64 10] (spec_l00In.calls a0_0 5 10 false _ A30.out) ?_; rintro e w' ⟨rfl, ⟨nd, rfl⟩⟩; refine ⟨_, rfl, ?_⟩))
 go_ret
 exact ⟨sq, sb⟩
end Go.Proofs.YtpbjagjknaglgaaDoor.PFnExactPrintTokens
