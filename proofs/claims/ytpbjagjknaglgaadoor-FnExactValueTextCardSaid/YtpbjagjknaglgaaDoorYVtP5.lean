/- Printed functions: spec_ValueText, laws_FnExactValueText. -/
import Derived.Test.YtpbjagjknaglgaaDoorYVtP0
import Derived.Test.YtpbjagjknaglgaaDoorYVtP1
import Derived.Test.YtpbjagjknaglgaaDoorYVtP3
import Derived.Test.YtpbjagjknaglgaaDoorYVtP4
import Derived.Test.YtpbjagjknaglgaaDoorYVtP8
namespace Go.Proofs.YtpbjagjknaglgaaDoor.PFnExactValueText
open Go.RowKit Go.Proofs.YtpbjagjknaglgaaDoorG Go.Proofs.YtpbjagjknaglgaaDoorW.PrintWords Go.Proofs.YtpbjagjknaglgaaDoorW.PrintLast Go.Proofs.YtpbjagjknaglgaaDoorW.PrintMore
attribute [local go_sem] max2_int min2_int max_two min_two max_three min_three max_four min_four   -- for this text's walks alone
set_option linter.unusedVariables false
set_option linter.unusedSimpArgs false
/-! ### spec_ValueText: function 29 -/
def spec_ValueText.f (k : Nat) (a0_0 : Int) (a0_1 : Int) (a0_2 : ByteArray) (a0_3 : Int) : Option (ByteArray) := (spec_ValidValue.f k a0_0 a0_1 a0_2 a0_3).bind fun t133 => (if t133 = true then (if a0_0 = 1 then ((spec_QuoteText.f k a0_2).bind fun t134 => (some t134)) else (if a0_0 = 2 then ((spec_l06Digits.f k a0_1).bind fun t135 => (some t135)) else (if a0_0 = 3 then (if 1 + a0_2.size ≤ 9223372036854775807 then (if 1 + a0_2.size + 1 ≤ 9223372036854775807 then (some (((⟨#[60]⟩ : ByteArray) ++ a0_2) ++ (⟨#[62]⟩ : ByteArray))) else (none)) else (none)) else (if a0_0 = 7 then (if 1 + a0_2.size ≤ 9223372036854775807 then (some ((⟨#[46]⟩ : ByteArray) ++ a0_2)) else (none)) else (if a0_0 = 8 then (if 1 + a0_2.size ≤ 9223372036854775807 then (some ((⟨#[42]⟩ : ByteArray) ++ a0_2)) else (none)) else ((spec_DataType.f k a0_0 a0_1 a0_2 a0_3).bind fun t136 => (if t136.size + 1 ≤ 9223372036854775807 then ((spec_l06Digits.f k a0_3).bind fun t137 => (if t136.size + 1 + t137.size ≤ 9223372036854775807 then (some ((t136 ++ (⟨#[35]⟩ : ByteArray)) ++ t137)) else (none))) else (none)))))))) else (some (⟨#[]⟩ : ByteArray)))
def spec_ValueText.T14 : Bool × List (List Nat × List Nat) := (true, [([], []), ([0], [0]), ([1], [1]), ([], []), ([3], [3]), ([4, 1], [4]), ([2, 5], [2, 5]), ([6, 5, 0, 1, 2, 3, 4, 5, 6], [6])])
def spec_ValueText.B14 : List Nat := [0, 1, 3, 0, 8, 27, 63, 127]
theorem spec_ValueText.tab14 : rtab .any (opsOf Tryd.f29 14) = spec_ValueText.T14 := by kernel_rfl
theorem spec_ValueText.bits14 : waitsOk spec_ValueText.T14.2 spec_ValueText.B14 = true := by kernel_rfl
set_option maxHeartbeats 8000000 in
set_option maxRecDepth 100000 in
theorem spec_ValueText.calls (k : Nat) (a0_0 : Int) (a0_1 : Int) (a0_2 : ByteArray) (a0_3 : Int) (r : ByteArray) (w : World) (h : spec_ValueText.f k a0_0 a0_1 a0_2 a0_3 = some r) :
  Calls Tryd.prog 29 #[.agg #[.int .i64 a0_0, .int .i64 a0_1, .string a0_2, .int .i64 a0_3]] w fun e w' => e = .returned (.string r) ∧ Below w.heap.size w w' := by
 have hu54 := Tryd.underlying54
 have HB := Aside0.mk (Below.refl w.heap.size w)
 have H : ((spec_ValidValue.f k a0_0 a0_1 a0_2 a0_3).bind fun t133 => (if t133 = true then (if a0_0 = 1 then ((spec_QuoteText.f k a0_2).bind fun t134 => (some t134)) else (if a0_0 = 2 then ((spec_l06Digits.f k a0_1).bind fun t135 => (some t135)) else (if a0_0 = 3 then (if 1 + a0_2.size ≤ 9223372036854775807 then (if 1 + a0_2.size + 1 ≤ 9223372036854775807 then (some (((⟨#[60]⟩ : ByteArray) ++ a0_2) ++ (⟨#[62]⟩ : ByteArray))) else (none)) else (none)) else (if a0_0 = 7 then (if 1 + a0_2.size ≤ 9223372036854775807 then (some ((⟨#[46]⟩ : ByteArray) ++ a0_2)) else (none)) else (if a0_0 = 8 then (if 1 + a0_2.size ≤ 9223372036854775807 then (some ((⟨#[42]⟩ : ByteArray) ++ a0_2)) else (none)) else ((spec_DataType.f k a0_0 a0_1 a0_2 a0_3).bind fun t136 => (if t136.size + 1 ≤ 9223372036854775807 then ((spec_l06Digits.f k a0_3).bind fun t137 => (if t136.size + 1 + t137.size ≤ 9223372036854775807 then (some ((t136 ++ (⟨#[35]⟩ : ByteArray)) ++ t137)) else (none))) else (none)))))))) else (some (⟨#[]⟩ : ByteArray)))) = some r := h
 clear h
 obtain ⟨t133, A2, H⟩ := sO H
 by_cases c3 : t133 = true
 ·subst c3
  rewrite [if_pos rfl] at H
  by_cases c4 : a0_0 = 1
  ·rw [if_pos c4] at H
   have c4b0 : (a0_0 == 1) = true := beq_iff_eq.mpr c4
   have c4b1 : (a0_0 != 1) = false := bne_eq_false_iff_eq.mpr c4
   clear c4
   obtain ⟨t134, A5, H⟩ := sO H
   obtain rfl := Option.some.inj H
   go_enter Tryd.func29, Tryd.ntmps29
   go_wp2_with (first | ((with_reducible refine gate_dst (N := 1) rfl ?_); refine sV (N := 1) (cs := #[.int .i64 a0_0, .int .i64 a0_1, .string a0_2, .int .i64 a0_3]) (t := 54) ?_; intro gb132 hg w6 hbox hb; have n0_ := sB HB hb; have n1_ := Aside0.mk (hbox); have n2_ := sG HB hg; have n3_ := sG HB hg; clear HB; have HB := n0_; have BK132 := n1_; have GW132 := n2_; have GE132 := n3_; clear n0_ n1_ n2_ n3_; clear hb hbox hg; obtain ⟨hcz7_0, hcz7_1, hcz7_2, hcz7_3, hfz7_0, hfz7_1, hfz7_2, hfz7_3⟩ := cells4 BK132.out) | ((with_reducible refine gate_callee (f := 62) rfl ?_); refine sC (some 4) Tryd.func62 #[.agg #[.int .i64 a0_0, .int .i64 a0_1, .string a0_2, .int .i64 a0_3]] (spec_ValidValue.calls k a0_0 a0_1 a0_2 a0_3 true _ A2.out) ?_; rintro e w8 ⟨rfl, hb⟩; refine ⟨_, rfl, ?_⟩; have n0_ := sK BK132 hb; have n1_ := sB HB hb; clear BK132; clear HB; have BK132 := n0_; have HB := n1_; clear n0_ n1_; (try clear hb); (try clear hb2); (try clear hk); (try clear hi); obtain ⟨hcz9_0, hcz9_1, hcz9_2, hcz9_3, hfz9_0, hfz9_1, hfz9_2, hfz9_3⟩ := cells4 BK132.out) | ((with_reducible refine gate_callee (f := 63) rfl ?_); refine sC (some 12) Tryd.func63 #[.string a0_2] (spec_QuoteText.calls k a0_2 t134 _ A5.out) ?_; rintro e w' ⟨rfl, ⟨nd, rfl⟩⟩; refine ⟨_, rfl, ?_⟩))
   go_ret
   exact ⟨sq, sb⟩
  rw [if_neg c4] at H
  have c4b0 : (a0_0 == 1) = false := beq_eq_false_iff_ne.mpr c4
  have c4b1 : (a0_0 != 1) = true := bne_iff_ne.mpr c4
  by_cases c10 : a0_0 = 2
  ·rw [if_pos c10] at H
   have c10b0 : (a0_0 == 2) = true := beq_iff_eq.mpr c10
   have c10b1 : (a0_0 != 2) = false := bne_eq_false_iff_eq.mpr c10
   clear c10
   obtain ⟨t135, A11, H⟩ := sO H
   obtain rfl := Option.some.inj H
   go_enter Tryd.func29, Tryd.ntmps29
   go_wp2_with (first | ((with_reducible refine gate_dst (N := 1) rfl ?_); refine sV (N := 1) (cs := #[.int .i64 a0_0, .int .i64 a0_1, .string a0_2, .int .i64 a0_3]) (t := 54) ?_; intro gb132 hg w12 hbox hb; have n0_ := sB HB hb; have n1_ := Aside0.mk (hbox); have n2_ := sG HB hg; have n3_ := sG HB hg; clear HB; have HB := n0_; have BK132 := n1_; have GW132 := n2_; have GE132 := n3_; clear n0_ n1_ n2_ n3_; clear hb hbox hg; obtain ⟨hcz13_0, hcz13_1, hcz13_2, hcz13_3, hfz13_0, hfz13_1, hfz13_2, hfz13_3⟩ := cells4 BK132.out) | ((with_reducible refine gate_callee (f := 62) rfl ?_); refine sC (some 4) Tryd.func62 #[.agg #[.int .i64 a0_0, .int .i64 a0_1, .string a0_2, .int .i64 a0_3]] (spec_ValidValue.calls k a0_0 a0_1 a0_2 a0_3 true _ A2.out) ?_; rintro e w14 ⟨rfl, hb⟩; refine ⟨_, rfl, ?_⟩; have n0_ := sK BK132 hb; have n1_ := sB HB hb; clear BK132; clear HB; have BK132 := n0_; have HB := n1_; clear n0_ n1_; (try clear hb); (try clear hb2); (try clear hk); (try clear hi); obtain ⟨hcz15_0, hcz15_1, hcz15_2, hcz15_3, hfz15_0, hfz15_1, hfz15_2, hfz15_3⟩ := cells4 BK132.out) | ((with_reducible refine gate_callee (f := 64) rfl ?_); refine sC (some 17) Tryd.func64 #[.int .i64 a0_1] (spec_l06Digits.calls k a0_1 t135 _ A11.out) ?_; rintro e w16 ⟨rfl, hb⟩; refine ⟨_, rfl, ?_⟩; have n0_ := sK BK132 hb; have n1_ := sB HB hb; clear BK132; clear HB; have BK132 := n0_; have HB := n1_; clear n0_ n1_; (try clear hb); (try clear hb2); (try clear hk); (try clear hi)))
   go_ret
   exact ⟨sq, sb⟩
  rw [if_neg c10] at H
  have c10b0 : (a0_0 == 2) = false := beq_eq_false_iff_ne.mpr c10
  have c10b1 : (a0_0 != 2) = true := bne_iff_ne.mpr c10
  by_cases c17 : a0_0 = 3
  ·rw [if_pos c17] at H
   have c17b0 : (a0_0 == 3) = true := beq_iff_eq.mpr c17
   have c17b1 : (a0_0 != 3) = false := bne_eq_false_iff_eq.mpr c17
   clear c17
   by_cases c18 : 1 + a0_2.size ≤ 9223372036854775807
   ·rw [if_pos c18] at H
    have c18b0 := eq_true c18
    have c18b1 := decide_eq_true c18
    try have c18b2 : (9223372036854775807 < 1 + a0_2.size) = False := eq_false (Nat.not_lt.2 c18)
    by_cases c19 : 1 + a0_2.size + 1 ≤ 9223372036854775807
    ·rw [if_pos c19] at H
     have c19b0 := eq_true c19
     have c19b1 := decide_eq_true c19
     try have c19b2 : (9223372036854775807 < 1 + a0_2.size + 1) = False := eq_false (Nat.not_lt.2 c19)
     obtain rfl := Option.some.inj H
     go_enter Tryd.func29, Tryd.ntmps29
     go_wp2_with (first | ((with_reducible refine gate_dst (N := 1) rfl ?_); refine sV (N := 1) (cs := #[.int .i64 a0_0, .int .i64 a0_1, .string a0_2, .int .i64 a0_3]) (t := 54) ?_; intro gb132 hg w20 hbox hb; have n0_ := sB HB hb; have n1_ := Aside0.mk (hbox); have n2_ := sG HB hg; have n3_ := sG HB hg; clear HB; have HB := n0_; have BK132 := n1_; have GW132 := n2_; have GE132 := n3_; clear n0_ n1_ n2_ n3_; clear hb hbox hg; obtain ⟨hcz21_0, hcz21_1, hcz21_2, hcz21_3, hfz21_0, hfz21_1, hfz21_2, hfz21_3⟩ := cells4 BK132.out) | ((with_reducible refine gate_callee (f := 62) rfl ?_); refine sC (some 4) Tryd.func62 #[.agg #[.int .i64 a0_0, .int .i64 a0_1, .string a0_2, .int .i64 a0_3]] (spec_ValidValue.calls k a0_0 a0_1 a0_2 a0_3 true _ A2.out) ?_; rintro e w22 ⟨rfl, hb⟩; refine ⟨_, rfl, ?_⟩; have n0_ := sK BK132 hb; have n1_ := sB HB hb; clear BK132; clear HB; have BK132 := n0_; have HB := n1_; clear n0_ n1_; (try clear hb); (try clear hb2); (try clear hk); (try clear hi); obtain ⟨hcz23_0, hcz23_1, hcz23_2, hcz23_3, hfz23_0, hfz23_1, hfz23_2, hfz23_3⟩ := cells4 BK132.out))
     go_ret
     exact ⟨sq, sb⟩
    rw [if_neg c19] at H
    exact absurd H (by simp)
   rw [if_neg c18] at H
   exact absurd H (by simp)
  rw [if_neg c17] at H
  have c17b0 : (a0_0 == 3) = false := beq_eq_false_iff_ne.mpr c17
  have c17b1 : (a0_0 != 3) = true := bne_iff_ne.mpr c17
  by_cases c24 : a0_0 = 7
  ·rw [if_pos c24] at H
   have c24b0 : (a0_0 == 7) = true := beq_iff_eq.mpr c24
   have c24b1 : (a0_0 != 7) = false := bne_eq_false_iff_eq.mpr c24
   clear c24
   by_cases c25 : 1 + a0_2.size ≤ 9223372036854775807
   ·rw [if_pos c25] at H
    have c25b0 := eq_true c25
    have c25b1 := decide_eq_true c25
    try have c25b2 : (9223372036854775807 < 1 + a0_2.size) = False := eq_false (Nat.not_lt.2 c25)
    obtain rfl := Option.some.inj H
    go_enter Tryd.func29, Tryd.ntmps29
    go_wp2_with (first | ((with_reducible refine gate_dst (N := 1) rfl ?_); refine sV (N := 1) (cs := #[.int .i64 a0_0, .int .i64 a0_1, .string a0_2, .int .i64 a0_3]) (t := 54) ?_; intro gb132 hg w26 hbox hb; have n0_ := sB HB hb; have n1_ := Aside0.mk (hbox); have n2_ := sG HB hg; have n3_ := sG HB hg; clear HB; have HB := n0_; have BK132 := n1_; have GW132 := n2_; have GE132 := n3_; clear n0_ n1_ n2_ n3_; clear hb hbox hg; obtain ⟨hcz27_0, hcz27_1, hcz27_2, hcz27_3, hfz27_0, hfz27_1, hfz27_2, hfz27_3⟩ := cells4 BK132.out) | ((with_reducible refine gate_callee (f := 62) rfl ?_); refine sC (some 4) Tryd.func62 #[.agg #[.int .i64 a0_0, .int .i64 a0_1, .string a0_2, .int .i64 a0_3]] (spec_ValidValue.calls k a0_0 a0_1 a0_2 a0_3 true _ A2.out) ?_; rintro e w28 ⟨rfl, hb⟩; refine ⟨_, rfl, ?_⟩; have n0_ := sK BK132 hb; have n1_ := sB HB hb; clear BK132; clear HB; have BK132 := n0_; have HB := n1_; clear n0_ n1_; (try clear hb); (try clear hb2); (try clear hk); (try clear hi); obtain ⟨hcz29_0, hcz29_1, hcz29_2, hcz29_3, hfz29_0, hfz29_1, hfz29_2, hfz29_3⟩ := cells4 BK132.out))
    go_ret
    exact ⟨sq, sb⟩
   rw [if_neg c25] at H
   exact absurd H (by simp)
  rw [if_neg c24] at H
  have c24b0 : (a0_0 == 7) = false := beq_eq_false_iff_ne.mpr c24
  have c24b1 : (a0_0 != 7) = true := bne_iff_ne.mpr c24
  by_cases c30 : a0_0 = 8
  ·rw [if_pos c30] at H
   have c30b0 : (a0_0 == 8) = true := beq_iff_eq.mpr c30
   have c30b1 : (a0_0 != 8) = false := bne_eq_false_iff_eq.mpr c30
   clear c30
   by_cases c31 : 1 + a0_2.size ≤ 9223372036854775807
   ·rw [if_pos c31] at H
    have c31b0 := eq_true c31
    have c31b1 := decide_eq_true c31
    try have c31b2 : (9223372036854775807 < 1 + a0_2.size) = False := eq_false (Nat.not_lt.2 c31)
    obtain rfl := Option.some.inj H
    go_enter Tryd.func29, Tryd.ntmps29
    go_wp2_with (first | ((with_reducible refine gate_dst (N := 1) rfl ?_); refine sV (N := 1) (cs := #[.int .i64 a0_0, .int .i64 a0_1, .string a0_2, .int .i64 a0_3]) (t := 54) ?_; intro gb132 hg w32 hbox hb; have n0_ := sB HB hb; have n1_ := Aside0.mk (hbox); have n2_ := sG HB hg; have n3_ := sG HB hg; clear HB; have HB := n0_; have BK132 := n1_; have GW132 := n2_; have GE132 := n3_; clear n0_ n1_ n2_ n3_; clear hb hbox hg; obtain ⟨hcz33_0, hcz33_1, hcz33_2, hcz33_3, hfz33_0, hfz33_1, hfz33_2, hfz33_3⟩ := cells4 BK132.out) | ((with_reducible refine gate_callee (f := 62) rfl ?_); refine sC (some 4) Tryd.func62 #[.agg #[.int .i64 a0_0, .int .i64 a0_1, .string a0_2, .int .i64 a0_3]] (spec_ValidValue.calls k a0_0 a0_1 a0_2 a0_3 true _ A2.out) ?_; rintro e w34 ⟨rfl, hb⟩; refine ⟨_, rfl, ?_⟩; have n0_ := sK BK132 hb; have n1_ := sB HB hb; clear BK132; clear HB; have BK132 := n0_; have HB := n1_; clear n0_ n1_; (try clear hb); (try clear hb2); (try clear hk); (try clear hi); obtain ⟨hcz35_0, hcz35_1, hcz35_2, hcz35_3, hfz35_0, hfz35_1, hfz35_2, hfz35_3⟩ := cells4 BK132.out))
    go_ret
    exact ⟨sq, sb⟩
   rw [if_neg c31] at H
   exact absurd H (by simp)
  rw [if_neg c30] at H
  have c30b0 : (a0_0 == 8) = false := beq_eq_false_iff_ne.mpr c30
  have c30b1 : (a0_0 != 8) = true := bne_iff_ne.mpr c30
  obtain ⟨t136, A36, H⟩ := sO H
  by_cases c37 : t136.size + 1 ≤ 9223372036854775807
  ·rw [if_pos c37] at H
   have c37b0 := eq_true c37
   have c37b1 := decide_eq_true c37
   try have c37b2 : (9223372036854775807 < t136.size + 1) = False := eq_false (Nat.not_lt.2 c37)
   obtain ⟨t137, A38, H⟩ := sO H
   by_cases c39 : t136.size + 1 + t137.size ≤ 9223372036854775807
   ·rw [if_pos c39] at H
    have c39b0 := eq_true c39
    have c39b1 := decide_eq_true c39
    try have c39b2 : (9223372036854775807 < t136.size + 1 + t137.size) = False := eq_false (Nat.not_lt.2 c39)
    obtain rfl := Option.some.inj H
    go_enter Tryd.func29, Tryd.ntmps29
    try go_wp2_with (first | ((with_reducible refine gate_dst (N := 1) rfl ?_); refine sV (N := 1) (cs := #[.int .i64 a0_0, .int .i64 a0_1, .string a0_2, .int .i64 a0_3]) (t := 54) ?_; intro gb132 hg w40 hbox hb; have n0_ := sB HB hb; have n1_ := Aside0.mk (hbox); have n2_ := sG HB hg; have n3_ := sG HB hg; clear HB; have HB := n0_; have BK132 := n1_; have GW132 := n2_; have GE132 := n3_; clear n0_ n1_ n2_ n3_; clear hb hbox hg; obtain ⟨hcz41_0, hcz41_1, hcz41_2, hcz41_3, hfz41_0, hfz41_1, hfz41_2, hfz41_3⟩ := cells4 BK132.out) | ((with_reducible refine gate_callee (f := 62) rfl ?_); refine sC (some 4) Tryd.func62 #[.agg #[.int .i64 a0_0, .int .i64 a0_1, .string a0_2, .int .i64 a0_3]] (spec_ValidValue.calls k a0_0 a0_1 a0_2 a0_3 true _ A2.out) ?_; rintro e w42 ⟨rfl, hb⟩; refine ⟨_, rfl, ?_⟩; have n0_ := sK BK132 hb; have n1_ := sB HB hb; clear BK132; clear HB; have BK132 := n0_; have HB := n1_; clear n0_ n1_; (try clear hb); (try clear hb2); (try clear hk); (try clear hi); obtain ⟨hcz43_0, hcz43_1, hcz43_2, hcz43_3, hfz43_0, hfz43_1, hfz43_2, hfz43_3⟩ := cells4 BK132.out))
    have n0_ := Aside0.mk (blk_drew BK132.out)
    have n1_ := Aside0.mk (below_drew1 HB.out)
    clear BK132
    clear HB
    have BK132 := n0_
    have HB := n1_
    clear n0_ n1_
    refine start_ (n := 8) (S := fun w' => w'.cell? ⟨gb132, 0, none⟩ = some (.int .i64 a0_0) ∧ w'.cell? ⟨gb132, 1, none⟩ = some (.int .i64 a0_1) ∧ w'.cell? ⟨gb132, 2, none⟩ = some (.string a0_2) ∧ w'.cell? ⟨gb132, 3, none⟩ = some (.int .i64 a0_3)) (ds := []) #[false, false, false, false, false, false, false, false] (by kernel_rfl) rfl rfl ⟨(blk_cell BK132.out 0).trans rfl, (blk_cell BK132.out 1).trans rfl, (blk_cell BK132.out 2).trans rfl, (blk_cell BK132.out 3).trans rfl⟩ (fun hHeld => ?_); refine with_tabW spec_ValueText.tab14 spec_ValueText.bits14 (fun HT_ HW_ => ?_)
    generalize w42.drew = w44 at BK132 HB hHeld ⊢
    refine pure_ (i := 3) (N := some 37) (v := ?_) (a' := ?_) (bN 8 8) rfl rfl (any_of HT_.out (by kernel_rfl)) (fun _ _ _ h => h) (Or.inl ⟨by rfl, ?_⟩) ?_ ?_
    rotate_left
    ·intro w'
     go_simp
     with_reducible rfl
    rotate_left
    ·simp only [Act.put, List.setIfInBounds_toArray, List.set_cons_zero, List.set_cons_succ, i64_w, i32_w]
     rfl
    refine take_ (i := 0) (N := some 34) (v := ?_) (a' := ?_) (bN 8 9) rfl rfl (take_ofW HT_.out HW_.out (by kernel_rfl)) (fun _ _ _ h => h) (Or.inl ⟨by rfl, ?_⟩) hHeld ?_ ?_
    rotate_left
    ·rintro w' ⟨s0, s1, s2, s3⟩
     go_simp
     with_reducible rfl
    rotate_left
    ·simp only [Act.put, List.setIfInBounds_toArray, List.set_cons_zero, List.set_cons_succ, i64_w, i32_w]
     rfl
    refine take_ (i := 4) (N := some 38) (v := ?_) (a' := ?_) (bN 8 25) rfl rfl (take_ofW HT_.out HW_.out (by kernel_rfl)) (fun _ _ _ h => h) (Or.inl ⟨by rfl, ?_⟩) hHeld ?_ ?_
    rotate_left
    ·rintro w' ⟨s0, s1, s2, s3⟩
     go_simp
     with_reducible rfl
    rotate_left
    ·simp only [Act.put, List.setIfInBounds_toArray, List.set_cons_zero, List.set_cons_succ, i64_w, i32_w]
     rfl
    refine one_ (i := 1) (N := some 35) (bN 8 27) rfl rfl (one_of HT_.out (by kernel_rfl)) (by decide) (fun K hK => ?_)
    refine goes_ Tryd.func65 (by kernel_rfl) rfl #[.agg #[.int .i64 a0_0, .int .i64 a0_1, .string a0_2, .int .i64 a0_3]] (by rfl) rfl rfl (by (try simp only [List.map_toArray, List.map_cons, List.map_nil]); first | done | rfl | (simp only [List.length_drop, List.length_take]; rfl)) ?_
    with_reducible refine (spec_DataType.calls k a0_0 a0_1 a0_2 a0_3 t136 _ A36.out).mono ?_
    rintro e w45 ⟨rfl, hb⟩
    refine ⟨_, rfl, ?_⟩
    have n0_ := sK BK132 hb
    have n1_ := sB HB hb
    clear BK132
    clear HB
    have BK132 := n0_
    have HB := n1_
    clear n0_ n1_
    (try clear hb)
    (try clear hb2)
    (try clear hk)
    (try clear hi)
    refine hK.out _ _ ⟨(blk_cell BK132.out 0).trans rfl, (blk_cell BK132.out 1).trans rfl, (blk_cell BK132.out 2).trans rfl, (blk_cell BK132.out 3).trans rfl⟩ (fun hHeld => ?_)
    clear hK K
    refine norm_ (a' := ?_) ?_ ?_
    rotate_left
    ·show Act.put _ (some 35) _ = _
     simp only [Act.put, List.setIfInBounds_toArray, List.set_cons_zero, List.set_cons_succ, i64_w, i32_w]
     rfl
    refine pure_ (i := 2) (N := some 36) (v := ?_) (a' := ?_) (bN 8 31) rfl rfl (any_of HT_.out (by kernel_rfl)) (fun _ _ _ h => h) (Or.inl ⟨by rfl, ?_⟩) ?_ ?_
    rotate_left
    ·intro w'
     go_simp
     with_reducible rfl
    rotate_left
    ·simp only [Act.put, List.setIfInBounds_toArray, List.set_cons_zero, List.set_cons_succ, i64_w, i32_w]
     rfl
    refine one_ (i := 5) (N := some 39) (bN 8 63) rfl rfl (one_of HT_.out (by kernel_rfl)) (by decide) (fun K hK => ?_)
    refine goes_ Tryd.func64 (by kernel_rfl) rfl #[.int .i64 a0_3] (by rfl) rfl rfl (by (try simp only [List.map_toArray, List.map_cons, List.map_nil]); first | done | rfl | (simp only [List.length_drop, List.length_take]; rfl)) ?_
    with_reducible refine (spec_l06Digits.calls k a0_3 t137 _ A38.out).mono ?_
    rintro e w46 ⟨rfl, hb⟩
    refine ⟨_, rfl, ?_⟩
    have n0_ := sK BK132 hb
    have n1_ := sB HB hb
    clear BK132
    clear HB
    have BK132 := n0_
    have HB := n1_
    clear n0_ n1_
    (try clear hb)
    (try clear hb2)
    (try clear hk)
    (try clear hi)
    refine hK.out _ _ ⟨(blk_cell BK132.out 0).trans rfl, (blk_cell BK132.out 1).trans rfl, (blk_cell BK132.out 2).trans rfl, (blk_cell BK132.out 3).trans rfl⟩ (fun hHeld => ?_)
    clear hK K
    refine norm_ (a' := ?_) ?_ ?_
    rotate_left
    ·show Act.put _ (some 39) _ = _
     simp only [Act.put, List.setIfInBounds_toArray, List.set_cons_zero, List.set_cons_succ, i64_w, i32_w]
     rfl
    refine pure_ (i := 6) (N := some 40) (v := ?_) (a' := ?_) (bN 8 127) rfl rfl (any_of HT_.out (by kernel_rfl)) (fun _ _ _ h => h) (Or.inl ⟨by rfl, ?_⟩) ?_ ?_
    rotate_left
    ·intro w'
     go_simp
     with_reducible rfl
    rotate_left
    ·simp only [Act.put, List.setIfInBounds_toArray, List.set_cons_zero, List.set_cons_succ, i64_w, i32_w]
     rfl
    refine pure_ (i := 7) (N := some 2) (v := ?_) (a' := ?_) (bN 8 255) rfl rfl (any_of HT_.out (by kernel_rfl)) (fun _ _ _ h => h) (Or.inl ⟨by rfl, ?_⟩) ?_ ?_
    rotate_left
    ·intro w'
     go_simp
     with_reducible rfl
    rotate_left
    ·simp only [Act.put, List.setIfInBounds_toArray, List.set_cons_zero, List.set_cons_succ, i64_w, i32_w]
     rfl
    refine done_ (done_of HT_.out (by kernel_rfl)) ?_
    try go_wp2
    go_ret
    exact ⟨sq, sb⟩
   rw [if_neg c39] at H
   exact absurd H (by simp)
  rw [if_neg c37] at H
  exact absurd H (by simp)
 replace c3 := Bool.eq_false_iff.mpr c3
 subst c3
 rewrite [if_neg (show ¬ (false = true) by decide)] at H
 obtain rfl := Option.some.inj H
 go_enter Tryd.func29, Tryd.ntmps29
 go_wp2_with (first | ((with_reducible refine gate_dst (N := 1) rfl ?_); refine sV (N := 1) (cs := #[.int .i64 a0_0, .int .i64 a0_1, .string a0_2, .int .i64 a0_3]) (t := 54) ?_; intro gb132 hg w47 hbox hb; have n0_ := sB HB hb; have n1_ := Aside0.mk (hbox); have n2_ := sG HB hg; have n3_ := sG HB hg; clear HB; have HB := n0_; have BK132 := n1_; have GW132 := n2_; have GE132 := n3_; clear n0_ n1_ n2_ n3_; clear hb hbox hg; obtain ⟨hcz48_0, hcz48_1, hcz48_2, hcz48_3, hfz48_0, hfz48_1, hfz48_2, hfz48_3⟩ := cells4 BK132.out) | ((with_reducible refine gate_callee (f := 62) rfl ?_); refine sC (some 4) Tryd.func62 #[.agg #[.int .i64 a0_0, .int .i64 a0_1, .string a0_2, .int .i64 a0_3]] (spec_ValidValue.calls k a0_0 a0_1 a0_2 a0_3 false _ A2.out) ?_; rintro e w49 ⟨rfl, hb⟩; refine ⟨_, rfl, ?_⟩; have n0_ := sK BK132 hb; have n1_ := sB HB hb; clear BK132; clear HB; have BK132 := n0_; have HB := n1_; clear n0_ n1_; (try clear hb); (try clear hb2); (try clear hk); (try clear hi)))
 go_ret
 exact ⟨sq, sb⟩

/-! ### laws_FnExactValueText: function 7 -/
def laws_FnExactValueText.f (k : Nat) (a0_0 : Int) (a0_1 : Int) (a0_2 : ByteArray) (a0_3 : Int) : Option (Bool) := (laws_szValue.f a0_0 a0_1 a0_2 a0_3 1048576).bind fun t186 => (if t186 < 0 then (some true) else ((laws_toValue.f a0_0 a0_1 a0_2 a0_3).bind fun bt187 => ((spec_ValueText.f k bt187.1 bt187.2.1 bt187.2.2.1 bt187.2.2.2).bind fun t191 => ((laws_toValue.f a0_0 a0_1 a0_2 a0_3).bind fun bt192 => ((impl_ValueText.f k bt192.1 bt192.2.1 bt192.2.2.1 bt192.2.2.2).bind fun t196 => (if t196.toList = t191.toList then (some true) else (some false)))))))
set_option maxHeartbeats 8000000 in
set_option maxRecDepth 100000 in
theorem laws_FnExactValueText.calls (k : Nat) (a0_0 : Int) (a0_1 : Int) (a0_2 : ByteArray) (a0_3 : Int) (w : World) (h : laws_FnExactValueText.f k a0_0 a0_1 a0_2 a0_3 = some true) (HT : EnvT w) :
  Calls Tryd.prog 7 #[.agg #[.int .i64 a0_0, .int .i64 a0_1, .string a0_2, .int .i64 a0_3]] w fun e w' => e = .returned (.bool true) ∧ Below w.heap.size w w' := by
 have hu51 := Tryd.underlying51
 have HB := Aside0.mk (Below.refl w.heap.size w)
 have H : ((laws_szValue.f a0_0 a0_1 a0_2 a0_3 1048576).bind fun t186 => (if t186 < 0 then (some true) else ((laws_toValue.f a0_0 a0_1 a0_2 a0_3).bind fun bt187 => ((spec_ValueText.f k bt187.1 bt187.2.1 bt187.2.2.1 bt187.2.2.2).bind fun t191 => ((laws_toValue.f a0_0 a0_1 a0_2 a0_3).bind fun bt192 => ((impl_ValueText.f k bt192.1 bt192.2.1 bt192.2.2.1 bt192.2.2.2).bind fun t196 => (if t196.toList = t191.toList then (some true) else (some false)))))))) = some true := h
 clear h
 obtain ⟨t186, A2, H⟩ := sO H
 by_cases c3 : t186 < 0
 ·rw [if_pos c3] at H
  have c3b0 := decide_eq_true c3
  clear c3
  clear H
  go_enter Tryd.func7, Tryd.ntmps7
  go_wp2_with (first | ((with_reducible refine gate_dst (N := 1) rfl ?_); refine sV (N := 1) (cs := #[.int .i64 a0_0, .int .i64 a0_1, .string a0_2, .int .i64 a0_3]) (t := 51) ?_; intro gb185 hg w4 hbox hb; have n0_ := sB HB hb; have n1_ := Aside0.mk (hbox); have n2_ := sG HB hg; have n3_ := sG HB hg; clear HB; have HB := n0_; have BK185 := n1_; have GW185 := n2_; have GE185 := n3_; clear n0_ n1_ n2_ n3_; clear hb hbox hg; obtain ⟨hcz5_0, hcz5_1, hcz5_2, hcz5_3, hfz5_0, hfz5_1, hfz5_2, hfz5_3⟩ := cells4 BK185.out) | ((with_reducible refine gate_callee (f := 28) rfl ?_); refine sC (some 8) Tryd.func28 #[.agg #[.int .i64 a0_0, .int .i64 a0_1, .string a0_2, .int .i64 a0_3], .int .i64 1048576] (laws_szValue.calls a0_0 a0_1 a0_2 a0_3 1048576 t186 _ A2.out) ?_; rintro e w6 ⟨rfl, hb⟩; refine ⟨_, rfl, ?_⟩; have n0_ := sK BK185 hb; have n1_ := sB HB hb; clear BK185; clear HB; have BK185 := n0_; have HB := n1_; clear n0_ n1_; (try clear hb); (try clear hb2); (try clear hk); (try clear hi)))
  go_ret
  exact ⟨sq, sb⟩
 rw [if_neg c3] at H
 have c3b0 := decide_eq_false c3
 clear c3
 replace H := Option.bind_eq_some_iff.mp H
 obtain ⟨⟨t187, t188, t189, t190⟩, A70, H⟩ := H
 replace H : ((spec_ValueText.f k t187 t188 t189 t190).bind fun t191 => ((laws_toValue.f a0_0 a0_1 a0_2 a0_3).bind fun bt192 => ((impl_ValueText.f k bt192.1 bt192.2.1 bt192.2.2.1 bt192.2.2.2).bind fun t196 => (if t196.toList = t191.toList then (some true) else (some false))))) = some true := H
 have A7 := Aside0.mk A70
 clear A70
 obtain ⟨t191, A8, H⟩ := sO H
 replace H := Option.bind_eq_some_iff.mp H
 obtain ⟨⟨t192, t193, t194, t195⟩, A90, H⟩ := H
 replace H : ((impl_ValueText.f k t192 t193 t194 t195).bind fun t196 => (if t196.toList = t191.toList then (some true) else (some false))) = some true := H
 have A9 := Aside0.mk A90
 clear A90
 obtain ⟨t196, A10, H⟩ := sO H
 by_cases c11 : t196.toList = t191.toList
 ·rw [if_pos c11] at H
  have c11b0 : (t196.toList == t191.toList) = true := beq_iff_eq.mpr c11
  have c11b1 : (t196.toList != t191.toList) = false := bne_eq_false_iff_eq.mpr c11
  clear c11
  clear H
  go_enter Tryd.func7, Tryd.ntmps7
  go_wp2_with (first | ((with_reducible refine gate_dst (N := 1) rfl ?_); refine sV (N := 1) (cs := #[.int .i64 a0_0, .int .i64 a0_1, .string a0_2, .int .i64 a0_3]) (t := 51) ?_; intro gb185 hg w12 hbox hb; have n0_ := sB HB hb; have n1_ := Aside0.mk (hbox); have n2_ := sG HB hg; have n3_ := sG HB hg; clear HB; have HB := n0_; have BK185 := n1_; have GW185 := n2_; have GE185 := n3_; clear n0_ n1_ n2_ n3_; clear hb hbox hg; obtain ⟨hcz13_0, hcz13_1, hcz13_2, hcz13_3, hfz13_0, hfz13_1, hfz13_2, hfz13_3⟩ := cells4 BK185.out) | ((with_reducible refine gate_callee (f := 28) rfl ?_); refine sC (some 8) Tryd.func28 #[.agg #[.int .i64 a0_0, .int .i64 a0_1, .string a0_2, .int .i64 a0_3], .int .i64 1048576] (laws_szValue.calls a0_0 a0_1 a0_2 a0_3 1048576 t186 _ A2.out) ?_; rintro e w14 ⟨rfl, hb⟩; refine ⟨_, rfl, ?_⟩; have n0_ := sK BK185 hb; have n1_ := sB HB hb; clear BK185; clear HB; have BK185 := n0_; have HB := n1_; clear n0_ n1_; (try clear hb); (try clear hb2); (try clear hk); (try clear hi); obtain ⟨hcz15_0, hcz15_1, hcz15_2, hcz15_3, hfz15_0, hfz15_1, hfz15_2, hfz15_3⟩ := cells4 BK185.out) | ((with_reducible refine gate_callee (f := 30) rfl ?_); refine sC (some 12) Tryd.func30 #[.agg #[.int .i64 a0_0, .int .i64 a0_1, .string a0_2, .int .i64 a0_3]] (laws_toValue.calls a0_0 a0_1 a0_2 a0_3 t187 t188 t189 t190 _ A7.out) ?_; rintro e w16 ⟨rfl, hb⟩; refine ⟨_, rfl, ?_⟩; have n0_ := sK BK185 hb; have n1_ := sB HB hb; clear BK185; clear HB; have BK185 := n0_; have HB := n1_; clear n0_ n1_; (try clear hb); (try clear hb2); (try clear hk); (try clear hi)) | ((with_reducible refine gate_callee (f := 29) rfl ?_); refine sC (some 13) Tryd.func29 #[.agg #[.int .i64 t187, .int .i64 t188, .string t189, .int .i64 t190]] (spec_ValueText.calls k t187 t188 t189 t190 t191 _ A8.out) ?_; rintro e w17 ⟨rfl, hb⟩; refine ⟨_, rfl, ?_⟩; have n0_ := sK BK185 hb; have n1_ := sB HB hb; clear BK185; clear HB; have BK185 := n0_; have HB := n1_; clear n0_ n1_; (try clear hb); (try clear hb2); (try clear hk); (try clear hi); obtain ⟨hcz18_0, hcz18_1, hcz18_2, hcz18_3, hfz18_0, hfz18_1, hfz18_2, hfz18_3⟩ := cells4 BK185.out) | ((with_reducible refine gate_callee (f := 30) rfl ?_); refine sC (some 15) Tryd.func30 #[.agg #[.int .i64 a0_0, .int .i64 a0_1, .string a0_2, .int .i64 a0_3]] (laws_toValue.calls a0_0 a0_1 a0_2 a0_3 t192 t193 t194 t195 _ A9.out) ?_; rintro e w19 ⟨rfl, hb⟩; refine ⟨_, rfl, ?_⟩; have n0_ := sK BK185 hb; have n1_ := sB HB hb; clear BK185; clear HB; have BK185 := n0_; have HB := n1_; clear n0_ n1_; (try clear hb); (try clear hb2); (try clear hk); (try clear hi)) | ((with_reducible refine gate_callee (f := 31) rfl ?_); refine sC (some 16) Tryd.func31 #[.agg #[.int .i64 t192, .int .i64 t193, .string t194, .int .i64 t195]] (impl_ValueText.calls k t192 t193 t194 t195 t196 _ A10.out (by first | with_reducible exact HT | exact EnvT.below HT sb)) ?_; rintro e w20 ⟨rfl, hb⟩; refine ⟨_, rfl, ?_⟩; have n0_ := sK BK185 hb; have n1_ := sB HB hb; clear BK185; clear HB; have BK185 := n0_; have HB := n1_; clear n0_ n1_; (try clear hb); (try clear hb2); (try clear hk); (try clear hi)))
  go_ret
  exact ⟨sq, sb⟩
 rw [if_neg c11] at H
 have c11b0 : (t196.toList == t191.toList) = false := beq_eq_false_iff_ne.mpr c11
 have c11b1 : (t196.toList != t191.toList) = true := bne_iff_ne.mpr c11
 exact absurd H (by simp)
end Go.Proofs.YtpbjagjknaglgaaDoor.PFnExactValueText
