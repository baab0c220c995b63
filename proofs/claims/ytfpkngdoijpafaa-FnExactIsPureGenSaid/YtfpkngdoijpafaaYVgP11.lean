/- Printed functions: impl_ValidValue, impl_isData. -/
import Derived.Test.YtfpkngdoijpafaaYVgP0
import Derived.Test.YtfpkngdoijpafaaYVgPE
import Derived.Test.YtfpkngdoijpafaaYVgP6
import Derived.Test.YtfpkngdoijpafaaYVgP10
namespace Go.Proofs.Ytfpkngdoijpafaa.PFnExactValidGen
open Go.RowKit Go.Proofs.YtfpkngdoijpafaaG Go.Proofs.YtfpkngdoijpafaaW.PrintWords Go.Proofs.YtfpkngdoijpafaaW.PrintLast Go.Proofs.YtfpkngdoijpafaaW.PrintMore
attribute [local go_sem] max2_int min2_int max_two min_two max_three min_three max_four min_four   -- for this text's walks alone
set_option linter.unusedVariables false
set_option linter.unusedSimpArgs false
section
attribute [local go_sem high] eqA29
/-! ### impl_ValidValue: function 119 -/
def impl_ValidValue.j0 : Nat → Int → Bool → Int → Int → ByteArray → Int → Option (Bool)
 | 0, _, _, _, _, _, _ => none
 | k + 1, x4, x49, x204000, x204001, x204002, x204003 => if x49 = true then (if (x204001 == 0 && (x204002.toList.isEmpty)) = true then ((impl_isObjectId.f x204003).bind fun t205 => (some t205)) else (some false)) else (if x4 = 7 then (if (x204001 == 0 && (x204003 == 0)) = true then ((impl_IsName.f k x204002).bind fun t206 => (some t206)) else (some false)) else (if x4 = 8 then (if (x204001 == 0 && (x204003 == 0)) = true then ((impl_IsName.f k x204002).bind fun t207 => (some t207)) else (some false)) else (some false)))
def impl_ValidValue.f (k : Nat) (a0_0 : Int) (a0_1 : Int) (a0_2 : ByteArray) (a0_3 : Int) : Option (Bool) := if a0_0 = 1 then (if (a0_1 == 0 && (a0_3 == 0)) = true then (some (decide ((a0_2.size : Int) ≤ 200))) else (some false)) else (if a0_0 = 2 then (if (a0_2.toList.isEmpty && (a0_3 == 0)) = true then ((impl_within.f a0_1 (-1000000000000) 1000000000000).bind fun t204 => (some t204)) else (some false)) else (if a0_0 = 3 then (if (a0_1 == 0 && (a0_3 == 0)) = true then (if (a0_2.size : Int) ≥ 1 then (some (decide ((a0_2.size : Int) ≤ 1200))) else (some false)) else (some false)) else (if a0_0 = 4 then (impl_ValidValue.j0 k a0_0 (a0_0 == 4) a0_0 a0_1 a0_2 a0_3) else (if a0_0 = 5 then (impl_ValidValue.j0 k a0_0 (a0_0 == 5) a0_0 a0_1 a0_2 a0_3) else (impl_ValidValue.j0 k a0_0 (a0_0 == 6) a0_0 a0_1 a0_2 a0_3)))))
set_option maxHeartbeats 8000000 in
set_option maxRecDepth 100000 in
theorem impl_ValidValue.calls (k : Nat) (a0_0 : Int) (a0_1 : Int) (a0_2 : ByteArray) (a0_3 : Int) (r : Bool) (w : World) (h : impl_ValidValue.f k a0_0 a0_1 a0_2 a0_3 = some r) :
  Calls Try.prog 119 #[.agg #[.int .i64 a0_0, .int .i64 a0_1, .string a0_2, .int .i64 a0_3]] w fun e w' => e = .returned (.bool r) ∧ Below w.heap.size w w' := by
 have hu29 := Try.underlying29
 have HB := Aside0.mk (Below.refl w.heap.size w)
 have H : (if a0_0 = 1 then (if (a0_1 == 0 && (a0_3 == 0)) = true then (some (decide ((a0_2.size : Int) ≤ 200))) else (some false)) else (if a0_0 = 2 then (if (a0_2.toList.isEmpty && (a0_3 == 0)) = true then ((impl_within.f a0_1 (-1000000000000) 1000000000000).bind fun t204 => (some t204)) else (some false)) else (if a0_0 = 3 then (if (a0_1 == 0 && (a0_3 == 0)) = true then (if (a0_2.size : Int) ≥ 1 then (some (decide ((a0_2.size : Int) ≤ 1200))) else (some false)) else (some false)) else (if a0_0 = 4 then (impl_ValidValue.j0 k a0_0 (a0_0 == 4) a0_0 a0_1 a0_2 a0_3) else (if a0_0 = 5 then (impl_ValidValue.j0 k a0_0 (a0_0 == 5) a0_0 a0_1 a0_2 a0_3) else (impl_ValidValue.j0 k a0_0 (a0_0 == 6) a0_0 a0_1 a0_2 a0_3)))))) = some r := h
 clear h
 by_cases c2 : a0_0 = 1
 ·rw [if_pos c2] at H
  have c2b0 : (a0_0 == 1) = true := beq_iff_eq.mpr c2
  have c2b1 : (a0_0 != 1) = false := bne_eq_false_iff_eq.mpr c2
  clear c2
  by_cases c3 : (a0_1 == 0 && (a0_3 == 0)) = true
  ·rw [if_pos c3] at H
   have c3b0 : (a0_1 == 0 && (a0_3 == 0)) = true := c3
   (try (have c3b1 : decide (a0_1 = 0 && (a0_3 == 0)) = true := by simpa using c3))
   (try (have c3b2 : (a0_1 == 0 && (a0_3 == 0)) = true := by simpa using c3))
   clear c3
   obtain rfl := Option.some.inj H
   go_enter Try.func119, Try.ntmps119
   go_wp2_with (first | ((with_reducible refine gate_dst (N := 1) rfl ?_); (try (refine gate_guard (by rfl) ?_; dsimp only)); refine sV (N := 1) (cs := #[.int .i64 a0_0, .int .i64 a0_1, .string a0_2, .int .i64 a0_3]) (t := 29) ?_; intro gb203 hg w4 hbox hb; have n0_ := sB HB hb; have n1_ := Aside0.mk (hbox); have n2_ := sG HB hg; have n3_ := sG HB hg; clear HB; have HB := n0_; have BK203 := n1_; have GW203 := n2_; have GE203 := n3_; clear n0_ n1_ n2_ n3_; clear hb hbox hg; obtain ⟨hcz5_0, hcz5_1, hcz5_2, hcz5_3, hfz5_0, hfz5_1, hfz5_2, hfz5_3⟩ := cells4 BK203.out))
   go_ret
   exact ⟨sq, sb⟩
  rw [if_neg c3] at H
  have c3b0 : (a0_1 == 0 && (a0_3 == 0)) = false := by simpa using c3
  (try (have c3b1 : decide (a0_1 = 0 && (a0_3 == 0)) = false := by simpa using c3))
  (try (have c3b2 : (a0_1 == 0 && (a0_3 == 0)) = false := by simpa using c3))
  (try (have c3b3 : ¬ (a0_1 = 0 && (a0_3 == 0)) := by simpa using c3))
  clear c3
  obtain rfl := Option.some.inj H
  go_enter Try.func119, Try.ntmps119
  go_wp2_with (first | ((with_reducible refine gate_dst (N := 1) rfl ?_); (try (refine gate_guard (by rfl) ?_; dsimp only)); refine sV (N := 1) (cs := #[.int .i64 a0_0, .int .i64 a0_1, .string a0_2, .int .i64 a0_3]) (t := 29) ?_; intro gb203 hg w6 hbox hb; have n0_ := sB HB hb; have n1_ := Aside0.mk (hbox); have n2_ := sG HB hg; have n3_ := sG HB hg; clear HB; have HB := n0_; have BK203 := n1_; have GW203 := n2_; have GE203 := n3_; clear n0_ n1_ n2_ n3_; clear hb hbox hg; obtain ⟨hcz7_0, hcz7_1, hcz7_2, hcz7_3, hfz7_0, hfz7_1, hfz7_2, hfz7_3⟩ := cells4 BK203.out))
  go_ret
  exact ⟨sq, sb⟩
 rw [if_neg c2] at H
 have c2b0 : (a0_0 == 1) = false := beq_eq_false_iff_ne.mpr c2
 have c2b1 : (a0_0 != 1) = true := bne_iff_ne.mpr c2
 by_cases c8 : a0_0 = 2
 ·rw [if_pos c8] at H
  have c8b0 : (a0_0 == 2) = true := beq_iff_eq.mpr c8
  have c8b1 : (a0_0 != 2) = false := bne_eq_false_iff_eq.mpr c8
  clear c8
  by_cases c9 : (a0_2.toList.isEmpty && (a0_3 == 0)) = true
  ·rw [if_pos c9] at H
   have c9b0 : (a0_2.toList.isEmpty && (a0_3 == 0)) = true := c9
   clear c9
   obtain ⟨t204, A10, H⟩ := sO H
   obtain rfl := Option.some.inj H
   go_enter Try.func119, Try.ntmps119
   go_wp2_with (first | ((with_reducible refine gate_dst (N := 1) rfl ?_); (try (refine gate_guard (by rfl) ?_; dsimp only)); refine sV (N := 1) (cs := #[.int .i64 a0_0, .int .i64 a0_1, .string a0_2, .int .i64 a0_3]) (t := 29) ?_; intro gb203 hg w11 hbox hb; have n0_ := sB HB hb; have n1_ := Aside0.mk (hbox); have n2_ := sG HB hg; have n3_ := sG HB hg; clear HB; have HB := n0_; have BK203 := n1_; have GW203 := n2_; have GE203 := n3_; clear n0_ n1_ n2_ n3_; clear hb hbox hg; obtain ⟨hcz12_0, hcz12_1, hcz12_2, hcz12_3, hfz12_0, hfz12_1, hfz12_2, hfz12_3⟩ := cells4 BK203.out) | (go_at_call 69; (with_reducible refine (impl_within.calls a0_1 (-1000000000000) 1000000000000 t204 _ A10.out).mono ?_); rintro e w' ⟨rfl, ⟨nd, rfl⟩⟩))
   go_ret
   exact ⟨sq, sb⟩
  rw [if_neg c9] at H
  have c9b0 : (a0_2.toList.isEmpty && (a0_3 == 0)) = false := by simpa using c9
  clear c9
  obtain rfl := Option.some.inj H
  go_enter Try.func119, Try.ntmps119
  go_wp2_with (first | ((with_reducible refine gate_dst (N := 1) rfl ?_); (try (refine gate_guard (by rfl) ?_; dsimp only)); refine sV (N := 1) (cs := #[.int .i64 a0_0, .int .i64 a0_1, .string a0_2, .int .i64 a0_3]) (t := 29) ?_; intro gb203 hg w13 hbox hb; have n0_ := sB HB hb; have n1_ := Aside0.mk (hbox); have n2_ := sG HB hg; have n3_ := sG HB hg; clear HB; have HB := n0_; have BK203 := n1_; have GW203 := n2_; have GE203 := n3_; clear n0_ n1_ n2_ n3_; clear hb hbox hg; obtain ⟨hcz14_0, hcz14_1, hcz14_2, hcz14_3, hfz14_0, hfz14_1, hfz14_2, hfz14_3⟩ := cells4 BK203.out))
  go_ret
  exact ⟨sq, sb⟩
 rw [if_neg c8] at H
 have c8b0 : (a0_0 == 2) = false := beq_eq_false_iff_ne.mpr c8
 have c8b1 : (a0_0 != 2) = true := bne_iff_ne.mpr c8
 by_cases c15 : a0_0 = 3
 ·rw [if_pos c15] at H
  have c15b0 : (a0_0 == 3) = true := beq_iff_eq.mpr c15
  have c15b1 : (a0_0 != 3) = false := bne_eq_false_iff_eq.mpr c15
  clear c15
  by_cases c16 : (a0_1 == 0 && (a0_3 == 0)) = true
  ·rw [if_pos c16] at H
   have c16b0 : (a0_1 == 0 && (a0_3 == 0)) = true := c16
   (try (have c16b1 : decide (a0_1 = 0 && (a0_3 == 0)) = true := by simpa using c16))
   (try (have c16b2 : (a0_1 == 0 && (a0_3 == 0)) = true := by simpa using c16))
   clear c16
   by_cases c17 : (a0_2.size : Int) ≥ 1
   ·rw [if_pos c17] at H
    have c17b0 : decide (1 ≤ (a0_2.size : Int)) = true := decide_eq_true c17
    have c17b1 : decide (1 ≤ a0_2.size) = true := decide_eq_true (by omega)
    clear c17
    obtain rfl := Option.some.inj H
    go_enter Try.func119, Try.ntmps119
    go_wp2_with (first | ((with_reducible refine gate_dst (N := 1) rfl ?_); (try (refine gate_guard (by rfl) ?_; dsimp only)); refine sV (N := 1) (cs := #[.int .i64 a0_0, .int .i64 a0_1, .string a0_2, .int .i64 a0_3]) (t := 29) ?_; intro gb203 hg w18 hbox hb; have n0_ := sB HB hb; have n1_ := Aside0.mk (hbox); have n2_ := sG HB hg; have n3_ := sG HB hg; clear HB; have HB := n0_; have BK203 := n1_; have GW203 := n2_; have GE203 := n3_; clear n0_ n1_ n2_ n3_; clear hb hbox hg; obtain ⟨hcz19_0, hcz19_1, hcz19_2, hcz19_3, hfz19_0, hfz19_1, hfz19_2, hfz19_3⟩ := cells4 BK203.out))
    go_ret
    exact ⟨sq, sb⟩
   rw [if_neg c17] at H
   have c17b0 : decide (1 ≤ (a0_2.size : Int)) = false := decide_eq_false c17
   have c17b1 : decide (1 ≤ a0_2.size) = false := decide_eq_false (by omega)
   clear c17
   obtain rfl := Option.some.inj H
   go_enter Try.func119, Try.ntmps119
   go_wp2_with (first | ((with_reducible refine gate_dst (N := 1) rfl ?_); (try (refine gate_guard (by rfl) ?_; dsimp only)); refine sV (N := 1) (cs := #[.int .i64 a0_0, .int .i64 a0_1, .string a0_2, .int .i64 a0_3]) (t := 29) ?_; intro gb203 hg w20 hbox hb; have n0_ := sB HB hb; have n1_ := Aside0.mk (hbox); have n2_ := sG HB hg; have n3_ := sG HB hg; clear HB; have HB := n0_; have BK203 := n1_; have GW203 := n2_; have GE203 := n3_; clear n0_ n1_ n2_ n3_; clear hb hbox hg; obtain ⟨hcz21_0, hcz21_1, hcz21_2, hcz21_3, hfz21_0, hfz21_1, hfz21_2, hfz21_3⟩ := cells4 BK203.out))
   go_ret
   exact ⟨sq, sb⟩
  rw [if_neg c16] at H
  have c16b0 : (a0_1 == 0 && (a0_3 == 0)) = false := by simpa using c16
  (try (have c16b1 : decide (a0_1 = 0 && (a0_3 == 0)) = false := by simpa using c16))
  (try (have c16b2 : (a0_1 == 0 && (a0_3 == 0)) = false := by simpa using c16))
  (try (have c16b3 : ¬ (a0_1 = 0 && (a0_3 == 0)) := by simpa using c16))
  clear c16
  obtain rfl := Option.some.inj H
  go_enter Try.func119, Try.ntmps119
  go_wp2_with (first | ((with_reducible refine gate_dst (N := 1) rfl ?_); (try (refine gate_guard (by rfl) ?_; dsimp only)); refine sV (N := 1) (cs := #[.int .i64 a0_0, .int .i64 a0_1, .string a0_2, .int .i64 a0_3]) (t := 29) ?_; intro gb203 hg w22 hbox hb; have n0_ := sB HB hb; have n1_ := Aside0.mk (hbox); have n2_ := sG HB hg; have n3_ := sG HB hg; clear HB; have HB := n0_; have BK203 := n1_; have GW203 := n2_; have GE203 := n3_; clear n0_ n1_ n2_ n3_; clear hb hbox hg; obtain ⟨hcz23_0, hcz23_1, hcz23_2, hcz23_3, hfz23_0, hfz23_1, hfz23_2, hfz23_3⟩ := cells4 BK203.out))
  go_ret
  exact ⟨sq, sb⟩
 rw [if_neg c15] at H
 have c15b0 : (a0_0 == 3) = false := beq_eq_false_iff_ne.mpr c15
 have c15b1 : (a0_0 != 3) = true := bne_iff_ne.mpr c15
 have HC24 := Aside0.mk H
 clear H
 go_enter Try.func119, Try.ntmps119
 go_upto_if 49 with (first | ((with_reducible refine gate_dst (N := 1) rfl ?_); (try (refine gate_guard (by rfl) ?_; dsimp only)); refine sV (N := 1) (cs := #[.int .i64 a0_0, .int .i64 a0_1, .string a0_2, .int .i64 a0_3]) (t := 29) ?_; intro gb203 hg w25 hbox hb; have n0_ := sB HB hb; have n1_ := Aside0.mk (hbox); have n2_ := sG HB hg; have n3_ := sG HB hg; clear HB; have HB := n0_; have BK203 := n1_; have GW203 := n2_; have GE203 := n3_; clear n0_ n1_ n2_ n3_; clear hb hbox hg; obtain ⟨hcz26_0, hcz26_1, hcz26_2, hcz26_3, hfz26_0, hfz26_1, hfz26_2, hfz26_3⟩ := cells4 BK203.out))
 (try simp only [Act.put, List.setIfInBounds_toArray, List.set_cons_zero, List.set_cons_succ])
 go_cut [49] (fun v49 wc => ∃ (kq : Nat) (x49_23 : Bool), v49 = .bool x49_23 ∧ Aside0 (impl_ValidValue.j0 kq a0_0 x49_23 a0_0 a0_1 a0_2 a0_3 = some r) ∧ Aside0 (kq ≤ k) ∧ Aside0 (wc.heap[gb203]? = some (.cells #[.int .i64 a0_0, .int .i64 a0_1, .string a0_2, .int .i64 a0_3] 29 (0, 0))) ∧ Aside0 (Below w.heap.size w wc))
 case first =>
  have H := HC24.out
  clear HC24
  by_cases c27 : a0_0 = 4
  ·rw [if_pos c27] at H
   have c27b0 : (a0_0 == 4) = true := beq_iff_eq.mpr c27
   have c27b1 : (a0_0 != 4) = false := bne_eq_false_iff_eq.mpr c27
   clear c27
   (first | rw [c27b0] | (simp only [i64_w, i32_w]; rw [c27b0]) | rw [c27b2] | skip)
   have H' := Aside0.mk H
   clear H
   go_wp2
   go_meet
   case rel => exact ⟨_, ((a0_0 == 4)), sr, H', ⟨by first | omega | exact Nat.le_refl _⟩, ⟨by exact sT BK203.out⟩, ⟨sb⟩⟩
  rw [if_neg c27] at H
  have c27b0 : (a0_0 == 4) = false := beq_eq_false_iff_ne.mpr c27
  have c27b1 : (a0_0 != 4) = true := bne_iff_ne.mpr c27
  (first | rw [c27b0] | (simp only [i64_w, i32_w]; rw [c27b0]) | rw [c27b2] | skip)
  by_cases c28 : a0_0 = 5
  ·rw [if_pos c28] at H
   have c28b0 : (a0_0 == 5) = true := beq_iff_eq.mpr c28
   have c28b1 : (a0_0 != 5) = false := bne_eq_false_iff_eq.mpr c28
   clear c28
   have H' := Aside0.mk H
   clear H
   go_wp2
   go_meet
   case rel => exact ⟨_, ((a0_0 == 5)), sr, H', ⟨by first | omega | exact Nat.le_refl _⟩, ⟨by exact sT BK203.out⟩, ⟨sb⟩⟩
  rw [if_neg c28] at H
  have c28b0 : (a0_0 == 5) = false := beq_eq_false_iff_ne.mpr c28
  have c28b1 : (a0_0 != 5) = true := bne_iff_ne.mpr c28
  have H' := Aside0.mk H
  clear H
  go_wp2
  go_meet
  case rel => exact ⟨_, ((a0_0 == 6)), sr, H', ⟨by first | omega | exact Nat.le_refl _⟩, ⟨by exact sT BK203.out⟩, ⟨sb⟩⟩
 case rest =>
  clear HC24
  try clear c1
  try clear c2
  try clear c2b0
  try clear c2b1
  try clear p2
  try clear c3
  try clear c3b0
  try clear c3b1
  try clear c3b2
  try clear c3b3
  try clear c8
  try clear c8b0
  try clear c8b1
  try clear c9
  try clear c9b0
  try clear c11
  try clear c15
  try clear c15b0
  try clear c15b1
  try clear c16
  try clear c16b0
  try clear c16b1
  try clear c16b2
  try clear c16b3
  try clear c17
  try clear c17b0
  try clear c17b1
  try clear c27
  try clear c27b0
  try clear c27b1
  try clear c27b2
  try clear c28
  try clear c28b0
  try clear c28b1
  try clear hcz12_0
  try clear hcz12_1
  try clear hcz12_2
  try clear hcz12_3
  try clear hcz14_0
  try clear hcz14_1
  try clear hcz14_2
  try clear hcz14_3
  try clear hcz19_0
  try clear hcz19_1
  try clear hcz19_2
  try clear hcz19_3
  try clear hcz21_0
  try clear hcz21_1
  try clear hcz21_2
  try clear hcz21_3
  try clear hcz23_0
  try clear hcz23_1
  try clear hcz23_2
  try clear hcz23_3
  try clear hcz26_0
  try clear hcz26_1
  try clear hcz26_2
  try clear hcz26_3
  try clear hcz5_0
  try clear hcz5_1
  try clear hcz5_2
  try clear hcz5_3
  try clear hcz7_0
  try clear hcz7_1
  try clear hcz7_2
  try clear hcz7_3
  try clear hfz12_0
  try clear hfz12_1
  try clear hfz12_2
  try clear hfz12_3
  try clear hfz14_0
  try clear hfz14_1
  try clear hfz14_2
  try clear hfz14_3
  try clear hfz19_0
  try clear hfz19_1
  try clear hfz19_2
  try clear hfz19_3
  try clear hfz21_0
  try clear hfz21_1
  try clear hfz21_2
  try clear hfz21_3
  try clear hfz23_0
  try clear hfz23_1
  try clear hfz23_2
  try clear hfz23_3
  try clear hfz26_0
  try clear hfz26_1
  try clear hfz26_2
  try clear hfz26_3
  try clear hfz5_0
  try clear hfz5_1
  try clear hfz5_2
  try clear hfz5_3
  try clear hfz7_0
  try clear hfz7_1
  try clear hfz7_2
  try clear hfz7_3
  obtain ⟨kq, x49_23, rfl, HA, HJ23, BK203, HB⟩ := hcut
  cases kq with
  | zero => exact absurd HA.out (by simp [impl_ValidValue.j0])
  | succ kj23 =>
   have H := HA.out
   clear HA
   simp only [impl_ValidValue.j0] at H
   by_cases c29 : x49_23 = true
   ·subst c29
    rewrite [if_pos rfl] at H
    by_cases c30 : (a0_1 == 0 && (a0_2.toList.isEmpty)) = true
    ·rw [if_pos c30] at H
     have c30b0 : (a0_1 == 0 && (a0_2.toList.isEmpty)) = true := c30
     (try (have c30b1 : decide (a0_1 = 0 && (a0_2.toList.isEmpty)) = true := by simpa using c30))
     (try (have c30b2 : (a0_1 == 0 && (a0_2.toList.isEmpty)) = true := by simpa using c30))
     clear c30
     obtain ⟨t205, A31, H⟩ := sO H
     obtain rfl := Option.some.inj H
     obtain ⟨hcz32_0, hcz32_1, hcz32_2, hcz32_3, hfz32_0, hfz32_1, hfz32_2, hfz32_3⟩ := cells4 BK203.out
     go_wp2_with (first | (go_at_call 129; (with_reducible refine (impl_isObjectId.calls a0_3 t205 _ A31.out).mono ?_); rintro e w' ⟨rfl, ⟨nd, rfl⟩⟩))
     go_ret
     exact ⟨sq, sb⟩
    rw [if_neg c30] at H
    have c30b0 : (a0_1 == 0 && (a0_2.toList.isEmpty)) = false := by simpa using c30
    (try (have c30b1 : decide (a0_1 = 0 && (a0_2.toList.isEmpty)) = false := by simpa using c30))
    (try (have c30b2 : (a0_1 == 0 && (a0_2.toList.isEmpty)) = false := by simpa using c30))
    (try (have c30b3 : ¬ (a0_1 = 0 && (a0_2.toList.isEmpty)) := by simpa using c30))
    clear c30
    obtain rfl := Option.some.inj H
    obtain ⟨hcz33_0, hcz33_1, hcz33_2, hcz33_3, hfz33_0, hfz33_1, hfz33_2, hfz33_3⟩ := cells4 BK203.out
    go_wp2
    go_ret
    exact ⟨sq, sb⟩
   replace c29 := Bool.eq_false_iff.mpr c29
   subst c29
   rewrite [if_neg (show ¬ (false = true) by decide)] at H
   by_cases c34 : a0_0 = 7
   ·rw [if_pos c34] at H
    have c34b0 : (a0_0 == 7) = true := beq_iff_eq.mpr c34
    have c34b1 : (a0_0 != 7) = false := bne_eq_false_iff_eq.mpr c34
    clear c34
    by_cases c35 : (a0_1 == 0 && (a0_3 == 0)) = true
    ·rw [if_pos c35] at H
     have c35b0 : (a0_1 == 0 && (a0_3 == 0)) = true := c35
     (try (have c35b1 : decide (a0_1 = 0 && (a0_3 == 0)) = true := by simpa using c35))
     (try (have c35b2 : (a0_1 == 0 && (a0_3 == 0)) = true := by simpa using c35))
     clear c35
     obtain ⟨t206, A36, H⟩ := sO H
     obtain rfl := Option.some.inj H
     obtain ⟨hcz37_0, hcz37_1, hcz37_2, hcz37_3, hfz37_0, hfz37_1, hfz37_2, hfz37_3⟩ := cells4 BK203.out
     go_wp2_with (first | (go_at_call 57; (with_reducible refine (impl_IsName.calls kj23 a0_2 t206 _ A36.out).mono ?_); rintro e w38 ⟨rfl, hb⟩; have n0_ := sK BK203 hb; have n1_ := sB HB hb; clear BK203; clear HB; have BK203 := n0_; have HB := n1_; clear n0_ n1_; (try clear hb); (try clear hb2); (try clear hk); (try clear hi)))
     go_ret
     exact ⟨sq, sb⟩
    rw [if_neg c35] at H
    have c35b0 : (a0_1 == 0 && (a0_3 == 0)) = false := by simpa using c35
    (try (have c35b1 : decide (a0_1 = 0 && (a0_3 == 0)) = false := by simpa using c35))
    (try (have c35b2 : (a0_1 == 0 && (a0_3 == 0)) = false := by simpa using c35))
    (try (have c35b3 : ¬ (a0_1 = 0 && (a0_3 == 0)) := by simpa using c35))
    clear c35
    obtain rfl := Option.some.inj H
    obtain ⟨hcz39_0, hcz39_1, hcz39_2, hcz39_3, hfz39_0, hfz39_1, hfz39_2, hfz39_3⟩ := cells4 BK203.out
    go_wp2
    go_ret
    exact ⟨sq, sb⟩
   rw [if_neg c34] at H
   have c34b0 : (a0_0 == 7) = false := beq_eq_false_iff_ne.mpr c34
   have c34b1 : (a0_0 != 7) = true := bne_iff_ne.mpr c34
   by_cases c40 : a0_0 = 8
   ·rw [if_pos c40] at H
    have c40b0 : (a0_0 == 8) = true := beq_iff_eq.mpr c40
    have c40b1 : (a0_0 != 8) = false := bne_eq_false_iff_eq.mpr c40
    clear c40
    by_cases c41 : (a0_1 == 0 && (a0_3 == 0)) = true
    ·rw [if_pos c41] at H
     have c41b0 : (a0_1 == 0 && (a0_3 == 0)) = true := c41
     (try (have c41b1 : decide (a0_1 = 0 && (a0_3 == 0)) = true := by simpa using c41))
     (try (have c41b2 : (a0_1 == 0 && (a0_3 == 0)) = true := by simpa using c41))
     clear c41
     obtain ⟨t207, A42, H⟩ := sO H
     obtain rfl := Option.some.inj H
     obtain ⟨hcz43_0, hcz43_1, hcz43_2, hcz43_3, hfz43_0, hfz43_1, hfz43_2, hfz43_3⟩ := cells4 BK203.out
     go_wp2_with (first | (go_at_call 57; (with_reducible refine (impl_IsName.calls kj23 a0_2 t207 _ A42.out).mono ?_); rintro e w44 ⟨rfl, hb⟩; have n0_ := sK BK203 hb; have n1_ := sB HB hb; clear BK203; clear HB; have BK203 := n0_; have HB := n1_; clear n0_ n1_; (try clear hb); (try clear hb2); (try clear hk); (try clear hi)))
     go_ret
     exact ⟨sq, sb⟩
    rw [if_neg c41] at H
    have c41b0 : (a0_1 == 0 && (a0_3 == 0)) = false := by simpa using c41
    (try (have c41b1 : decide (a0_1 = 0 && (a0_3 == 0)) = false := by simpa using c41))
    (try (have c41b2 : (a0_1 == 0 && (a0_3 == 0)) = false := by simpa using c41))
    (try (have c41b3 : ¬ (a0_1 = 0 && (a0_3 == 0)) := by simpa using c41))
    clear c41
    obtain rfl := Option.some.inj H
    obtain ⟨hcz45_0, hcz45_1, hcz45_2, hcz45_3, hfz45_0, hfz45_1, hfz45_2, hfz45_3⟩ := cells4 BK203.out
    go_wp2
    go_ret
    exact ⟨sq, sb⟩
   rw [if_neg c40] at H
   have c40b0 : (a0_0 == 8) = false := beq_eq_false_iff_ne.mpr c40
   have c40b1 : (a0_0 != 8) = true := bne_iff_ne.mpr c40
   obtain rfl := Option.some.inj H
   go_wp2
   go_ret
   exact ⟨sq, sb⟩
end

section
attribute [local go_sem high] eqA29
/-! ### impl_isData: function 99 -/
def impl_isData.f (k : Nat) (a0_0 : Int) (a0_1 : Int) (a0_2 : ByteArray) (a0_3 : Int) : Option (Bool) := (impl_ValidValue.f k a0_0 a0_1 a0_2 a0_3).bind fun t210 => (if t210 = true then (if a0_0 = 1 then (some true) else (if a0_0 = 2 then (some true) else ((impl_refers.f a0_0).bind fun t211 => (some t211)))) else (some false))
set_option maxHeartbeats 8000000 in
set_option maxRecDepth 100000 in
theorem impl_isData.calls (k : Nat) (a0_0 : Int) (a0_1 : Int) (a0_2 : ByteArray) (a0_3 : Int) (r : Bool) (w : World) (h : impl_isData.f k a0_0 a0_1 a0_2 a0_3 = some r) :
  Calls Try.prog 99 #[.agg #[.int .i64 a0_0, .int .i64 a0_1, .string a0_2, .int .i64 a0_3]] w fun e w' => e = .returned (.bool r) ∧ Below w.heap.size w w' := by
 have hu29 := Try.underlying29
 have HB := Aside0.mk (Below.refl w.heap.size w)
 have H : ((impl_ValidValue.f k a0_0 a0_1 a0_2 a0_3).bind fun t210 => (if t210 = true then (if a0_0 = 1 then (some true) else (if a0_0 = 2 then (some true) else ((impl_refers.f a0_0).bind fun t211 => (some t211)))) else (some false))) = some r := h
 clear h
 obtain ⟨t210, A2, H⟩ := sO H
 by_cases c3 : t210 = true
 ·subst c3
  rewrite [if_pos rfl] at H
  by_cases c4 : a0_0 = 1
  ·rw [if_pos c4] at H
   have c4b0 : (a0_0 == 1) = true := beq_iff_eq.mpr c4
   have c4b1 : (a0_0 != 1) = false := bne_eq_false_iff_eq.mpr c4
   clear c4
   obtain rfl := Option.some.inj H
   go_enter Try.func99, Try.ntmps99
   go_wp2_with (first | ((with_reducible refine gate_dst (N := 1) rfl ?_); refine sV (N := 1) (cs := #[.int .i64 a0_0, .int .i64 a0_1, .string a0_2, .int .i64 a0_3]) (t := 29) ?_; intro gb209 hg w5 hbox hb; have n0_ := sB HB hb; have n1_ := Aside0.mk (hbox); have n2_ := sG HB hg; have n3_ := sG HB hg; clear HB; have HB := n0_; have BK209 := n1_; have GW209 := n2_; have GE209 := n3_; clear n0_ n1_ n2_ n3_; clear hb hbox hg; obtain ⟨hcz6_0, hcz6_1, hcz6_2, hcz6_3, hfz6_0, hfz6_1, hfz6_2, hfz6_3⟩ := cells4 BK209.out) | ((with_reducible refine gate_callee (f := 119) rfl ?_); refine sC (some 4) Try.func119 #[.agg #[.int .i64 a0_0, .int .i64 a0_1, .string a0_2, .int .i64 a0_3]] (impl_ValidValue.calls k a0_0 a0_1 a0_2 a0_3 true _ A2.out) ?_; rintro e w7 ⟨rfl, hb⟩; refine ⟨_, rfl, ?_⟩; have n0_ := sK BK209 hb; have n1_ := sB HB hb; clear BK209; clear HB; have BK209 := n0_; have HB := n1_; clear n0_ n1_; (try clear hb); (try clear hb2); (try clear hk); (try clear hi); obtain ⟨hcz8_0, hcz8_1, hcz8_2, hcz8_3, hfz8_0, hfz8_1, hfz8_2, hfz8_3⟩ := cells4 BK209.out))
   go_ret
   exact ⟨sq, sb⟩
  rw [if_neg c4] at H
  have c4b0 : (a0_0 == 1) = false := beq_eq_false_iff_ne.mpr c4
  have c4b1 : (a0_0 != 1) = true := bne_iff_ne.mpr c4
  by_cases c9 : a0_0 = 2
  ·rw [if_pos c9] at H
   have c9b0 : (a0_0 == 2) = true := beq_iff_eq.mpr c9
   have c9b1 : (a0_0 != 2) = false := bne_eq_false_iff_eq.mpr c9
   clear c9
   obtain rfl := Option.some.inj H
   go_enter Try.func99, Try.ntmps99
   go_wp2_with (first | ((with_reducible refine gate_dst (N := 1) rfl ?_); refine sV (N := 1) (cs := #[.int .i64 a0_0, .int .i64 a0_1, .string a0_2, .int .i64 a0_3]) (t := 29) ?_; intro gb209 hg w10 hbox hb; have n0_ := sB HB hb; have n1_ := Aside0.mk (hbox); have n2_ := sG HB hg; have n3_ := sG HB hg; clear HB; have HB := n0_; have BK209 := n1_; have GW209 := n2_; have GE209 := n3_; clear n0_ n1_ n2_ n3_; clear hb hbox hg; obtain ⟨hcz11_0, hcz11_1, hcz11_2, hcz11_3, hfz11_0, hfz11_1, hfz11_2, hfz11_3⟩ := cells4 BK209.out) | ((with_reducible refine gate_callee (f := 119) rfl ?_); refine sC (some 4) Try.func119 #[.agg #[.int .i64 a0_0, .int .i64 a0_1, .string a0_2, .int .i64 a0_3]] (impl_ValidValue.calls k a0_0 a0_1 a0_2 a0_3 true _ A2.out) ?_; rintro e w12 ⟨rfl, hb⟩; refine ⟨_, rfl, ?_⟩; have n0_ := sK BK209 hb; have n1_ := sB HB hb; clear BK209; clear HB; have BK209 := n0_; have HB := n1_; clear n0_ n1_; (try clear hb); (try clear hb2); (try clear hk); (try clear hi); obtain ⟨hcz13_0, hcz13_1, hcz13_2, hcz13_3, hfz13_0, hfz13_1, hfz13_2, hfz13_3⟩ := cells4 BK209.out))
   go_ret
   exact ⟨sq, sb⟩
  rw [if_neg c9] at H
  have c9b0 : (a0_0 == 2) = false := beq_eq_false_iff_ne.mpr c9
  have c9b1 : (a0_0 != 2) = true := bne_iff_ne.mpr c9
  obtain ⟨t211, A14, H⟩ := sO H
  obtain rfl := Option.some.inj H
  go_enter Try.func99, Try.ntmps99
  go_wp2_with (first | ((with_reducible refine gate_dst (N := 1) rfl ?_); refine sV (N := 1) (cs := #[.int .i64 a0_0, .int .i64 a0_1, .string a0_2, .int .i64 a0_3]) (t := 29) ?_; intro gb209 hg w15 hbox hb; have n0_ := sB HB hb; have n1_ := Aside0.mk (hbox); have n2_ := sG HB hg; have n3_ := sG HB hg; clear HB; have HB := n0_; have BK209 := n1_; have GW209 := n2_; have GE209 := n3_; clear n0_ n1_ n2_ n3_; clear hb hbox hg; obtain ⟨hcz16_0, hcz16_1, hcz16_2, hcz16_3, hfz16_0, hfz16_1, hfz16_2, hfz16_3⟩ := cells4 BK209.out) | ((with_reducible refine gate_callee (f := 119) rfl ?_); refine sC (some 4) Try.func119 #[.agg #[.int .i64 a0_0, .int .i64 a0_1, .string a0_2, .int .i64 a0_3]] (impl_ValidValue.calls k a0_0 a0_1 a0_2 a0_3 true _ A2.out) ?_; rintro e w17 ⟨rfl, hb⟩; refine ⟨_, rfl, ?_⟩; have n0_ := sK BK209 hb; have n1_ := sB HB hb; clear BK209; clear HB; have BK209 := n0_; have HB := n1_; clear n0_ n1_; (try clear hb); (try clear hb2); (try clear hk); (try clear hi); obtain ⟨hcz18_0, hcz18_1, hcz18_2, hcz18_3, hfz18_0, hfz18_1, hfz18_2, hfz18_3⟩ := cells4 BK209.out) | (go_at_call 120; (with_reducible refine (impl_refers.calls a0_0 t211 _ A14.out).mono ?_); rintro e w' ⟨rfl, ⟨nd, rfl⟩⟩))
  go_ret
  exact ⟨sq, sb⟩
 replace c3 := Bool.eq_false_iff.mpr c3
 subst c3
 rewrite [if_neg (show ¬ (false = true) by decide)] at H
 obtain rfl := Option.some.inj H
 go_enter Try.func99, Try.ntmps99
 go_wp2_with (first | ((with_reducible refine gate_dst (N := 1) rfl ?_); refine sV (N := 1) (cs := #[.int .i64 a0_0, .int .i64 a0_1, .string a0_2, .int .i64 a0_3]) (t := 29) ?_; intro gb209 hg w19 hbox hb; have n0_ := sB HB hb; have n1_ := Aside0.mk (hbox); have n2_ := sG HB hg; have n3_ := sG HB hg; clear HB; have HB := n0_; have BK209 := n1_; have GW209 := n2_; have GE209 := n3_; clear n0_ n1_ n2_ n3_; clear hb hbox hg; obtain ⟨hcz20_0, hcz20_1, hcz20_2, hcz20_3, hfz20_0, hfz20_1, hfz20_2, hfz20_3⟩ := cells4 BK209.out) | ((with_reducible refine gate_callee (f := 119) rfl ?_); refine sC (some 4) Try.func119 #[.agg #[.int .i64 a0_0, .int .i64 a0_1, .string a0_2, .int .i64 a0_3]] (impl_ValidValue.calls k a0_0 a0_1 a0_2 a0_3 false _ A2.out) ?_; rintro e w21 ⟨rfl, hb⟩; refine ⟨_, rfl, ?_⟩; have n0_ := sK BK209 hb; have n1_ := sB HB hb; clear BK209; clear HB; have BK209 := n0_; have HB := n1_; clear n0_ n1_; (try clear hb); (try clear hb2); (try clear hk); (try clear hi)))
 go_ret
 exact ⟨sq, sb⟩
end
end Go.Proofs.Ytfpkngdoijpafaa.PFnExactValidGen
