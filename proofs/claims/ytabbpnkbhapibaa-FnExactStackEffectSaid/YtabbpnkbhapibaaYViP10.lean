/- Printed functions: spec_l24Effect. -/
import Derived.Test.YtabbpnkbhapibaaYViP0
namespace Go.Proofs.Ytabbpnkbhapibaa.PFnExactValidInstr
open Go.RowKit Go.Proofs.YtabbpnkbhapibaaG Go.Proofs.YtabbpnkbhapibaaW.PrintWords Go.Proofs.YtabbpnkbhapibaaW.PrintLast Go.Proofs.YtabbpnkbhapibaaW.PrintMore
attribute [local go_sem] max2_int min2_int max_two min_two max_three min_three max_four min_four   -- for this text's walks alone
set_option linter.unusedVariables false
set_option linter.unusedSimpArgs false
/-! ### spec_l24Effect: function 118 -/
mutual
def spec_l24Effect.j0 : Nat → Int → Bool → Int → Int → ByteArray → Option (Int × Int)
 | 0, _, _, _, _, _ => none
 | k + 1, x5, x6, x181000, x181001, x181002 => if x6 = true then (some (0, 1)) else (if x5 = 8 then (spec_l24Effect.j1 k x5 (x5 == 8) x181000 x181001 x181002) else (spec_l24Effect.j1 k x5 (x5 == 12) x181000 x181001 x181002))
def spec_l24Effect.j1 : Nat → Int → Bool → Int → Int → ByteArray → Option (Int × Int)
 | 0, _, _, _, _, _ => none
 | k + 1, x5, x13, x181000, x181001, x181002 => if x13 = true then (some (2, 1)) else (if x5 = 9 then (spec_l24Effect.j2 k x5 (x5 == 9) x181000 x181001 x181002) else (if x5 = 10 then (spec_l24Effect.j2 k x5 (x5 == 10) x181000 x181001 x181002) else (if x5 = 11 then (spec_l24Effect.j2 k x5 (x5 == 11) x181000 x181001 x181002) else (spec_l24Effect.j2 k x5 (x5 == 15) x181000 x181001 x181002))))
def spec_l24Effect.j2 : Nat → Int → Bool → Int → Int → ByteArray → Option (Int × Int)
 | 0, _, _, _, _, _ => none
 | k + 1, x5, x16, x181000, x181001, x181002 => if x16 = true then (some (1, 1)) else (if x5 = 13 then (some (x181001, 1)) else (if x5 = 14 then (spec_l24Effect.j3 k x5 (x5 == 14)) else (spec_l24Effect.j3 k x5 (x5 == 17))))
def spec_l24Effect.j3 : Nat → Int → Bool → Option (Int × Int)
 | 0, _, _ => none
 | k + 1, x5, x25 => if x25 = true then (some (1, 0)) else (if x5 = 18 then (spec_l24Effect.j4 k x5 (x5 == 18)) else (if x5 = 20 then (spec_l24Effect.j4 k x5 (x5 == 20)) else (spec_l24Effect.j4 k x5 (x5 == 24))))
def spec_l24Effect.j4 : Nat → Int → Bool → Option (Int × Int)
 | 0, _, _ => none
 | k + 1, x5, x28 => if x28 = true then (some (2, 0)) else (if x5 = 19 then (some (3, 0)) else (if x5 = 21 then (spec_l24Effect.j5 k x5 (x5 == 21)) else (spec_l24Effect.j5 k x5 (x5 == 23))))
def spec_l24Effect.j5 : Nat → Int → Bool → Option (Int × Int)
 | 0, _, _ => none
 | k + 1, x5, x34 => if x34 = true then (some (1, 2)) else (if x5 = 22 then (spec_l24Effect.j6 k x5 (x5 == 22)) else (spec_l24Effect.j6 k x5 (x5 == 25)))
def spec_l24Effect.j6 : Nat → Int → Bool → Option (Int × Int)
 | 0, _, _ => none
 | k + 1, x5, x37 => if x37 = true then (some (2, 3)) else (if x5 = 26 then (some (4, 1)) else (some (0, 0)))
end
def spec_l24Effect.f (k : Nat) (a0_0 : Int) (a0_1 : Int) (a0_2 : ByteArray) : Option (Int × Int) := if a0_0 = 2 then (spec_l24Effect.j0 k a0_0 (a0_0 == 2) a0_0 a0_1 a0_2) else (if a0_0 = 3 then (spec_l24Effect.j0 k a0_0 (a0_0 == 3) a0_0 a0_1 a0_2) else (if a0_0 = 4 then (spec_l24Effect.j0 k a0_0 (a0_0 == 4) a0_0 a0_1 a0_2) else (if a0_0 = 5 then (spec_l24Effect.j0 k a0_0 (a0_0 == 5) a0_0 a0_1 a0_2) else (if a0_0 = 6 then (spec_l24Effect.j0 k a0_0 (a0_0 == 6) a0_0 a0_1 a0_2) else (spec_l24Effect.j0 k a0_0 (a0_0 == 7) a0_0 a0_1 a0_2)))))
set_option maxHeartbeats 8000000 in
set_option maxRecDepth 100000 in
theorem spec_l24Effect.calls (k : Nat) (a0_0 : Int) (a0_1 : Int) (a0_2 : ByteArray) (r1 : Int) (r2 : Int) (w : World) (h : spec_l24Effect.f k a0_0 a0_1 a0_2 = some (r1, r2)) :
  Calls Try.prog 118 #[.agg #[.int .i64 a0_0, .int .i64 a0_1, .string a0_2]] w fun e w' => e = .returned (.tuple #[.int .i64 r1, .int .i64 r2]) ∧ Below w.heap.size w w' := by
 have hu106 := Try.underlying106
 have HB := Aside0.mk (Below.refl w.heap.size w)
 have H : (if a0_0 = 2 then (spec_l24Effect.j0 k a0_0 (a0_0 == 2) a0_0 a0_1 a0_2) else (if a0_0 = 3 then (spec_l24Effect.j0 k a0_0 (a0_0 == 3) a0_0 a0_1 a0_2) else (if a0_0 = 4 then (spec_l24Effect.j0 k a0_0 (a0_0 == 4) a0_0 a0_1 a0_2) else (if a0_0 = 5 then (spec_l24Effect.j0 k a0_0 (a0_0 == 5) a0_0 a0_1 a0_2) else (if a0_0 = 6 then (spec_l24Effect.j0 k a0_0 (a0_0 == 6) a0_0 a0_1 a0_2) else (spec_l24Effect.j0 k a0_0 (a0_0 == 7) a0_0 a0_1 a0_2)))))) = some (r1, r2) := h
 clear h
 have HC2 := Aside0.mk H
 clear H
 go_enter Try.func118, Try.ntmps118
 go_upto_if 6 with (first | ((with_reducible refine gate_dst (N := 1) rfl ?_); refine sV (N := 1) (cs := #[.int .i64 a0_0, .int .i64 a0_1, .string a0_2]) (t := 106) ?_; intro gb180 hg w3 hbox hb; have n0_ := sB HB hb; have n1_ := Aside0.mk (hbox); have n2_ := sG HB hg; have n3_ := sG HB hg; clear HB; have HB := n0_; have BK180 := n1_; have GW180 := n2_; have GE180 := n3_; clear n0_ n1_ n2_ n3_; clear hb hbox hg; obtain ⟨hcz4_0, hcz4_1, hcz4_2, hfz4_0, hfz4_1, hfz4_2⟩ := cells3 BK180.out))
 (try simp only [Act.put, List.setIfInBounds_toArray, List.set_cons_zero, List.set_cons_succ])
 go_cut [6] (fun v6 wc => ∃ (kq : Nat) (x6_1 : Bool), v6 = .bool x6_1 ∧ Aside0 (spec_l24Effect.j0 kq a0_0 x6_1 a0_0 a0_1 a0_2 = some (r1, r2)) ∧ Aside0 (kq ≤ k) ∧ Aside0 (wc.heap[gb180]? = some (.cells #[.int .i64 a0_0, .int .i64 a0_1, .string a0_2] 106 (0, 0))) ∧ Aside0 (Below w.heap.size w wc))
 case first =>
  have H := HC2.out
  clear HC2
  by_cases c5 : a0_0 = 2
  ·rw [if_pos c5] at H
   have c5b0 : (a0_0 == 2) = true := beq_iff_eq.mpr c5
   have c5b1 : (a0_0 != 2) = false := bne_eq_false_iff_eq.mpr c5
   clear c5
   (first | rw [c5b0] | (simp only [i64_w, i32_w]; rw [c5b0]) | rw [c5b2] | skip)
   have H' := Aside0.mk H
   clear H
   go_wp2
   go_meet
   case rel => exact ⟨_, ((a0_0 == 2)), sr, H', ⟨by first | omega | exact Nat.le_refl _⟩, ⟨by exact sT BK180.out⟩, ⟨sb⟩⟩
  rw [if_neg c5] at H
  have c5b0 : (a0_0 == 2) = false := beq_eq_false_iff_ne.mpr c5
  have c5b1 : (a0_0 != 2) = true := bne_iff_ne.mpr c5
  (first | rw [c5b0] | (simp only [i64_w, i32_w]; rw [c5b0]) | rw [c5b2] | skip)
  by_cases c6 : a0_0 = 3
  ·rw [if_pos c6] at H
   have c6b0 : (a0_0 == 3) = true := beq_iff_eq.mpr c6
   have c6b1 : (a0_0 != 3) = false := bne_eq_false_iff_eq.mpr c6
   clear c6
   have H' := Aside0.mk H
   clear H
   go_wp2
   go_meet
   case rel => exact ⟨_, ((a0_0 == 3)), sr, H', ⟨by first | omega | exact Nat.le_refl _⟩, ⟨by exact sT BK180.out⟩, ⟨sb⟩⟩
  rw [if_neg c6] at H
  have c6b0 : (a0_0 == 3) = false := beq_eq_false_iff_ne.mpr c6
  have c6b1 : (a0_0 != 3) = true := bne_iff_ne.mpr c6
  by_cases c7 : a0_0 = 4
  ·rw [if_pos c7] at H
   have c7b0 : (a0_0 == 4) = true := beq_iff_eq.mpr c7
   have c7b1 : (a0_0 != 4) = false := bne_eq_false_iff_eq.mpr c7
   clear c7
   have H' := Aside0.mk H
   clear H
   go_wp2
   go_meet
   case rel => exact ⟨_, ((a0_0 == 4)), sr, H', ⟨by first | omega | exact Nat.le_refl _⟩, ⟨by exact sT BK180.out⟩, ⟨sb⟩⟩
  rw [if_neg c7] at H
  have c7b0 : (a0_0 == 4) = false := beq_eq_false_iff_ne.mpr c7
  have c7b1 : (a0_0 != 4) = true := bne_iff_ne.mpr c7
  by_cases c8 : a0_0 = 5
  ·rw [if_pos c8] at H
   have c8b0 : (a0_0 == 5) = true := beq_iff_eq.mpr c8
   have c8b1 : (a0_0 != 5) = false := bne_eq_false_iff_eq.mpr c8
   clear c8
   have H' := Aside0.mk H
   clear H
   go_wp2
   go_meet
   case rel => exact ⟨_, ((a0_0 == 5)), sr, H', ⟨by first | omega | exact Nat.le_refl _⟩, ⟨by exact sT BK180.out⟩, ⟨sb⟩⟩
  rw [if_neg c8] at H
  have c8b0 : (a0_0 == 5) = false := beq_eq_false_iff_ne.mpr c8
  have c8b1 : (a0_0 != 5) = true := bne_iff_ne.mpr c8
  by_cases c9 : a0_0 = 6
  ·rw [if_pos c9] at H
   have c9b0 : (a0_0 == 6) = true := beq_iff_eq.mpr c9
   have c9b1 : (a0_0 != 6) = false := bne_eq_false_iff_eq.mpr c9
   clear c9
   have H' := Aside0.mk H
   clear H
   go_wp2
   go_meet
   case rel => exact ⟨_, ((a0_0 == 6)), sr, H', ⟨by first | omega | exact Nat.le_refl _⟩, ⟨by exact sT BK180.out⟩, ⟨sb⟩⟩
  rw [if_neg c9] at H
  have c9b0 : (a0_0 == 6) = false := beq_eq_false_iff_ne.mpr c9
  have c9b1 : (a0_0 != 6) = true := bne_iff_ne.mpr c9
  have H' := Aside0.mk H
  clear H
  go_wp2
  go_meet
  case rel => exact ⟨_, ((a0_0 == 7)), sr, H', ⟨by first | omega | exact Nat.le_refl _⟩, ⟨by exact sT BK180.out⟩, ⟨sb⟩⟩
 case rest =>
  clear HC2
  try clear c1
  try clear p2
  try clear c5
  try clear c5b0
  try clear c5b1
  try clear c5b2
  try clear c6
  try clear c6b0
  try clear c6b1
  try clear c7
  try clear c7b0
  try clear c7b1
  try clear c8
  try clear c8b0
  try clear c8b1
  try clear c9
  try clear c9b0
  try clear c9b1
  try clear hcz4_0
  try clear hcz4_1
  try clear hcz4_2
  try clear hfz4_0
  try clear hfz4_1
  try clear hfz4_2
  obtain ⟨kq, x6_1, rfl, HA, HJ1, BK180, HB⟩ := hcut
  cases kq with
  | zero => exact absurd HA.out (by simp [spec_l24Effect.j0])
  | succ kj1 =>
   have H := HA.out
   clear HA
   simp only [spec_l24Effect.j0] at H
   by_cases c10 : x6_1 = true
   ·subst c10
    rewrite [if_pos rfl] at H
    simp only [Option.some.injEq, Prod.mk.injEq] at H
    obtain ⟨rfl, rfl⟩ := H
    go_wp2
    go_ret2
    exact ⟨sq, sb⟩
   replace c10 := Bool.eq_false_iff.mpr c10
   subst c10
   rewrite [if_neg (show ¬ (false = true) by decide)] at H
   have HC11 := Aside0.mk H
   clear H
   go_upto_if 13 with (fail)
   go_cut [13] (fun v13 wc => ∃ (kq : Nat) (x13_10 : Bool), v13 = .bool x13_10 ∧ Aside0 (spec_l24Effect.j1 kq a0_0 x13_10 a0_0 a0_1 a0_2 = some (r1, r2)) ∧ Aside0 (kq ≤ kj1) ∧ Aside0 (wc.heap[gb180]? = some (.cells #[.int .i64 a0_0, .int .i64 a0_1, .string a0_2] 106 (0, 0))) ∧ Aside0 (Below w.heap.size w wc))
   case first =>
    have H := HC11.out
    clear HC11
    by_cases c12 : a0_0 = 8
    ·rw [if_pos c12] at H
     have c12b0 : (a0_0 == 8) = true := beq_iff_eq.mpr c12
     have c12b1 : (a0_0 != 8) = false := bne_eq_false_iff_eq.mpr c12
     clear c12
     (first | rw [c12b0] | (simp only [i64_w, i32_w]; rw [c12b0]) | rw [c12b2] | skip)
     have H' := Aside0.mk H
     clear H
     go_wp2
     go_meet
     case rel => exact ⟨_, ((a0_0 == 8)), sr, H', ⟨by have := HJ1.out; first | omega | exact Nat.le_refl _⟩, ⟨by exact sT BK180.out⟩, ⟨sb⟩⟩
    rw [if_neg c12] at H
    have c12b0 : (a0_0 == 8) = false := beq_eq_false_iff_ne.mpr c12
    have c12b1 : (a0_0 != 8) = true := bne_iff_ne.mpr c12
    (first | rw [c12b0] | (simp only [i64_w, i32_w]; rw [c12b0]) | rw [c12b2] | skip)
    have H' := Aside0.mk H
    clear H
    go_wp2
    go_meet
    case rel => exact ⟨_, ((a0_0 == 12)), sr, H', ⟨by have := HJ1.out; first | omega | exact Nat.le_refl _⟩, ⟨by exact sT BK180.out⟩, ⟨sb⟩⟩
   case rest =>
    clear HC11
    try clear c1
    try clear p2
    try clear c5
    try clear c5b0
    try clear c5b1
    try clear c5b2
    try clear c6
    try clear c6b0
    try clear c6b1
    try clear c7
    try clear c7b0
    try clear c7b1
    try clear c8
    try clear c8b0
    try clear c8b1
    try clear c9
    try clear c9b0
    try clear c9b1
    try clear c10
    try clear c11
    try clear c12
    try clear c12b0
    try clear c12b1
    try clear c12b2
    try clear hcz4_0
    try clear hcz4_1
    try clear hcz4_2
    try clear hfz4_0
    try clear hfz4_1
    try clear hfz4_2
    try clear p2
    obtain ⟨kq, x13_10, rfl, HA, HJ10, BK180, HB⟩ := hcut
    cases kq with
    | zero => exact absurd HA.out (by simp [spec_l24Effect.j1])
    | succ kj10 =>
     have H := HA.out
     clear HA
     simp only [spec_l24Effect.j1] at H
     by_cases c13 : x13_10 = true
     ·subst c13
      rewrite [if_pos rfl] at H
      simp only [Option.some.injEq, Prod.mk.injEq] at H
      obtain ⟨rfl, rfl⟩ := H
      go_wp2
      go_ret2
      exact ⟨sq, sb⟩
     replace c13 := Bool.eq_false_iff.mpr c13
     subst c13
     rewrite [if_neg (show ¬ (false = true) by decide)] at H
     have HC14 := Aside0.mk H
     clear H
     go_upto_if 16 with (fail)
     go_cut [16] (fun v16 wc => ∃ (kq : Nat) (x16_13 : Bool), v16 = .bool x16_13 ∧ Aside0 (spec_l24Effect.j2 kq a0_0 x16_13 a0_0 a0_1 a0_2 = some (r1, r2)) ∧ Aside0 (kq ≤ kj10) ∧ Aside0 (wc.heap[gb180]? = some (.cells #[.int .i64 a0_0, .int .i64 a0_1, .string a0_2] 106 (0, 0))) ∧ Aside0 (Below w.heap.size w wc))
     case first =>
      have H := HC14.out
      clear HC14
      by_cases c15 : a0_0 = 9
      ·rw [if_pos c15] at H
       have c15b0 : (a0_0 == 9) = true := beq_iff_eq.mpr c15
       have c15b1 : (a0_0 != 9) = false := bne_eq_false_iff_eq.mpr c15
       clear c15
       (first | rw [c15b0] | (simp only [i64_w, i32_w]; rw [c15b0]) | rw [c15b2] | skip)
       have H' := Aside0.mk H
       clear H
       go_wp2
       go_meet
       case rel => exact ⟨_, ((a0_0 == 9)), sr, H', ⟨by have := HJ1.out; have := HJ10.out; first | omega | exact Nat.le_refl _⟩, ⟨by exact sT BK180.out⟩, ⟨sb⟩⟩
      rw [if_neg c15] at H
      have c15b0 : (a0_0 == 9) = false := beq_eq_false_iff_ne.mpr c15
      have c15b1 : (a0_0 != 9) = true := bne_iff_ne.mpr c15
      (first | rw [c15b0] | (simp only [i64_w, i32_w]; rw [c15b0]) | rw [c15b2] | skip)
      by_cases c16 : a0_0 = 10
      ·rw [if_pos c16] at H
       have c16b0 : (a0_0 == 10) = true := beq_iff_eq.mpr c16
       have c16b1 : (a0_0 != 10) = false := bne_eq_false_iff_eq.mpr c16
       clear c16
       have H' := Aside0.mk H
       clear H
       go_wp2
       go_meet
       case rel => exact ⟨_, ((a0_0 == 10)), sr, H', ⟨by have := HJ1.out; have := HJ10.out; first | omega | exact Nat.le_refl _⟩, ⟨by exact sT BK180.out⟩, ⟨sb⟩⟩
      rw [if_neg c16] at H
      have c16b0 : (a0_0 == 10) = false := beq_eq_false_iff_ne.mpr c16
      have c16b1 : (a0_0 != 10) = true := bne_iff_ne.mpr c16
      by_cases c17 : a0_0 = 11
      ·rw [if_pos c17] at H
       have c17b0 : (a0_0 == 11) = true := beq_iff_eq.mpr c17
       have c17b1 : (a0_0 != 11) = false := bne_eq_false_iff_eq.mpr c17
       clear c17
       have H' := Aside0.mk H
       clear H
       go_wp2
       go_meet
       case rel => exact ⟨_, ((a0_0 == 11)), sr, H', ⟨by have := HJ1.out; have := HJ10.out; first | omega | exact Nat.le_refl _⟩, ⟨by exact sT BK180.out⟩, ⟨sb⟩⟩
      rw [if_neg c17] at H
      have c17b0 : (a0_0 == 11) = false := beq_eq_false_iff_ne.mpr c17
      have c17b1 : (a0_0 != 11) = true := bne_iff_ne.mpr c17
      have H' := Aside0.mk H
      clear H
      go_wp2
      go_meet
      case rel => exact ⟨_, ((a0_0 == 15)), sr, H', ⟨by have := HJ1.out; have := HJ10.out; first | omega | exact Nat.le_refl _⟩, ⟨by exact sT BK180.out⟩, ⟨sb⟩⟩
     case rest =>
      clear HC14
      try clear c1
      try clear p2
      try clear c5
      try clear c5b0
      try clear c5b1
      try clear c5b2
      try clear c6
      try clear c6b0
      try clear c6b1
      try clear c7
      try clear c7b0
      try clear c7b1
      try clear c8
      try clear c8b0
      try clear c8b1
      try clear c9
      try clear c9b0
      try clear c9b1
      try clear c10
      try clear c11
      try clear c12
      try clear c12b0
      try clear c12b1
      try clear c12b2
      try clear c13
      try clear c15
      try clear c15b0
      try clear c15b1
      try clear c15b2
      try clear c16
      try clear c16b0
      try clear c16b1
      try clear c17
      try clear c17b0
      try clear c17b1
      try clear hcz4_0
      try clear hcz4_1
      try clear hcz4_2
      try clear hfz4_0
      try clear hfz4_1
      try clear hfz4_2
      try clear p2
      obtain ⟨kq, x16_13, rfl, HA, HJ13, BK180, HB⟩ := hcut
      cases kq with
      | zero => exact absurd HA.out (by simp [spec_l24Effect.j2])
      | succ kj13 =>
       have H := HA.out
       clear HA
       simp only [spec_l24Effect.j2] at H
       by_cases c18 : x16_13 = true
       ·subst c18
        rewrite [if_pos rfl] at H
        simp only [Option.some.injEq, Prod.mk.injEq] at H
        obtain ⟨rfl, rfl⟩ := H
        go_wp2
        go_ret2
        exact ⟨sq, sb⟩
       replace c18 := Bool.eq_false_iff.mpr c18
       subst c18
       rewrite [if_neg (show ¬ (false = true) by decide)] at H
       by_cases c19 : a0_0 = 13
       ·rw [if_pos c19] at H
        have c19b0 : (a0_0 == 13) = true := beq_iff_eq.mpr c19
        have c19b1 : (a0_0 != 13) = false := bne_eq_false_iff_eq.mpr c19
        clear c19
        simp only [Option.some.injEq, Prod.mk.injEq] at H
        obtain ⟨rfl, rfl⟩ := H
        obtain ⟨hcz20_0, hcz20_1, hcz20_2, hfz20_0, hfz20_1, hfz20_2⟩ := cells3 BK180.out
        go_wp2
        go_ret2
        exact ⟨sq, sb⟩
       rw [if_neg c19] at H
       have c19b0 : (a0_0 == 13) = false := beq_eq_false_iff_ne.mpr c19
       have c19b1 : (a0_0 != 13) = true := bne_iff_ne.mpr c19
       have HC21 := Aside0.mk H
       clear H
       go_upto_if 25 with (fail)
       go_cut [25] (fun v25 wc => ∃ (kq : Nat) (x25_20 : Bool), v25 = .bool x25_20 ∧ Aside0 (spec_l24Effect.j3 kq a0_0 x25_20 = some (r1, r2)) ∧ Aside0 (kq ≤ kj13) ∧ Aside0 (wc.heap[gb180]? = some (.cells #[.int .i64 a0_0, .int .i64 a0_1, .string a0_2] 106 (0, 0))) ∧ Aside0 (Below w.heap.size w wc))
       case first =>
        have H := HC21.out
        clear HC21
        by_cases c22 : a0_0 = 14
        ·rw [if_pos c22] at H
         have c22b0 : (a0_0 == 14) = true := beq_iff_eq.mpr c22
         have c22b1 : (a0_0 != 14) = false := bne_eq_false_iff_eq.mpr c22
         clear c22
         (first | rw [c22b0] | (simp only [i64_w, i32_w]; rw [c22b0]) | rw [c22b2] | skip)
         have H' := Aside0.mk H
         clear H
         go_wp2
         go_meet
         case rel => exact ⟨_, ((a0_0 == 14)), sr, H', ⟨by have := HJ1.out; have := HJ10.out; have := HJ13.out; first | omega | exact Nat.le_refl _⟩, ⟨by exact sT BK180.out⟩, ⟨sb⟩⟩
        rw [if_neg c22] at H
        have c22b0 : (a0_0 == 14) = false := beq_eq_false_iff_ne.mpr c22
        have c22b1 : (a0_0 != 14) = true := bne_iff_ne.mpr c22
        (first | rw [c22b0] | (simp only [i64_w, i32_w]; rw [c22b0]) | rw [c22b2] | skip)
        have H' := Aside0.mk H
        clear H
        go_wp2
        go_meet
        case rel => exact ⟨_, ((a0_0 == 17)), sr, H', ⟨by have := HJ1.out; have := HJ10.out; have := HJ13.out; first | omega | exact Nat.le_refl _⟩, ⟨by exact sT BK180.out⟩, ⟨sb⟩⟩
       case rest =>
        clear HC21
        try clear c1
        try clear c2
        try clear p2
        try clear c5
        try clear c5b0
        try clear c5b1
        try clear c5b2
        try clear c6
        try clear c6b0
        try clear c6b1
        try clear c7
        try clear c7b0
        try clear c7b1
        try clear c8
        try clear c8b0
        try clear c8b1
        try clear c9
        try clear c9b0
        try clear c9b1
        try clear c10
        try clear c11
        try clear c12
        try clear c12b0
        try clear c12b1
        try clear c12b2
        try clear c13
        try clear c15
        try clear c15b0
        try clear c15b1
        try clear c15b2
        try clear c16
        try clear c16b0
        try clear c16b1
        try clear c17
        try clear c17b0
        try clear c17b1
        try clear c18
        try clear c19
        try clear c19b0
        try clear c19b1
        try clear c22
        try clear c22b0
        try clear c22b1
        try clear c22b2
        try clear hcz20_0
        try clear hcz20_1
        try clear hcz20_2
        try clear hcz4_0
        try clear hcz4_1
        try clear hcz4_2
        try clear hfz20_0
        try clear hfz20_1
        try clear hfz20_2
        try clear hfz4_0
        try clear hfz4_1
        try clear hfz4_2
        try clear p2
        obtain ⟨kq, x25_20, rfl, HA, HJ20, BK180, HB⟩ := hcut
        cases kq with
        | zero => exact absurd HA.out (by simp [spec_l24Effect.j3])
        | succ kj20 =>
         have H := HA.out
         clear HA
         simp only [spec_l24Effect.j3] at H
         by_cases c23 : x25_20 = true
         ·subst c23
          rewrite [if_pos rfl] at H
          simp only [Option.some.injEq, Prod.mk.injEq] at H
          obtain ⟨rfl, rfl⟩ := H
          go_wp2
          go_ret2
          exact ⟨sq, sb⟩
         replace c23 := Bool.eq_false_iff.mpr c23
         subst c23
         rewrite [if_neg (show ¬ (false = true) by decide)] at H
         have HC24 := Aside0.mk H
         clear H
         go_upto_if 28 with (fail)
         go_cut [28] (fun v28 wc => ∃ (kq : Nat) (x28_23 : Bool), v28 = .bool x28_23 ∧ Aside0 (spec_l24Effect.j4 kq a0_0 x28_23 = some (r1, r2)) ∧ Aside0 (kq ≤ kj20) ∧ Aside0 (wc.heap[gb180]? = some (.cells #[.int .i64 a0_0, .int .i64 a0_1, .string a0_2] 106 (0, 0))) ∧ Aside0 (Below w.heap.size w wc))
         case first =>
          have H := HC24.out
          clear HC24
          by_cases c25 : a0_0 = 18
          ·rw [if_pos c25] at H
           have c25b0 : (a0_0 == 18) = true := beq_iff_eq.mpr c25
           have c25b1 : (a0_0 != 18) = false := bne_eq_false_iff_eq.mpr c25
           clear c25
           (first | rw [c25b0] | (simp only [i64_w, i32_w]; rw [c25b0]) | rw [c25b2] | skip)
           have H' := Aside0.mk H
           clear H
           go_wp2
           go_meet
           case rel => exact ⟨_, ((a0_0 == 18)), sr, H', ⟨by have := HJ1.out; have := HJ10.out; have := HJ13.out; have := HJ20.out; first | omega | exact Nat.le_refl _⟩, ⟨by exact sT BK180.out⟩, ⟨sb⟩⟩
          rw [if_neg c25] at H
          have c25b0 : (a0_0 == 18) = false := beq_eq_false_iff_ne.mpr c25
          have c25b1 : (a0_0 != 18) = true := bne_iff_ne.mpr c25
          (first | rw [c25b0] | (simp only [i64_w, i32_w]; rw [c25b0]) | rw [c25b2] | skip)
          by_cases c26 : a0_0 = 20
          ·rw [if_pos c26] at H
           have c26b0 : (a0_0 == 20) = true := beq_iff_eq.mpr c26
           have c26b1 : (a0_0 != 20) = false := bne_eq_false_iff_eq.mpr c26
           clear c26
           have H' := Aside0.mk H
           clear H
           go_wp2
           go_meet
           case rel => exact ⟨_, ((a0_0 == 20)), sr, H', ⟨by have := HJ1.out; have := HJ10.out; have := HJ13.out; have := HJ20.out; first | omega | exact Nat.le_refl _⟩, ⟨by exact sT BK180.out⟩, ⟨sb⟩⟩
          rw [if_neg c26] at H
          have c26b0 : (a0_0 == 20) = false := beq_eq_false_iff_ne.mpr c26
          have c26b1 : (a0_0 != 20) = true := bne_iff_ne.mpr c26
          have H' := Aside0.mk H
          clear H
          go_wp2
          go_meet
          case rel => exact ⟨_, ((a0_0 == 24)), sr, H', ⟨by have := HJ1.out; have := HJ10.out; have := HJ13.out; have := HJ20.out; first | omega | exact Nat.le_refl _⟩, ⟨by exact sT BK180.out⟩, ⟨sb⟩⟩
         case rest =>
          clear HC24
          try clear c1
          try clear c2
          try clear p2
          try clear c5
          try clear c5b0
          try clear c5b1
          try clear c5b2
          try clear c6
          try clear c6b0
          try clear c6b1
          try clear c7
          try clear c7b0
          try clear c7b1
          try clear c8
          try clear c8b0
          try clear c8b1
          try clear c9
          try clear c9b0
          try clear c9b1
          try clear c10
          try clear c11
          try clear c12
          try clear c12b0
          try clear c12b1
          try clear c12b2
          try clear c13
          try clear c15
          try clear c15b0
          try clear c15b1
          try clear c15b2
          try clear c16
          try clear c16b0
          try clear c16b1
          try clear c17
          try clear c17b0
          try clear c17b1
          try clear c18
          try clear c19
          try clear c19b0
          try clear c19b1
          try clear c22
          try clear c22b0
          try clear c22b1
          try clear c22b2
          try clear c23
          try clear c25
          try clear c25b0
          try clear c25b1
          try clear c25b2
          try clear c26
          try clear c26b0
          try clear c26b1
          try clear hcz20_0
          try clear hcz20_1
          try clear hcz20_2
          try clear hcz4_0
          try clear hcz4_1
          try clear hcz4_2
          try clear hfz20_0
          try clear hfz20_1
          try clear hfz20_2
          try clear hfz4_0
          try clear hfz4_1
          try clear hfz4_2
          try clear p2
          obtain ⟨kq, x28_23, rfl, HA, HJ23, BK180, HB⟩ := hcut
          cases kq with
          | zero => exact absurd HA.out (by simp [spec_l24Effect.j4])
          | succ kj23 =>
           have H := HA.out
           clear HA
           simp only [spec_l24Effect.j4] at H
           by_cases c27 : x28_23 = true
           ·subst c27
            rewrite [if_pos rfl] at H
            simp only [Option.some.injEq, Prod.mk.injEq] at H
            obtain ⟨rfl, rfl⟩ := H
            go_wp2
            go_ret2
            exact ⟨sq, sb⟩
           replace c27 := Bool.eq_false_iff.mpr c27
           subst c27
           rewrite [if_neg (show ¬ (false = true) by decide)] at H
           by_cases c28 : a0_0 = 19
           ·rw [if_pos c28] at H
            have c28b0 : (a0_0 == 19) = true := beq_iff_eq.mpr c28
            have c28b1 : (a0_0 != 19) = false := bne_eq_false_iff_eq.mpr c28
            clear c28
            simp only [Option.some.injEq, Prod.mk.injEq] at H
            obtain ⟨rfl, rfl⟩ := H
            go_wp2
            go_ret2
            exact ⟨sq, sb⟩
           rw [if_neg c28] at H
           have c28b0 : (a0_0 == 19) = false := beq_eq_false_iff_ne.mpr c28
           have c28b1 : (a0_0 != 19) = true := bne_iff_ne.mpr c28
           have HC29 := Aside0.mk H
           clear H
           go_upto_if 34 with (fail)
           go_cut [34] (fun v34 wc => ∃ (kq : Nat) (x34_28 : Bool), v34 = .bool x34_28 ∧ Aside0 (spec_l24Effect.j5 kq a0_0 x34_28 = some (r1, r2)) ∧ Aside0 (kq ≤ kj23) ∧ Aside0 (wc.heap[gb180]? = some (.cells #[.int .i64 a0_0, .int .i64 a0_1, .string a0_2] 106 (0, 0))) ∧ Aside0 (Below w.heap.size w wc))
           case first =>
            have H := HC29.out
            clear HC29
            by_cases c30 : a0_0 = 21
            ·rw [if_pos c30] at H
             have c30b0 : (a0_0 == 21) = true := beq_iff_eq.mpr c30
             have c30b1 : (a0_0 != 21) = false := bne_eq_false_iff_eq.mpr c30
             clear c30
             (first | rw [c30b0] | (simp only [i64_w, i32_w]; rw [c30b0]) | rw [c30b2] | skip)
             have H' := Aside0.mk H
             clear H
             go_wp2
             go_meet
             case rel => exact ⟨_, ((a0_0 == 21)), sr, H', ⟨by have := HJ1.out; have := HJ10.out; have := HJ13.out; have := HJ20.out; have := HJ23.out; first | omega | exact Nat.le_refl _⟩, ⟨by exact sT BK180.out⟩, ⟨sb⟩⟩
            rw [if_neg c30] at H
            have c30b0 : (a0_0 == 21) = false := beq_eq_false_iff_ne.mpr c30
            have c30b1 : (a0_0 != 21) = true := bne_iff_ne.mpr c30
            (first | rw [c30b0] | (simp only [i64_w, i32_w]; rw [c30b0]) | rw [c30b2] | skip)
            have H' := Aside0.mk H
            clear H
            go_wp2
            go_meet
            case rel => exact ⟨_, ((a0_0 == 23)), sr, H', ⟨by have := HJ1.out; have := HJ10.out; have := HJ13.out; have := HJ20.out; have := HJ23.out; first | omega | exact Nat.le_refl _⟩, ⟨by exact sT BK180.out⟩, ⟨sb⟩⟩
           case rest =>
            clear HC29
            try clear c1
            try clear c2
            try clear p2
            try clear c3
            try clear c5
            try clear c5b0
            try clear c5b1
            try clear c5b2
            try clear c6
            try clear c6b0
            try clear c6b1
            try clear c7
            try clear c7b0
            try clear c7b1
            try clear c8
            try clear c8b0
            try clear c8b1
            try clear c9
            try clear c9b0
            try clear c9b1
            try clear c10
            try clear c11
            try clear c12
            try clear c12b0
            try clear c12b1
            try clear c12b2
            try clear c13
            try clear c15
            try clear c15b0
            try clear c15b1
            try clear c15b2
            try clear c16
            try clear c16b0
            try clear c16b1
            try clear c17
            try clear c17b0
            try clear c17b1
            try clear c18
            try clear c19
            try clear c19b0
            try clear c19b1
            try clear c22
            try clear c22b0
            try clear c22b1
            try clear c22b2
            try clear c23
            try clear c25
            try clear c25b0
            try clear c25b1
            try clear c25b2
            try clear c26
            try clear c26b0
            try clear c26b1
            try clear c27
            try clear c28
            try clear c28b0
            try clear c28b1
            try clear c30
            try clear c30b0
            try clear c30b1
            try clear c30b2
            try clear hcz20_0
            try clear hcz20_1
            try clear hcz20_2
            try clear hcz4_0
            try clear hcz4_1
            try clear hcz4_2
            try clear hfz20_0
            try clear hfz20_1
            try clear hfz20_2
            try clear hfz4_0
            try clear hfz4_1
            try clear hfz4_2
            try clear p2
            obtain ⟨kq, x34_28, rfl, HA, HJ28, BK180, HB⟩ := hcut
            cases kq with
            | zero => exact absurd HA.out (by simp [spec_l24Effect.j5])
            | succ kj28 =>
             have H := HA.out
             clear HA
             simp only [spec_l24Effect.j5] at H
             by_cases c31 : x34_28 = true
             ·subst c31
              rewrite [if_pos rfl] at H
              simp only [Option.some.injEq, Prod.mk.injEq] at H
              obtain ⟨rfl, rfl⟩ := H
              go_wp2
              go_ret2
              exact ⟨sq, sb⟩
             replace c31 := Bool.eq_false_iff.mpr c31
             subst c31
             rewrite [if_neg (show ¬ (false = true) by decide)] at H
             have HC32 := Aside0.mk H
             clear H
             go_upto_if 37 with (fail)
             go_cut [37] (fun v37 wc => ∃ (kq : Nat) (x37_31 : Bool), v37 = .bool x37_31 ∧ Aside0 (spec_l24Effect.j6 kq a0_0 x37_31 = some (r1, r2)) ∧ Aside0 (kq ≤ kj28) ∧ Aside0 (wc.heap[gb180]? = some (.cells #[.int .i64 a0_0, .int .i64 a0_1, .string a0_2] 106 (0, 0))) ∧ Aside0 (Below w.heap.size w wc))
             case first =>
              have H := HC32.out
              clear HC32
              by_cases c33 : a0_0 = 22
              ·rw [if_pos c33] at H
               have c33b0 : (a0_0 == 22) = true := beq_iff_eq.mpr c33
               have c33b1 : (a0_0 != 22) = false := bne_eq_false_iff_eq.mpr c33
               clear c33
               (first | rw [c33b0] | (simp only [i64_w, i32_w]; rw [c33b0]) | rw [c33b2] | skip)
               have H' := Aside0.mk H
               clear H
               go_wp2
               go_meet
               case rel => exact ⟨_, ((a0_0 == 22)), sr, H', ⟨by have := HJ1.out; have := HJ10.out; have := HJ13.out; have := HJ20.out; have := HJ23.out; have := HJ28.out; first | omega | exact Nat.le_refl _⟩, ⟨by exact sT BK180.out⟩, ⟨sb⟩⟩
              rw [if_neg c33] at H
              have c33b0 : (a0_0 == 22) = false := beq_eq_false_iff_ne.mpr c33
              have c33b1 : (a0_0 != 22) = true := bne_iff_ne.mpr c33
              (first | rw [c33b0] | (simp only [i64_w, i32_w]; rw [c33b0]) | rw [c33b2] | skip)
              have H' := Aside0.mk H
              clear H
              go_wp2
              go_meet
              case rel => exact ⟨_, ((a0_0 == 25)), sr, H', ⟨by have := HJ1.out; have := HJ10.out; have := HJ13.out; have := HJ20.out; have := HJ23.out; have := HJ28.out; first | omega | exact Nat.le_refl _⟩, ⟨by exact sT BK180.out⟩, ⟨sb⟩⟩
             case rest =>
              clear HC32
              try clear c1
              try clear c2
              try clear p2
              try clear c3
              try clear c5
              try clear c5b0
              try clear c5b1
              try clear c5b2
              try clear c6
              try clear c6b0
              try clear c6b1
              try clear c7
              try clear c7b0
              try clear c7b1
              try clear c8
              try clear c8b0
              try clear c8b1
              try clear c9
              try clear c9b0
              try clear c9b1
              try clear c10
              try clear c11
              try clear c12
              try clear c12b0
              try clear c12b1
              try clear c12b2
              try clear c13
              try clear c15
              try clear c15b0
              try clear c15b1
              try clear c15b2
              try clear c16
              try clear c16b0
              try clear c16b1
              try clear c17
              try clear c17b0
              try clear c17b1
              try clear c18
              try clear c19
              try clear c19b0
              try clear c19b1
              try clear c22
              try clear c22b0
              try clear c22b1
              try clear c22b2
              try clear c23
              try clear c25
              try clear c25b0
              try clear c25b1
              try clear c25b2
              try clear c26
              try clear c26b0
              try clear c26b1
              try clear c27
              try clear c28
              try clear c28b0
              try clear c28b1
              try clear c30
              try clear c30b0
              try clear c30b1
              try clear c30b2
              try clear c31
              try clear c33
              try clear c33b0
              try clear c33b1
              try clear c33b2
              try clear hcz20_0
              try clear hcz20_1
              try clear hcz20_2
              try clear hcz4_0
              try clear hcz4_1
              try clear hcz4_2
              try clear hfz20_0
              try clear hfz20_1
              try clear hfz20_2
              try clear hfz4_0
              try clear hfz4_1
              try clear hfz4_2
              try clear p2
              obtain ⟨kq, x37_31, rfl, HA, HJ31, BK180, HB⟩ := hcut
              cases kq with
              | zero => exact absurd HA.out (by simp [spec_l24Effect.j6])
              | succ kj31 =>
               have H := HA.out
               clear HA
               simp only [spec_l24Effect.j6] at H
               by_cases c34 : x37_31 = true
               ·subst c34
                rewrite [if_pos rfl] at H
                simp only [Option.some.injEq, Prod.mk.injEq] at H
                obtain ⟨rfl, rfl⟩ := H
                go_wp2
                go_ret2
                exact ⟨sq, sb⟩
               replace c34 := Bool.eq_false_iff.mpr c34
               subst c34
               rewrite [if_neg (show ¬ (false = true) by decide)] at H
               by_cases c35 : a0_0 = 26
               ·rw [if_pos c35] at H
                have c35b0 : (a0_0 == 26) = true := beq_iff_eq.mpr c35
                have c35b1 : (a0_0 != 26) = false := bne_eq_false_iff_eq.mpr c35
                clear c35
                simp only [Option.some.injEq, Prod.mk.injEq] at H
                obtain ⟨rfl, rfl⟩ := H
                go_wp2
                go_ret2
                exact ⟨sq, sb⟩
               rw [if_neg c35] at H
               have c35b0 : (a0_0 == 26) = false := beq_eq_false_iff_ne.mpr c35
               have c35b1 : (a0_0 != 26) = true := bne_iff_ne.mpr c35
               simp only [Option.some.injEq, Prod.mk.injEq] at H
               obtain ⟨rfl, rfl⟩ := H
               go_wp2
               go_ret2
               exact ⟨sq, sb⟩
end Go.Proofs.Ytabbpnkbhapibaa.PFnExactValidInstr
