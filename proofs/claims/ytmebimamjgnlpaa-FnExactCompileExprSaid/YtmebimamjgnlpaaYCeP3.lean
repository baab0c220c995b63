/- Printed functions: spec_l03Size, spec_l01Printable. -/
import Derived.Test.YtmebimamjgnlpaaYCeP0
namespace Go.Proofs.Ytmebimamjgnlpaa.PFnExactCompileExpr
open Go.RowKit Go.Proofs.YtmebimamjgnlpaaG Go.Proofs.YtmebimamjgnlpaaW.PrintWords Go.Proofs.YtmebimamjgnlpaaW.PrintLast Go.Proofs.YtmebimamjgnlpaaW.PrintMore
attribute [local go_sem] max2_int min2_int max_two min_two max_three min_three max_four min_four   -- for this text's walks alone
set_option linter.unusedVariables false
set_option linter.unusedSimpArgs false
/-! ### spec_l03Size: function 73 -/
mutual
def spec_l03Size.l0 : Nat → List (S26) → Int → Int → Option (Int)
 | 0, _, _, _ => none
 | k + 1, x0, x3, x4 => if 0 < (x0.length : Int) then (if x4 < (((rd_T26 x0 0).f3).length : Int) then (if x3 ≤ 60 then (if 0 ≤ x4 then ((spec_l03Size.f k [rd_T26 ((rd_T26 x0 0).f3) x4]).bind fun t125 => (spec_l03Size.l0 k x0 (wrap64 (x3 + t125)) (wrap64 (x4 + 1)))) else (none)) else (some x3)) else (some x3)) else (none)
def spec_l03Size.f : Nat → List (S26) → Option (Int)
 | 0, _ => none
 | k + 1, l0 => spec_l03Size.l0 k l0 1 0
end
set_option maxHeartbeats 8000000 in
set_option maxRecDepth 100000 in
theorem spec_l03Size.calls (k : Nat) : ∀ (A0 : Option Addr) (l0 : List (S26)) (r : Int) (w : World) (hr0 : Kd.C k26 w A0 l0.length l0) (h : spec_l03Size.f k l0 = some r),
  Calls Try.prog 73 #[.pointer A0] w fun e w' => e = .returned (.int .i64 r) ∧ Drawn0 w w' := by
 induction k using Nat.strongRecOn with
 | _ k ih =>
 intro A0 l0 r w hr0 h
 cases k with
 | zero => exact absurd h (by simp [spec_l03Size.f])
 | succ k =>
 simp only [spec_l03Size.f] at h
 have HR0 := Aside0.mk hr0
 have HC0 := Aside0.mk (Nat.le_refl l0.length)
 clear hr0
 have H : (spec_l03Size.l0 k l0 1 0) = some r := h
 clear h
 have H' := Aside0.mk H
 clear H
 go_enter Try.func73, Try.ntmps73
 go_wp2
 go_loopg [3, 4] k (fun kq v3 v4 w' => ∃ (x3_1 : Int) (x4_1 : Int), v3 = .int .i64 x3_1 ∧ v4 = .int .i64 x4_1 ∧ Aside0 (spec_l03Size.l0 kq l0 x3_1 x4_1 = some r) ∧ Aside0 (kq ≤ k) ∧ Drawn0 w w')
 case atStart => exact ⟨(1), (0), sr, sr, H', ⟨Nat.le_refl _⟩, by repeat (first | exact Drawn0.refl _ | apply Drawn0.step)⟩
 case round =>
  clear H'
  obtain ⟨x3_1, x4_1, rfl, rfl, HA, HK1, ⟨m1, rfl⟩⟩ := hrel
  cases gk with
  | zero => exact absurd HA.out (by simp [spec_l03Size.l0])
  | succ k1 =>
   have H := HA.out
   clear HA
   simp only [spec_l03Size.l0] at H
   by_cases c2 : 0 < (l0.length : Int)
   ·rw [if_pos c2] at H
    have c2b0 := decide_eq_true c2
    have c2b1 : decide (0 < l0.length) = true := decide_eq_true (by omega)
    clear c2
    by_cases c3 : x4_1 < (((rd_T26 l0 0).f3).length : Int)
    ·rw [if_pos c3] at H
     have c3b0 := decide_eq_true c3
     clear c3
     by_cases c4 : x3_1 ≤ 60
     ·rw [if_pos c4] at H
      have c4b0 := decide_eq_true c4
      clear c4
      by_cases c5 : 0 ≤ x4_1
      ·rw [if_pos c5] at H
       have c5b0 := decide_eq_true c5
       clear c5
       obtain ⟨t125, A6, H⟩ := sO H
       have H' := Aside0.mk H
       clear H
       have p122 : 0 ≤ (0 : Int) := (by omega)
       have q122 : 0 < (l0.length : Int) := of_decide_eq_true (by first | (with_reducible assumption) | assumption)
       obtain ⟨ad122, A122_3, c122_3, e122, hx122_0, hx122_1, hx122_2, hx122_3, hl122_3, hi122_3⟩ := at_T26 HR0.out 0 p122 q122
       cases e122
       have qi122 : (0 < l0.length) = True := eq_true (by omega)
       (try rw [sZ] at hx122_0)
       (try rw [sZ] at hx122_1)
       (try rw [sZ] at hx122_2)
       (try rw [sZ] at hx122_3)
       have HR122_3 := Aside0.mk hi122_3
       have HC122_3 := Aside0.mk hl122_3
       clear hi122_3 hl122_3
       replace p122 := eq_true p122
       replace q122 := eq_true q122
       have p123 : 0 ≤ (0 : Int) := (by omega)
       have q123 : 0 < (l0.length : Int) := of_decide_eq_true (by first | (with_reducible assumption) | assumption)
       obtain ⟨ad123, A123_3, c123_3, e123, hx123_0, hx123_1, hx123_2, hx123_3, hl123_3, hi123_3⟩ := at_T26 HR0.out 0 p123 q123
       obtain rfl : ad122 = ad123 := (by injection e123)
       have qi123 : (0 < l0.length) = True := eq_true (by omega)
       (try rw [sZ] at hx123_0)
       (try rw [sZ] at hx123_1)
       (try rw [sZ] at hx123_2)
       (try rw [sZ] at hx123_3)
       have HR123_3 := Aside0.mk hi123_3
       have HC123_3 := Aside0.mk hl123_3
       clear hi123_3 hl123_3
       replace p123 := eq_true p123
       replace q123 := eq_true q123
       have ea_ := Option.some.inj (hx122_3.symm.trans hx123_3)
       injection ea_ with ea_ en_ ec_
       subst ea_
       subst ec_
       clear en_
       have p124 : 0 ≤ (x4_1 : Int) := of_decide_eq_true (by first | (with_reducible assumption) | assumption)
       have q124 : x4_1 < (((rd_T26 l0 0).f3).length : Int) := of_decide_eq_true (by first | (with_reducible assumption) | assumption)
       obtain ⟨ad124, A124_3, c124_3, e124, hx124_0, hx124_1, hx124_2, hx124_3, hl124_3, hi124_3⟩ := at_T26 HR123_3.out x4_1 p124 q124
       cases e124
       have HR124_3 := Aside0.mk hi124_3
       have HC124_3 := Aside0.mk hl124_3
       clear hi124_3 hl124_3
       replace p124 := eq_true p124
       replace q124 := eq_true q124
       go_wp2_with (first | ((with_reducible refine gate_callee (f := 73) rfl ?_); refine goesL_ (some 25) rfl rfl Try.func73 (by kernel_rfl) rfl #[.pointer (some (ad124.add ((x4_1).toNat * 4)))] rfl (by (try simp only [List.map_toArray, List.map_cons, List.map_nil]); first | done | rfl | (simp only [List.length_drop, List.length_take]; rfl)) ?_; (with_reducible refine (ih k1 (by have := HK1.out; omega) _ [rd_T26 ((rd_T26 l0 0).f3) x4_1] t125 _ ?side1 A6.out).mono ?_); (case side1 => first | exact (C_one (by exact sD HR123_3.out) z26 (x4_1 : Int) (of_eq_true p124) (by have h_ := q124; first | exact of_eq_true h_ | exact h_ | exact of_decide_eq_true (by assumption))) | (have h_ := (C_one (by exact sD HR123_3.out) z26 (x4_1 : Int) (of_eq_true p124) (by have h_ := q124; first | exact of_eq_true h_ | exact h_ | exact of_decide_eq_true (by assumption))); first | exact h_ | simpa using h_)); rintro e w' ⟨rfl, ⟨nd, rfl⟩⟩; refine ⟨_, rfl, ?_⟩))
       go_roundg k1
       case measure => have := HK1.out; omega
       case rel => exact ⟨(wrap64 (x3_1 + t125)), (wrap64 (x4_1 + 1)), sr, sr, H', ⟨by have := HK1.out; omega⟩, by repeat (first | exact Drawn0.refl _ | apply Drawn0.step)⟩
      rw [if_neg c5] at H
      exact absurd H (by simp)
     rw [if_neg c4] at H
     have c4b0 := decide_eq_false c4
     clear c4
     obtain rfl := Option.some.inj H
     have p122 : 0 ≤ (0 : Int) := (by omega)
     have q122 : 0 < (l0.length : Int) := of_decide_eq_true (by first | (with_reducible assumption) | assumption)
     obtain ⟨ad122, A122_3, c122_3, e122, hx122_0, hx122_1, hx122_2, hx122_3, hl122_3, hi122_3⟩ := at_T26 HR0.out 0 p122 q122
     cases e122
     have qi122 : (0 < l0.length) = True := eq_true (by omega)
     (try rw [sZ] at hx122_0)
     (try rw [sZ] at hx122_1)
     (try rw [sZ] at hx122_2)
     (try rw [sZ] at hx122_3)
     have HR122_3 := Aside0.mk hi122_3
     have HC122_3 := Aside0.mk hl122_3
     clear hi122_3 hl122_3
     replace p122 := eq_true p122
     replace q122 := eq_true q122
     go_wp2
     go_ret
     exact ⟨by first | rfl | (simp; done) | (simp [*]; done), by repeat (first | exact Drawn0.refl _ | apply Drawn0.step)⟩
    rw [if_neg c3] at H
    have c3b0 := decide_eq_false c3
    clear c3
    obtain rfl := Option.some.inj H
    have p122 : 0 ≤ (0 : Int) := (by omega)
    have q122 : 0 < (l0.length : Int) := of_decide_eq_true (by first | (with_reducible assumption) | assumption)
    obtain ⟨ad122, A122_3, c122_3, e122, hx122_0, hx122_1, hx122_2, hx122_3, hl122_3, hi122_3⟩ := at_T26 HR0.out 0 p122 q122
    cases e122
    have qi122 : (0 < l0.length) = True := eq_true (by omega)
    (try rw [sZ] at hx122_0)
    (try rw [sZ] at hx122_1)
    (try rw [sZ] at hx122_2)
    (try rw [sZ] at hx122_3)
    have HR122_3 := Aside0.mk hi122_3
    have HC122_3 := Aside0.mk hl122_3
    clear hi122_3 hl122_3
    replace p122 := eq_true p122
    replace q122 := eq_true q122
    go_wp2
    go_ret
    exact ⟨by first | rfl | (simp; done) | (simp [*]; done), by repeat (first | exact Drawn0.refl _ | apply Drawn0.step)⟩
   rw [if_neg c2] at H
   exact absurd H (by simp)

/-! ### spec_l01Printable: function 143 -/
def spec_l01Printable.l0 : Nat → ByteArray → Bool → Int → Option (Bool)
 | 0, _, _, _ => none
 | k + 1, x0, x1, x5 => if x5 < (x0.size : Int) then (if 0 ≤ x5 then (if (bt x0 x5) < 32 then (if x1 = true then (if ((bt x0 x5) = 10) then (spec_l01Printable.l0 k x0 x1 (wrap64 (x5 + 1))) else (some false)) else (some false)) else (if (bt x0 x5) > 126 then (if x1 = true then (if ((bt x0 x5) = 10) then (spec_l01Printable.l0 k x0 x1 (wrap64 (x5 + 1))) else (some false)) else (some false)) else (spec_l01Printable.l0 k x0 x1 (wrap64 (x5 + 1))))) else (none)) else (some true)
def spec_l01Printable.f (k : Nat) (a0 : ByteArray) (a1 : Bool) : Option (Bool) := spec_l01Printable.l0 k a0 a1 0
set_option maxHeartbeats 8000000 in
set_option maxRecDepth 100000 in
theorem spec_l01Printable.calls (k : Nat) (a0 : ByteArray) (a1 : Bool) (r : Bool) (w : World) (h : spec_l01Printable.f k a0 a1 = some r) :
  Calls Try.prog 143 #[.string a0, .bool a1] w fun e w' => e = .returned (.bool r) ∧ Drawn0 w w' := by
 have H : (spec_l01Printable.l0 k a0 a1 0) = some r := h
 clear h
 have H' := Aside0.mk H
 clear H
 go_enter Try.func143, Try.ntmps143
 go_wp2
 go_loopg [5] k (fun kq v5 w' => ∃ (x5_1 : Int), v5 = .int .i64 x5_1 ∧ Aside0 (spec_l01Printable.l0 kq a0 a1 x5_1 = some r) ∧ Aside0 (kq ≤ k) ∧ Drawn0 w w')
 case atStart => exact ⟨(0), sr, H', ⟨Nat.le_refl _⟩, by repeat (first | exact Drawn0.refl _ | apply Drawn0.step)⟩
 case round =>
  clear H'
  try clear c1
  try clear p2
  obtain ⟨x5_1, rfl, HA, HK1, ⟨m1, rfl⟩⟩ := hrel
  cases gk with
  | zero => exact absurd HA.out (by simp [spec_l01Printable.l0])
  | succ k1 =>
   have H := HA.out
   clear HA
   simp only [spec_l01Printable.l0] at H
   by_cases c3 : x5_1 < (a0.size : Int)
   ·rw [if_pos c3] at H
    have c3b0 := decide_eq_true c3
    clear c3
    by_cases c4 : 0 ≤ x5_1
    ·rw [if_pos c4] at H
     have c4b0 := decide_eq_true c4
     clear c4
     by_cases c6 : (bt a0 x5_1) < 32
     ·rw [if_pos c6] at H
      have c6b0 := decide_eq_true c6
      clear c6
      by_cases c7 : a1 = true
      ·subst c7
       rewrite [if_pos rfl] at H
       by_cases c9 : ((bt a0 x5_1) = 10)
       ·rw [if_pos c9] at H
        have c9b0 : ((bt a0 x5_1) == 10) = true := beq_iff_eq.mpr c9
        have c9b1 : ((bt a0 x5_1) != 10) = false := bne_eq_false_iff_eq.mpr c9
        clear c9
        have H' := Aside0.mk H
        clear H
        have p5 : 0 ≤ (x5_1 : Int) := of_decide_eq_true (by first | (with_reducible assumption) | assumption)
        have q5 : x5_1 < (a0.size : Int) := of_decide_eq_true (by first | (with_reducible assumption) | assumption)
        have hx5 := bt_at a0 x5_1
        replace p5 := eq_true p5
        replace q5 := eq_true q5
        have p8 : 0 ≤ (x5_1 : Int) := of_decide_eq_true (by first | (with_reducible assumption) | assumption)
        have q8 : x5_1 < (a0.size : Int) := of_decide_eq_true (by first | (with_reducible assumption) | assumption)
        have hx8 := bt_at a0 x5_1
        replace p8 := eq_true p8
        replace q8 := eq_true q8
        go_wp2
        go_roundg k1
        case measure => have := HK1.out; omega
        case rel => exact ⟨(wrap64 (x5_1 + 1)), sr, H', ⟨by have := HK1.out; omega⟩, by repeat (first | exact Drawn0.refl _ | apply Drawn0.step)⟩
       rw [if_neg c9] at H
       have c9b0 : ((bt a0 x5_1) == 10) = false := beq_eq_false_iff_ne.mpr c9
       have c9b1 : ((bt a0 x5_1) != 10) = true := bne_iff_ne.mpr c9
       obtain rfl := Option.some.inj H
       have p5 : 0 ≤ (x5_1 : Int) := of_decide_eq_true (by first | (with_reducible assumption) | assumption)
       have q5 : x5_1 < (a0.size : Int) := of_decide_eq_true (by first | (with_reducible assumption) | assumption)
       have hx5 := bt_at a0 x5_1
       replace p5 := eq_true p5
       replace q5 := eq_true q5
       have p8 : 0 ≤ (x5_1 : Int) := of_decide_eq_true (by first | (with_reducible assumption) | assumption)
       have q8 : x5_1 < (a0.size : Int) := of_decide_eq_true (by first | (with_reducible assumption) | assumption)
       have hx8 := bt_at a0 x5_1
       replace p8 := eq_true p8
       replace q8 := eq_true q8
       go_wp2
       go_ret
       exact ⟨by first | rfl | (simp; done) | (simp [*]; done), by repeat (first | exact Drawn0.refl _ | apply Drawn0.step)⟩
      replace c7 := Bool.eq_false_iff.mpr c7
      subst c7
      rewrite [if_neg (show ¬ (false = true) by decide)] at H
      obtain rfl := Option.some.inj H
      have p5 : 0 ≤ (x5_1 : Int) := of_decide_eq_true (by first | (with_reducible assumption) | assumption)
      have q5 : x5_1 < (a0.size : Int) := of_decide_eq_true (by first | (with_reducible assumption) | assumption)
      have hx5 := bt_at a0 x5_1
      replace p5 := eq_true p5
      replace q5 := eq_true q5
      go_wp2
      go_ret
      exact ⟨by first | rfl | (simp; done) | (simp [*]; done), by repeat (first | exact Drawn0.refl _ | apply Drawn0.step)⟩
     rw [if_neg c6] at H
     have c6b0 := decide_eq_false c6
     clear c6
     by_cases c11 : (bt a0 x5_1) > 126
     ·rw [if_pos c11] at H
      have c11b0 : decide (126 < (bt a0 x5_1)) = true := decide_eq_true c11
      clear c11
      by_cases c12 : a1 = true
      ·subst c12
       rewrite [if_pos rfl] at H
       by_cases c14 : ((bt a0 x5_1) = 10)
       ·rw [if_pos c14] at H
        have c14b0 : ((bt a0 x5_1) == 10) = true := beq_iff_eq.mpr c14
        have c14b1 : ((bt a0 x5_1) != 10) = false := bne_eq_false_iff_eq.mpr c14
        clear c14
        have H' := Aside0.mk H
        clear H
        have p5 : 0 ≤ (x5_1 : Int) := of_decide_eq_true (by first | (with_reducible assumption) | assumption)
        have q5 : x5_1 < (a0.size : Int) := of_decide_eq_true (by first | (with_reducible assumption) | assumption)
        have hx5 := bt_at a0 x5_1
        replace p5 := eq_true p5
        replace q5 := eq_true q5
        have p10 : 0 ≤ (x5_1 : Int) := of_decide_eq_true (by first | (with_reducible assumption) | assumption)
        have q10 : x5_1 < (a0.size : Int) := of_decide_eq_true (by first | (with_reducible assumption) | assumption)
        have hx10 := bt_at a0 x5_1
        replace p10 := eq_true p10
        replace q10 := eq_true q10
        have p13 : 0 ≤ (x5_1 : Int) := of_decide_eq_true (by first | (with_reducible assumption) | assumption)
        have q13 : x5_1 < (a0.size : Int) := of_decide_eq_true (by first | (with_reducible assumption) | assumption)
        have hx13 := bt_at a0 x5_1
        replace p13 := eq_true p13
        replace q13 := eq_true q13
        go_wp2
        go_roundg k1
        case measure => have := HK1.out; omega
        case rel => exact ⟨(wrap64 (x5_1 + 1)), sr, H', ⟨by have := HK1.out; omega⟩, by repeat (first | exact Drawn0.refl _ | apply Drawn0.step)⟩
       rw [if_neg c14] at H
       have c14b0 : ((bt a0 x5_1) == 10) = false := beq_eq_false_iff_ne.mpr c14
       have c14b1 : ((bt a0 x5_1) != 10) = true := bne_iff_ne.mpr c14
       obtain rfl := Option.some.inj H
       have p5 : 0 ≤ (x5_1 : Int) := of_decide_eq_true (by first | (with_reducible assumption) | assumption)
       have q5 : x5_1 < (a0.size : Int) := of_decide_eq_true (by first | (with_reducible assumption) | assumption)
       have hx5 := bt_at a0 x5_1
       replace p5 := eq_true p5
       replace q5 := eq_true q5
       have p10 : 0 ≤ (x5_1 : Int) := of_decide_eq_true (by first | (with_reducible assumption) | assumption)
       have q10 : x5_1 < (a0.size : Int) := of_decide_eq_true (by first | (with_reducible assumption) | assumption)
       have hx10 := bt_at a0 x5_1
       replace p10 := eq_true p10
       replace q10 := eq_true q10
       have p13 : 0 ≤ (x5_1 : Int) := of_decide_eq_true (by first | (with_reducible assumption) | assumption)
       have q13 : x5_1 < (a0.size : Int) := of_decide_eq_true (by first | (with_reducible assumption) | assumption)
       have hx13 := bt_at a0 x5_1
       replace p13 := eq_true p13
       replace q13 := eq_true q13
       go_wp2
       go_ret
       exact ⟨by first | rfl | (simp; done) | (simp [*]; done), by repeat (first | exact Drawn0.refl _ | apply Drawn0.step)⟩
      replace c12 := Bool.eq_false_iff.mpr c12
      subst c12
      rewrite [if_neg (show ¬ (false = true) by decide)] at H
      obtain rfl := Option.some.inj H
      have p5 : 0 ≤ (x5_1 : Int) := of_decide_eq_true (by first | (with_reducible assumption) | assumption)
      have q5 : x5_1 < (a0.size : Int) := of_decide_eq_true (by first | (with_reducible assumption) | assumption)
      have hx5 := bt_at a0 x5_1
      replace p5 := eq_true p5
      replace q5 := eq_true q5
      have p10 : 0 ≤ (x5_1 : Int) := of_decide_eq_true (by first | (with_reducible assumption) | assumption)
      have q10 : x5_1 < (a0.size : Int) := of_decide_eq_true (by first | (with_reducible assumption) | assumption)
      have hx10 := bt_at a0 x5_1
      replace p10 := eq_true p10
      replace q10 := eq_true q10
      go_wp2
      go_ret
      exact ⟨by first | rfl | (simp; done) | (simp [*]; done), by repeat (first | exact Drawn0.refl _ | apply Drawn0.step)⟩
     rw [if_neg c11] at H
     have c11b0 : decide (126 < (bt a0 x5_1)) = false := decide_eq_false c11
     clear c11
     have H' := Aside0.mk H
     clear H
     have p5 : 0 ≤ (x5_1 : Int) := of_decide_eq_true (by first | (with_reducible assumption) | assumption)
     have q5 : x5_1 < (a0.size : Int) := of_decide_eq_true (by first | (with_reducible assumption) | assumption)
     have hx5 := bt_at a0 x5_1
     replace p5 := eq_true p5
     replace q5 := eq_true q5
     have p10 : 0 ≤ (x5_1 : Int) := of_decide_eq_true (by first | (with_reducible assumption) | assumption)
     have q10 : x5_1 < (a0.size : Int) := of_decide_eq_true (by first | (with_reducible assumption) | assumption)
     have hx10 := bt_at a0 x5_1
     replace p10 := eq_true p10
     replace q10 := eq_true q10
     go_wp2
     go_roundg k1
     case measure => have := HK1.out; omega
     case rel => exact ⟨(wrap64 (x5_1 + 1)), sr, H', ⟨by have := HK1.out; omega⟩, by repeat (first | exact Drawn0.refl _ | apply Drawn0.step)⟩
    rw [if_neg c4] at H
    exact absurd H (by simp)
   rw [if_neg c3] at H
   have c3b0 := decide_eq_false c3
   clear c3
   obtain rfl := Option.some.inj H
   go_wp2
   go_ret
   exact ⟨by first | rfl | (simp; done) | (simp [*]; done), by repeat (first | exact Drawn0.refl _ | apply Drawn0.step)⟩
end Go.Proofs.Ytmebimamjgnlpaa.PFnExactCompileExpr
