/- Printed functions: spec_l22Pure. -/
import Derived.Test.YtfpkngdoijpafaaYVgP0
namespace Go.Proofs.Ytfpkngdoijpafaa.PFnExactValidGen
open Go.RowKit Go.Proofs.YtfpkngdoijpafaaG Go.Proofs.YtfpkngdoijpafaaW.PrintWords Go.Proofs.YtfpkngdoijpafaaW.PrintLast Go.Proofs.YtfpkngdoijpafaaW.PrintMore
attribute [local go_sem] max2_int min2_int max_two min_two max_three min_three max_four min_four   -- for this text's walks alone
set_option linter.unusedVariables false
set_option linter.unusedSimpArgs false
/-! ### spec_l22Pure: function 39 -/
mutual
def spec_l22Pure.j0 : Nat → List (S32) → Bool → Option (Bool)
 | 0, _, _ => none
 | k + 1, x0, x29 => if x29 = true then (some false) else (spec_l22Pure.l0 k x0 0)
def spec_l22Pure.l0 : Nat → List (S32) → Int → Option (Bool)
 | 0, _, _ => none
 | k + 1, x0, x3 => if 0 < (x0.length : Int) then (if x3 < (((rd_T32 x0 0).f4).length : Int) then (if 0 ≤ x3 then ((spec_l22Pure.f k [rd_T32 ((rd_T32 x0 0).f4) x3]).bind fun t286 => (if t286 = true then (spec_l22Pure.l0 k x0 (wrap64 (x3 + 1))) else (some false))) else (none)) else (some true)) else (none)
def spec_l22Pure.f : Nat → List (S32) → Option (Bool)
 | 0, _ => none
 | k + 1, l0 => if 0 < (l0.length : Int) then (if ((rd_T32 l0 0).f0) = 15 then (spec_l22Pure.j0 k l0 true) else (if ((rd_T32 l0 0).f0) = 16 then (spec_l22Pure.j0 k l0 true) else (if ((rd_T32 l0 0).f0) = 17 then (spec_l22Pure.j0 k l0 true) else (spec_l22Pure.j0 k l0 (((rd_T32 l0 0).f0) == 18))))) else (none)
end
set_option maxHeartbeats 8000000 in
set_option maxRecDepth 100000 in
theorem spec_l22Pure.calls (k : Nat) : ∀ (A0 : Option Addr) (l0 : List (S32)) (r : Bool) (w : World) (hr0 : Kd.C k32 w A0 l0.length l0) (h : spec_l22Pure.f k l0 = some r),
  Calls Try.prog 39 #[.pointer A0] w fun e w' => e = .returned (.bool r) ∧ Drawn0 w w' := by
 induction k using Nat.strongRecOn with
 | _ k ih =>
 intro A0 l0 r w hr0 h
 cases k with
 | zero => exact absurd h (by simp [spec_l22Pure.f])
 | succ k =>
 simp only [spec_l22Pure.f] at h
 have HR0 := Aside0.mk hr0
 have HC0 := Aside0.mk (Nat.le_refl l0.length)
 clear hr0
 have H : (if 0 < (l0.length : Int) then (if ((rd_T32 l0 0).f0) = 15 then (spec_l22Pure.j0 k l0 true) else (if ((rd_T32 l0 0).f0) = 16 then (spec_l22Pure.j0 k l0 true) else (if ((rd_T32 l0 0).f0) = 17 then (spec_l22Pure.j0 k l0 true) else (spec_l22Pure.j0 k l0 (((rd_T32 l0 0).f0) == 18))))) else (none)) = some r := h
 clear h
 have HC2 := Aside0.mk H
 clear H
 go_enter Try.func39, Try.ntmps39
 go_upto_region 1 with (fail)
 go_cut [29] (fun v29 wc => ∃ (kq : Nat) (x29_1 : Bool), v29 = .bool x29_1 ∧ Aside0 (spec_l22Pure.j0 kq l0 x29_1 = some r) ∧ Aside0 (kq ≤ k) ∧ Drawn0 w wc)
 case first =>
  have H := HC2.out
  clear HC2
  by_cases c3 : 0 < (l0.length : Int)
  ·rw [if_pos c3] at H
   have c3b0 := decide_eq_true c3
   have c3b1 : decide (0 < l0.length) = true := decide_eq_true (by omega)
   clear c3
   (first | rw [c3b0] | (simp only [i64_w, i32_w]; rw [c3b0]) | rw [c3b2] | skip)
   by_cases c4 : ((rd_T32 l0 0).f0) = 15
   ·rw [if_pos c4] at H
    have c4b0 : (((rd_T32 l0 0).f0) == 15) = true := beq_iff_eq.mpr c4
    have c4b1 : (((rd_T32 l0 0).f0) != 15) = false := bne_eq_false_iff_eq.mpr c4
    clear c4
    have H' := Aside0.mk H
    clear H
    have p279 : 0 ≤ (0 : Int) := (by omega)
    have q279 : 0 < (l0.length : Int) := of_decide_eq_true (by first | (with_reducible assumption) | assumption)
    obtain ⟨ad279, A279_7, c279_7, e279, hx279_0, hx279_1, hx279_2, hx279_3, hx279_4, hx279_5, hx279_6, hx279_7, hl279_7, hi279_7⟩ := at_T32 HR0.out 0 p279 q279
    cases e279
    have qi279 : (0 < l0.length) = True := eq_true (by omega)
    (try rw [sZ] at hx279_0)
    (try rw [sZ] at hx279_1)
    (try rw [sZ] at hx279_2)
    (try rw [sZ] at hx279_3)
    (try rw [sZ] at hx279_4)
    (try rw [sZ] at hx279_5)
    (try rw [sZ] at hx279_6)
    (try rw [sZ] at hx279_7)
    have HR279_7 := Aside0.mk hi279_7
    have HC279_7 := Aside0.mk hl279_7
    clear hi279_7 hl279_7
    replace p279 := eq_true p279
    replace q279 := eq_true q279
    go_wp2
    go_meet
    case rel => exact ⟨_, (true), sr, H', ⟨by first | omega | exact Nat.le_refl _⟩, by repeat (first | exact Drawn0.refl _ | apply Drawn0.step)⟩
   rw [if_neg c4] at H
   have c4b0 : (((rd_T32 l0 0).f0) == 15) = false := beq_eq_false_iff_ne.mpr c4
   have c4b1 : (((rd_T32 l0 0).f0) != 15) = true := bne_iff_ne.mpr c4
   by_cases c5 : ((rd_T32 l0 0).f0) = 16
   ·rw [if_pos c5] at H
    have c5b0 : (((rd_T32 l0 0).f0) == 16) = true := beq_iff_eq.mpr c5
    have c5b1 : (((rd_T32 l0 0).f0) != 16) = false := bne_eq_false_iff_eq.mpr c5
    clear c5
    have H' := Aside0.mk H
    clear H
    have p279 : 0 ≤ (0 : Int) := (by omega)
    have q279 : 0 < (l0.length : Int) := of_decide_eq_true (by first | (with_reducible assumption) | assumption)
    obtain ⟨ad279, A279_7, c279_7, e279, hx279_0, hx279_1, hx279_2, hx279_3, hx279_4, hx279_5, hx279_6, hx279_7, hl279_7, hi279_7⟩ := at_T32 HR0.out 0 p279 q279
    cases e279
    have qi279 : (0 < l0.length) = True := eq_true (by omega)
    (try rw [sZ] at hx279_0)
    (try rw [sZ] at hx279_1)
    (try rw [sZ] at hx279_2)
    (try rw [sZ] at hx279_3)
    (try rw [sZ] at hx279_4)
    (try rw [sZ] at hx279_5)
    (try rw [sZ] at hx279_6)
    (try rw [sZ] at hx279_7)
    have HR279_7 := Aside0.mk hi279_7
    have HC279_7 := Aside0.mk hl279_7
    clear hi279_7 hl279_7
    replace p279 := eq_true p279
    replace q279 := eq_true q279
    have p280 : 0 ≤ (0 : Int) := (by omega)
    have q280 : 0 < (l0.length : Int) := of_decide_eq_true (by first | (with_reducible assumption) | assumption)
    obtain ⟨ad280, A280_7, c280_7, e280, hx280_0, hx280_1, hx280_2, hx280_3, hx280_4, hx280_5, hx280_6, hx280_7, hl280_7, hi280_7⟩ := at_T32 HR0.out 0 p280 q280
    obtain rfl : ad279 = ad280 := (by injection e280)
    have qi280 : (0 < l0.length) = True := eq_true (by omega)
    (try rw [sZ] at hx280_0)
    (try rw [sZ] at hx280_1)
    (try rw [sZ] at hx280_2)
    (try rw [sZ] at hx280_3)
    (try rw [sZ] at hx280_4)
    (try rw [sZ] at hx280_5)
    (try rw [sZ] at hx280_6)
    (try rw [sZ] at hx280_7)
    have HR280_7 := Aside0.mk hi280_7
    have HC280_7 := Aside0.mk hl280_7
    clear hi280_7 hl280_7
    replace p280 := eq_true p280
    replace q280 := eq_true q280
    have ea_ := Option.some.inj (hx279_7.symm.trans hx280_7)
    injection ea_ with ea_ en_ ec_
    subst ea_
    subst ec_
    clear en_
    go_wp2
    go_meet
    case rel => exact ⟨_, (true), sr, H', ⟨by first | omega | exact Nat.le_refl _⟩, by repeat (first | exact Drawn0.refl _ | apply Drawn0.step)⟩
   rw [if_neg c5] at H
   have c5b0 : (((rd_T32 l0 0).f0) == 16) = false := beq_eq_false_iff_ne.mpr c5
   have c5b1 : (((rd_T32 l0 0).f0) != 16) = true := bne_iff_ne.mpr c5
   by_cases c6 : ((rd_T32 l0 0).f0) = 17
   ·rw [if_pos c6] at H
    have c6b0 : (((rd_T32 l0 0).f0) == 17) = true := beq_iff_eq.mpr c6
    have c6b1 : (((rd_T32 l0 0).f0) != 17) = false := bne_eq_false_iff_eq.mpr c6
    clear c6
    have H' := Aside0.mk H
    clear H
    have p279 : 0 ≤ (0 : Int) := (by omega)
    have q279 : 0 < (l0.length : Int) := of_decide_eq_true (by first | (with_reducible assumption) | assumption)
    obtain ⟨ad279, A279_7, c279_7, e279, hx279_0, hx279_1, hx279_2, hx279_3, hx279_4, hx279_5, hx279_6, hx279_7, hl279_7, hi279_7⟩ := at_T32 HR0.out 0 p279 q279
    cases e279
    have qi279 : (0 < l0.length) = True := eq_true (by omega)
    (try rw [sZ] at hx279_0)
    (try rw [sZ] at hx279_1)
    (try rw [sZ] at hx279_2)
    (try rw [sZ] at hx279_3)
    (try rw [sZ] at hx279_4)
    (try rw [sZ] at hx279_5)
    (try rw [sZ] at hx279_6)
    (try rw [sZ] at hx279_7)
    have HR279_7 := Aside0.mk hi279_7
    have HC279_7 := Aside0.mk hl279_7
    clear hi279_7 hl279_7
    replace p279 := eq_true p279
    replace q279 := eq_true q279
    have p280 : 0 ≤ (0 : Int) := (by omega)
    have q280 : 0 < (l0.length : Int) := of_decide_eq_true (by first | (with_reducible assumption) | assumption)
    obtain ⟨ad280, A280_7, c280_7, e280, hx280_0, hx280_1, hx280_2, hx280_3, hx280_4, hx280_5, hx280_6, hx280_7, hl280_7, hi280_7⟩ := at_T32 HR0.out 0 p280 q280
    obtain rfl : ad279 = ad280 := (by injection e280)
    have qi280 : (0 < l0.length) = True := eq_true (by omega)
    (try rw [sZ] at hx280_0)
    (try rw [sZ] at hx280_1)
    (try rw [sZ] at hx280_2)
    (try rw [sZ] at hx280_3)
    (try rw [sZ] at hx280_4)
    (try rw [sZ] at hx280_5)
    (try rw [sZ] at hx280_6)
    (try rw [sZ] at hx280_7)
    have HR280_7 := Aside0.mk hi280_7
    have HC280_7 := Aside0.mk hl280_7
    clear hi280_7 hl280_7
    replace p280 := eq_true p280
    replace q280 := eq_true q280
    have ea_ := Option.some.inj (hx279_7.symm.trans hx280_7)
    injection ea_ with ea_ en_ ec_
    subst ea_
    subst ec_
    clear en_
    have p281 : 0 ≤ (0 : Int) := (by omega)
    have q281 : 0 < (l0.length : Int) := of_decide_eq_true (by first | (with_reducible assumption) | assumption)
    obtain ⟨ad281, A281_7, c281_7, e281, hx281_0, hx281_1, hx281_2, hx281_3, hx281_4, hx281_5, hx281_6, hx281_7, hl281_7, hi281_7⟩ := at_T32 HR0.out 0 p281 q281
    obtain rfl : ad279 = ad281 := (by injection e281)
    have qi281 : (0 < l0.length) = True := eq_true (by omega)
    (try rw [sZ] at hx281_0)
    (try rw [sZ] at hx281_1)
    (try rw [sZ] at hx281_2)
    (try rw [sZ] at hx281_3)
    (try rw [sZ] at hx281_4)
    (try rw [sZ] at hx281_5)
    (try rw [sZ] at hx281_6)
    (try rw [sZ] at hx281_7)
    have HR281_7 := Aside0.mk hi281_7
    have HC281_7 := Aside0.mk hl281_7
    clear hi281_7 hl281_7
    replace p281 := eq_true p281
    replace q281 := eq_true q281
    have ea_ := Option.some.inj (hx279_7.symm.trans hx281_7)
    injection ea_ with ea_ en_ ec_
    subst ea_
    subst ec_
    clear en_
    go_wp2
    go_meet
    case rel => exact ⟨_, (true), sr, H', ⟨by first | omega | exact Nat.le_refl _⟩, by repeat (first | exact Drawn0.refl _ | apply Drawn0.step)⟩
   rw [if_neg c6] at H
   have c6b0 : (((rd_T32 l0 0).f0) == 17) = false := beq_eq_false_iff_ne.mpr c6
   have c6b1 : (((rd_T32 l0 0).f0) != 17) = true := bne_iff_ne.mpr c6
   have H' := Aside0.mk H
   clear H
   have p279 : 0 ≤ (0 : Int) := (by omega)
   have q279 : 0 < (l0.length : Int) := of_decide_eq_true (by first | (with_reducible assumption) | assumption)
   obtain ⟨ad279, A279_7, c279_7, e279, hx279_0, hx279_1, hx279_2, hx279_3, hx279_4, hx279_5, hx279_6, hx279_7, hl279_7, hi279_7⟩ := at_T32 HR0.out 0 p279 q279
   cases e279
   have qi279 : (0 < l0.length) = True := eq_true (by omega)
   (try rw [sZ] at hx279_0)
   (try rw [sZ] at hx279_1)
   (try rw [sZ] at hx279_2)
   (try rw [sZ] at hx279_3)
   (try rw [sZ] at hx279_4)
   (try rw [sZ] at hx279_5)
   (try rw [sZ] at hx279_6)
   (try rw [sZ] at hx279_7)
   have HR279_7 := Aside0.mk hi279_7
   have HC279_7 := Aside0.mk hl279_7
   clear hi279_7 hl279_7
   replace p279 := eq_true p279
   replace q279 := eq_true q279
   have p280 : 0 ≤ (0 : Int) := (by omega)
   have q280 : 0 < (l0.length : Int) := of_decide_eq_true (by first | (with_reducible assumption) | assumption)
   obtain ⟨ad280, A280_7, c280_7, e280, hx280_0, hx280_1, hx280_2, hx280_3, hx280_4, hx280_5, hx280_6, hx280_7, hl280_7, hi280_7⟩ := at_T32 HR0.out 0 p280 q280
   obtain rfl : ad279 = ad280 := (by injection e280)
   have qi280 : (0 < l0.length) = True := eq_true (by omega)
   (try rw [sZ] at hx280_0)
   (try rw [sZ] at hx280_1)
   (try rw [sZ] at hx280_2)
   (try rw [sZ] at hx280_3)
   (try rw [sZ] at hx280_4)
   (try rw [sZ] at hx280_5)
   (try rw [sZ] at hx280_6)
   (try rw [sZ] at hx280_7)
   have HR280_7 := Aside0.mk hi280_7
   have HC280_7 := Aside0.mk hl280_7
   clear hi280_7 hl280_7
   replace p280 := eq_true p280
   replace q280 := eq_true q280
   have ea_ := Option.some.inj (hx279_7.symm.trans hx280_7)
   injection ea_ with ea_ en_ ec_
   subst ea_
   subst ec_
   clear en_
   have p281 : 0 ≤ (0 : Int) := (by omega)
   have q281 : 0 < (l0.length : Int) := of_decide_eq_true (by first | (with_reducible assumption) | assumption)
   obtain ⟨ad281, A281_7, c281_7, e281, hx281_0, hx281_1, hx281_2, hx281_3, hx281_4, hx281_5, hx281_6, hx281_7, hl281_7, hi281_7⟩ := at_T32 HR0.out 0 p281 q281
   obtain rfl : ad279 = ad281 := (by injection e281)
   have qi281 : (0 < l0.length) = True := eq_true (by omega)
   (try rw [sZ] at hx281_0)
   (try rw [sZ] at hx281_1)
   (try rw [sZ] at hx281_2)
   (try rw [sZ] at hx281_3)
   (try rw [sZ] at hx281_4)
   (try rw [sZ] at hx281_5)
   (try rw [sZ] at hx281_6)
   (try rw [sZ] at hx281_7)
   have HR281_7 := Aside0.mk hi281_7
   have HC281_7 := Aside0.mk hl281_7
   clear hi281_7 hl281_7
   replace p281 := eq_true p281
   replace q281 := eq_true q281
   have ea_ := Option.some.inj (hx279_7.symm.trans hx281_7)
   injection ea_ with ea_ en_ ec_
   subst ea_
   subst ec_
   clear en_
   have p282 : 0 ≤ (0 : Int) := (by omega)
   have q282 : 0 < (l0.length : Int) := of_decide_eq_true (by first | (with_reducible assumption) | assumption)
   obtain ⟨ad282, A282_7, c282_7, e282, hx282_0, hx282_1, hx282_2, hx282_3, hx282_4, hx282_5, hx282_6, hx282_7, hl282_7, hi282_7⟩ := at_T32 HR0.out 0 p282 q282
   obtain rfl : ad279 = ad282 := (by injection e282)
   have qi282 : (0 < l0.length) = True := eq_true (by omega)
   (try rw [sZ] at hx282_0)
   (try rw [sZ] at hx282_1)
   (try rw [sZ] at hx282_2)
   (try rw [sZ] at hx282_3)
   (try rw [sZ] at hx282_4)
   (try rw [sZ] at hx282_5)
   (try rw [sZ] at hx282_6)
   (try rw [sZ] at hx282_7)
   have HR282_7 := Aside0.mk hi282_7
   have HC282_7 := Aside0.mk hl282_7
   clear hi282_7 hl282_7
   replace p282 := eq_true p282
   replace q282 := eq_true q282
   have ea_ := Option.some.inj (hx279_7.symm.trans hx282_7)
   injection ea_ with ea_ en_ ec_
   subst ea_
   subst ec_
   clear en_
   go_wp2
   go_meet
   case rel => exact ⟨_, ((((rd_T32 l0 0).f0) == 18)), sr, H', ⟨by first | omega | exact Nat.le_refl _⟩, by repeat (first | exact Drawn0.refl _ | apply Drawn0.step)⟩
  rw [if_neg c3] at H
  exact absurd H (by simp)
 case rest =>
  clear HC2
  try clear c2
  try clear p2
  try clear q2
  try clear hx2
  try clear qi2
  try clear c3
  try clear c3b0
  try clear c3b1
  try clear c3b2
  try clear c4
  try clear c4b0
  try clear c4b1
  try clear c5
  try clear c5b0
  try clear c5b1
  try clear c6
  try clear c6b0
  try clear c6b1
  try clear hx279_0
  try clear hx279_1
  try clear hx279_2
  try clear hx279_3
  try clear hx279_4
  try clear hx279_5
  try clear hx279_6
  try clear hx279_7
  try clear hx280_0
  try clear hx280_1
  try clear hx280_2
  try clear hx280_3
  try clear hx280_4
  try clear hx280_5
  try clear hx280_6
  try clear hx280_7
  try clear hx281_0
  try clear hx281_1
  try clear hx281_2
  try clear hx281_3
  try clear hx281_4
  try clear hx281_5
  try clear hx281_6
  try clear hx281_7
  try clear hx282_0
  try clear hx282_1
  try clear hx282_2
  try clear hx282_3
  try clear hx282_4
  try clear hx282_5
  try clear hx282_6
  try clear hx282_7
  try clear p279
  try clear p280
  try clear p281
  try clear p282
  try clear q279
  try clear q280
  try clear q281
  try clear q282
  obtain ⟨kq, x29_1, rfl, HA, HJ1, ⟨mc1, rfl⟩⟩ := hcut
  cases kq with
  | zero => exact absurd HA.out (by simp [spec_l22Pure.j0])
  | succ kj1 =>
   have H := HA.out
   clear HA
   simp only [spec_l22Pure.j0] at H
   by_cases c7 : x29_1 = true
   ·subst c7
    rewrite [if_pos rfl] at H
    obtain rfl := Option.some.inj H
    go_wp2
    go_ret
    exact ⟨by first | rfl | (simp; done) | (simp [*]; done), by repeat (first | exact Drawn0.refl _ | apply Drawn0.step)⟩
   replace c7 := Bool.eq_false_iff.mpr c7
   subst c7
   rewrite [if_neg (show ¬ (false = true) by decide)] at H
   have H' := Aside0.mk H
   clear H
   go_wp2
   go_loopg [3] kj1 (fun kq v3 w' => ∃ (x3_2 : Int), v3 = .int .i64 x3_2 ∧ Aside0 (spec_l22Pure.l0 kq l0 x3_2 = some r) ∧ Aside0 (kq ≤ kj1) ∧ Drawn0 w w')
   case atStart => exact ⟨(0), sr, H', ⟨Nat.le_refl _⟩, by repeat (first | exact Drawn0.refl _ | apply Drawn0.step)⟩
   case round =>
    clear H'
    try clear c1
    try clear c2
    try clear p2
    try clear q2
    try clear hx2
    try clear qi2
    try clear c3
    try clear c3b0
    try clear c3b1
    try clear c3b2
    try clear c4
    try clear c4b0
    try clear c4b1
    try clear c5
    try clear c5b0
    try clear c5b1
    try clear c6
    try clear c6b0
    try clear c6b1
    try clear c7
    try clear hx279_0
    try clear hx279_1
    try clear hx279_2
    try clear hx279_3
    try clear hx279_4
    try clear hx279_5
    try clear hx279_6
    try clear hx279_7
    try clear hx280_0
    try clear hx280_1
    try clear hx280_2
    try clear hx280_3
    try clear hx280_4
    try clear hx280_5
    try clear hx280_6
    try clear hx280_7
    try clear hx281_0
    try clear hx281_1
    try clear hx281_2
    try clear hx281_3
    try clear hx281_4
    try clear hx281_5
    try clear hx281_6
    try clear hx281_7
    try clear hx282_0
    try clear hx282_1
    try clear hx282_2
    try clear hx282_3
    try clear hx282_4
    try clear hx282_5
    try clear hx282_6
    try clear hx282_7
    try clear p2
    try clear p279
    try clear p280
    try clear p281
    try clear p282
    try clear q2
    try clear q279
    try clear q280
    try clear q281
    try clear q282
    obtain ⟨x3_2, rfl, HA, HK2, ⟨m2, rfl⟩⟩ := hrel
    cases gk with
    | zero => exact absurd HA.out (by simp [spec_l22Pure.l0])
    | succ k2 =>
     have H := HA.out
     clear HA
     simp only [spec_l22Pure.l0] at H
     by_cases c8 : 0 < (l0.length : Int)
     ·rw [if_pos c8] at H
      have c8b0 := decide_eq_true c8
      have c8b1 : decide (0 < l0.length) = true := decide_eq_true (by omega)
      clear c8
      by_cases c9 : x3_2 < (((rd_T32 l0 0).f4).length : Int)
      ·rw [if_pos c9] at H
       have c9b0 := decide_eq_true c9
       clear c9
       by_cases c10 : 0 ≤ x3_2
       ·rw [if_pos c10] at H
        have c10b0 := decide_eq_true c10
        clear c10
        obtain ⟨t286, A11, H⟩ := sO H
        by_cases c12 : t286 = true
        ·subst c12
         rewrite [if_pos rfl] at H
         have H' := Aside0.mk H
         clear H
         have p283 : 0 ≤ (0 : Int) := (by omega)
         have q283 : 0 < (l0.length : Int) := of_decide_eq_true (by first | (with_reducible assumption) | assumption)
         obtain ⟨ad283, A283_7, c283_7, e283, hx283_0, hx283_1, hx283_2, hx283_3, hx283_4, hx283_5, hx283_6, hx283_7, hl283_7, hi283_7⟩ := at_T32 HR0.out 0 p283 q283
         cases e283
         have qi283 : (0 < l0.length) = True := eq_true (by omega)
         (try rw [sZ] at hx283_0)
         (try rw [sZ] at hx283_1)
         (try rw [sZ] at hx283_2)
         (try rw [sZ] at hx283_3)
         (try rw [sZ] at hx283_4)
         (try rw [sZ] at hx283_5)
         (try rw [sZ] at hx283_6)
         (try rw [sZ] at hx283_7)
         have HR283_7 := Aside0.mk hi283_7
         have HC283_7 := Aside0.mk hl283_7
         clear hi283_7 hl283_7
         replace p283 := eq_true p283
         replace q283 := eq_true q283
         have p284 : 0 ≤ (0 : Int) := (by omega)
         have q284 : 0 < (l0.length : Int) := of_decide_eq_true (by first | (with_reducible assumption) | assumption)
         obtain ⟨ad284, A284_7, c284_7, e284, hx284_0, hx284_1, hx284_2, hx284_3, hx284_4, hx284_5, hx284_6, hx284_7, hl284_7, hi284_7⟩ := at_T32 HR0.out 0 p284 q284
         obtain rfl : ad283 = ad284 := (by injection e284)
         have qi284 : (0 < l0.length) = True := eq_true (by omega)
         (try rw [sZ] at hx284_0)
         (try rw [sZ] at hx284_1)
         (try rw [sZ] at hx284_2)
         (try rw [sZ] at hx284_3)
         (try rw [sZ] at hx284_4)
         (try rw [sZ] at hx284_5)
         (try rw [sZ] at hx284_6)
         (try rw [sZ] at hx284_7)
         have HR284_7 := Aside0.mk hi284_7
         have HC284_7 := Aside0.mk hl284_7
         clear hi284_7 hl284_7
         replace p284 := eq_true p284
         replace q284 := eq_true q284
         have ea_ := Option.some.inj (hx283_7.symm.trans hx284_7)
         injection ea_ with ea_ en_ ec_
         subst ea_
         subst ec_
         clear en_
         have p285 : 0 ≤ (x3_2 : Int) := of_decide_eq_true (by first | (with_reducible assumption) | assumption)
         have q285 : x3_2 < (((rd_T32 l0 0).f4).length : Int) := of_decide_eq_true (by first | (with_reducible assumption) | assumption)
         obtain ⟨ad285, A285_7, c285_7, e285, hx285_0, hx285_1, hx285_2, hx285_3, hx285_4, hx285_5, hx285_6, hx285_7, hl285_7, hi285_7⟩ := at_T32 HR284_7.out x3_2 p285 q285
         cases e285
         have HR285_7 := Aside0.mk hi285_7
         have HC285_7 := Aside0.mk hl285_7
         clear hi285_7 hl285_7
         replace p285 := eq_true p285
         replace q285 := eq_true q285
         go_wp2_with (first | ((with_reducible refine gate_callee (f := 39) rfl ?_); refine goesL_ (some 45) rfl rfl Try.func39 (by kernel_rfl) rfl #[.pointer (some (ad285.add ((x3_2).toNat * 8)))] rfl (by (try simp only [List.map_toArray, List.map_cons, List.map_nil]); first | done | rfl | (simp only [List.length_drop, List.length_take]; rfl)) ?_; (with_reducible refine (ih k2 (by have := HJ1.out; have := HK2.out; omega) _ [rd_T32 ((rd_T32 l0 0).f4) x3_2] true _ ?side1 A11.out).mono ?_); (case side1 => first | exact (C_one (by exact sD HR284_7.out) z32 (x3_2 : Int) (of_eq_true p285) (by have h_ := q285; first | exact of_eq_true h_ | exact h_ | exact of_decide_eq_true (by assumption))) | (have h_ := (C_one (by exact sD HR284_7.out) z32 (x3_2 : Int) (of_eq_true p285) (by have h_ := q285; first | exact of_eq_true h_ | exact h_ | exact of_decide_eq_true (by assumption))); first | exact h_ | simpa using h_)); rintro e w' ⟨rfl, ⟨nd, rfl⟩⟩; refine ⟨_, rfl, ?_⟩))
         go_roundg k2
         case measure => have := HJ1.out; have := HK2.out; omega
         case rel => exact ⟨(wrap64 (x3_2 + 1)), sr, H', ⟨by have := HJ1.out; have := HK2.out; omega⟩, by repeat (first | exact Drawn0.refl _ | apply Drawn0.step)⟩
        replace c12 := Bool.eq_false_iff.mpr c12
        subst c12
        rewrite [if_neg (show ¬ (false = true) by decide)] at H
        obtain rfl := Option.some.inj H
        have p283 : 0 ≤ (0 : Int) := (by omega)
        have q283 : 0 < (l0.length : Int) := of_decide_eq_true (by first | (with_reducible assumption) | assumption)
        obtain ⟨ad283, A283_7, c283_7, e283, hx283_0, hx283_1, hx283_2, hx283_3, hx283_4, hx283_5, hx283_6, hx283_7, hl283_7, hi283_7⟩ := at_T32 HR0.out 0 p283 q283
        cases e283
        have qi283 : (0 < l0.length) = True := eq_true (by omega)
        (try rw [sZ] at hx283_0)
        (try rw [sZ] at hx283_1)
        (try rw [sZ] at hx283_2)
        (try rw [sZ] at hx283_3)
        (try rw [sZ] at hx283_4)
        (try rw [sZ] at hx283_5)
        (try rw [sZ] at hx283_6)
        (try rw [sZ] at hx283_7)
        have HR283_7 := Aside0.mk hi283_7
        have HC283_7 := Aside0.mk hl283_7
        clear hi283_7 hl283_7
        replace p283 := eq_true p283
        replace q283 := eq_true q283
        have p284 : 0 ≤ (0 : Int) := (by omega)
        have q284 : 0 < (l0.length : Int) := of_decide_eq_true (by first | (with_reducible assumption) | assumption)
        obtain ⟨ad284, A284_7, c284_7, e284, hx284_0, hx284_1, hx284_2, hx284_3, hx284_4, hx284_5, hx284_6, hx284_7, hl284_7, hi284_7⟩ := at_T32 HR0.out 0 p284 q284
        obtain rfl : ad283 = ad284 := (by injection e284)
        have qi284 : (0 < l0.length) = True := eq_true (by omega)
        (try rw [sZ] at hx284_0)
        (try rw [sZ] at hx284_1)
        (try rw [sZ] at hx284_2)
        (try rw [sZ] at hx284_3)
        (try rw [sZ] at hx284_4)
        (try rw [sZ] at hx284_5)
        (try rw [sZ] at hx284_6)
        (try rw [sZ] at hx284_7)
        have HR284_7 := Aside0.mk hi284_7
        have HC284_7 := Aside0.mk hl284_7
        clear hi284_7 hl284_7
        replace p284 := eq_true p284
        replace q284 := eq_true q284
        have ea_ := Option.some.inj (hx283_7.symm.trans hx284_7)
        injection ea_ with ea_ en_ ec_
        subst ea_
        subst ec_
        clear en_
        have p285 : 0 ≤ (x3_2 : Int) := of_decide_eq_true (by first | (with_reducible assumption) | assumption)
        have q285 : x3_2 < (((rd_T32 l0 0).f4).length : Int) := of_decide_eq_true (by first | (with_reducible assumption) | assumption)
        obtain ⟨ad285, A285_7, c285_7, e285, hx285_0, hx285_1, hx285_2, hx285_3, hx285_4, hx285_5, hx285_6, hx285_7, hl285_7, hi285_7⟩ := at_T32 HR284_7.out x3_2 p285 q285
        cases e285
        have HR285_7 := Aside0.mk hi285_7
        have HC285_7 := Aside0.mk hl285_7
        clear hi285_7 hl285_7
        replace p285 := eq_true p285
        replace q285 := eq_true q285
        go_wp2_with (first | ((with_reducible refine gate_callee (f := 39) rfl ?_); refine goesL_ (some 45) rfl rfl Try.func39 (by kernel_rfl) rfl #[.pointer (some (ad285.add ((x3_2).toNat * 8)))] rfl (by (try simp only [List.map_toArray, List.map_cons, List.map_nil]); first | done | rfl | (simp only [List.length_drop, List.length_take]; rfl)) ?_; (with_reducible refine (ih k2 (by have := HJ1.out; have := HK2.out; omega) _ [rd_T32 ((rd_T32 l0 0).f4) x3_2] false _ ?side1 A11.out).mono ?_); (case side1 => first | exact (C_one (by exact sD HR284_7.out) z32 (x3_2 : Int) (of_eq_true p285) (by have h_ := q285; first | exact of_eq_true h_ | exact h_ | exact of_decide_eq_true (by assumption))) | (have h_ := (C_one (by exact sD HR284_7.out) z32 (x3_2 : Int) (of_eq_true p285) (by have h_ := q285; first | exact of_eq_true h_ | exact h_ | exact of_decide_eq_true (by assumption))); first | exact h_ | simpa using h_)); rintro e w' ⟨rfl, ⟨nd, rfl⟩⟩; refine ⟨_, rfl, ?_⟩))
        go_ret
        exact ⟨by first | rfl | (simp; done) | (simp [*]; done), by repeat (first | exact Drawn0.refl _ | apply Drawn0.step)⟩
       rw [if_neg c10] at H
       exact absurd H (by simp)
      rw [if_neg c9] at H
      have c9b0 := decide_eq_false c9
      clear c9
      obtain rfl := Option.some.inj H
      have p283 : 0 ≤ (0 : Int) := (by omega)
      have q283 : 0 < (l0.length : Int) := of_decide_eq_true (by first | (with_reducible assumption) | assumption)
      obtain ⟨ad283, A283_7, c283_7, e283, hx283_0, hx283_1, hx283_2, hx283_3, hx283_4, hx283_5, hx283_6, hx283_7, hl283_7, hi283_7⟩ := at_T32 HR0.out 0 p283 q283
      cases e283
      have qi283 : (0 < l0.length) = True := eq_true (by omega)
      (try rw [sZ] at hx283_0)
      (try rw [sZ] at hx283_1)
      (try rw [sZ] at hx283_2)
      (try rw [sZ] at hx283_3)
      (try rw [sZ] at hx283_4)
      (try rw [sZ] at hx283_5)
      (try rw [sZ] at hx283_6)
      (try rw [sZ] at hx283_7)
      have HR283_7 := Aside0.mk hi283_7
      have HC283_7 := Aside0.mk hl283_7
      clear hi283_7 hl283_7
      replace p283 := eq_true p283
      replace q283 := eq_true q283
      go_wp2
      go_ret
      exact ⟨by first | rfl | (simp; done) | (simp [*]; done), by repeat (first | exact Drawn0.refl _ | apply Drawn0.step)⟩
     rw [if_neg c8] at H
     exact absurd H (by simp)
end Go.Proofs.Ytfpkngdoijpafaa.PFnExactValidGen
