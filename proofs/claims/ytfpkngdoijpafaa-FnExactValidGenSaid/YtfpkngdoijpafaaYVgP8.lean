/- Printed functions: spec_l22Size, spec_l22Ok. -/
import Derived.Test.YtfpkngdoijpafaaYVgP0
import Derived.Test.YtfpkngdoijpafaaYVgP7
namespace Go.Proofs.Ytfpkngdoijpafaa.PFnExactValidGen
open Go.RowKit Go.Proofs.YtfpkngdoijpafaaG Go.Proofs.YtfpkngdoijpafaaW.PrintWords Go.Proofs.YtfpkngdoijpafaaW.PrintLast Go.Proofs.YtfpkngdoijpafaaW.PrintMore
attribute [local go_sem] max2_int min2_int max_two min_two max_three min_three max_four min_four   -- for this text's walks alone
set_option linter.unusedVariables false
set_option linter.unusedSimpArgs false
/-! ### spec_l22Size: function 67 -/
mutual
def spec_l22Size.l0 : Nat → List (S32) → Int → Int → Option (Int)
 | 0, _, _, _ => none
 | k + 1, x0, x3, x4 => if 0 < (x0.length : Int) then (if x4 < (((rd_T32 x0 0).f4).length : Int) then (if x3 ≤ 60 then (if 0 ≤ x4 then ((spec_l22Size.f k [rd_T32 ((rd_T32 x0 0).f4) x4]).bind fun t189 => (spec_l22Size.l0 k x0 (wrap64 (x3 + t189)) (wrap64 (x4 + 1)))) else (none)) else (some x3)) else (some x3)) else (none)
def spec_l22Size.f : Nat → List (S32) → Option (Int)
 | 0, _ => none
 | k + 1, l0 => (spec_l22Shape.f k l0).bind fun t185 => (if t185 = true then (spec_l22Size.l0 k l0 1 0) else (some 61))
end
set_option maxHeartbeats 8000000 in
set_option maxRecDepth 100000 in
theorem spec_l22Size.calls (k : Nat) : ∀ (A0 : Option Addr) (l0 : List (S32)) (r : Int) (w : World) (hr0 : Kd.C k32 w A0 l0.length l0) (h : spec_l22Size.f k l0 = some r),
  Calls Try.prog 67 #[.pointer A0] w fun e w' => e = .returned (.int .i64 r) ∧ Below w.heap.size w w' := by
 induction k using Nat.strongRecOn with
 | _ k ih =>
 intro A0 l0 r w hr0 h
 cases k with
 | zero => exact absurd h (by simp [spec_l22Size.f])
 | succ k =>
 simp only [spec_l22Size.f] at h
 have HR0 := Aside0.mk hr0
 have HC0 := Aside0.mk (Nat.le_refl l0.length)
 clear hr0
 have HB := Aside0.mk (Below.refl w.heap.size w)
 have H : ((spec_l22Shape.f k l0).bind fun t185 => (if t185 = true then (spec_l22Size.l0 k l0 1 0) else (some 61))) = some r := h
 clear h
 obtain ⟨t185, A2, H⟩ := sO H
 by_cases c3 : t185 = true
 ·subst c3
  rewrite [if_pos rfl] at H
  have H' := Aside0.mk H
  clear H
  go_enter Try.func67, Try.ntmps67
  go_wp2_with (first | ((with_reducible refine gate_callee (f := 98) rfl ?_); refine sC (some 6) Try.func98 #[.pointer A0] (spec_l22Shape.calls k _ l0 true _ ?side1 A2.out) ?_; (case side1 => exact sD HR0.out); rintro e w4 ⟨rfl, hb⟩; refine ⟨_, rfl, ?_⟩; have n0_ := sB HB hb; clear HB; have HB := n0_; clear n0_; (try clear hb); (try clear hb2); (try clear hk); (try clear hi)))
  go_loopg [3, 4] k (fun kq v3 v4 w' => ∃ (x3_1 : Int) (x4_1 : Int), v3 = .int .i64 x3_1 ∧ v4 = .int .i64 x4_1 ∧ Aside0 (spec_l22Size.l0 kq l0 x3_1 x4_1 = some r) ∧ Aside0 (kq ≤ k) ∧ Aside0 (Below w.heap.size w w'))
  case atStart => exact ⟨(1), (0), sr, sr, H', ⟨Nat.le_refl _⟩, ⟨sb⟩⟩
  case round =>
   clear H'
   try clear p2
   try clear c3
   obtain ⟨x3_1, x4_1, rfl, rfl, HA, HK1, HB⟩ := hrel
   cases gk with
   | zero => exact absurd HA.out (by simp [spec_l22Size.l0])
   | succ k1 =>
    have H := HA.out
    clear HA
    simp only [spec_l22Size.l0] at H
    by_cases c5 : 0 < (l0.length : Int)
    ·rw [if_pos c5] at H
     have c5b0 := decide_eq_true c5
     have c5b1 : decide (0 < l0.length) = true := decide_eq_true (by omega)
     clear c5
     by_cases c6 : x4_1 < (((rd_T32 l0 0).f4).length : Int)
     ·rw [if_pos c6] at H
      have c6b0 := decide_eq_true c6
      clear c6
      by_cases c7 : x3_1 ≤ 60
      ·rw [if_pos c7] at H
       have c7b0 := decide_eq_true c7
       clear c7
       by_cases c8 : 0 ≤ x4_1
       ·rw [if_pos c8] at H
        have c8b0 := decide_eq_true c8
        clear c8
        obtain ⟨t189, A9, H⟩ := sO H
        have H' := Aside0.mk H
        clear H
        have p186 : 0 ≤ (0 : Int) := (by omega)
        have q186 : 0 < (l0.length : Int) := of_decide_eq_true (by first | (with_reducible assumption) | assumption)
        obtain ⟨ad186, A186_7, c186_7, e186, hx186_0, hx186_1, hx186_2, hx186_3, hx186_4, hx186_5, hx186_6, hx186_7, hl186_7, hi186_7⟩ := at_T32 HR0.out 0 p186 q186
        cases e186
        have qi186 : (0 < l0.length) = True := eq_true (by omega)
        (try rw [sZ] at hx186_0)
        (try rw [sZ] at hx186_1)
        (try rw [sZ] at hx186_2)
        (try rw [sZ] at hx186_3)
        (try rw [sZ] at hx186_4)
        (try rw [sZ] at hx186_5)
        (try rw [sZ] at hx186_6)
        (try rw [sZ] at hx186_7)
        replace hx186_0 := sX HB hx186_0
        replace hx186_1 := sX HB hx186_1
        replace hx186_2 := sX HB hx186_2
        replace hx186_3 := sX HB hx186_3
        replace hx186_4 := sX HB hx186_4
        replace hx186_5 := sX HB hx186_5
        replace hx186_6 := sX HB hx186_6
        replace hx186_7 := sX HB hx186_7
        have HR186_7 := Aside0.mk hi186_7
        have HC186_7 := Aside0.mk hl186_7
        clear hi186_7 hl186_7
        replace p186 := eq_true p186
        replace q186 := eq_true q186
        have p187 : 0 ≤ (0 : Int) := (by omega)
        have q187 : 0 < (l0.length : Int) := of_decide_eq_true (by first | (with_reducible assumption) | assumption)
        obtain ⟨ad187, A187_7, c187_7, e187, hx187_0, hx187_1, hx187_2, hx187_3, hx187_4, hx187_5, hx187_6, hx187_7, hl187_7, hi187_7⟩ := at_T32 HR0.out 0 p187 q187
        obtain rfl : ad186 = ad187 := (by injection e187)
        have qi187 : (0 < l0.length) = True := eq_true (by omega)
        (try rw [sZ] at hx187_0)
        (try rw [sZ] at hx187_1)
        (try rw [sZ] at hx187_2)
        (try rw [sZ] at hx187_3)
        (try rw [sZ] at hx187_4)
        (try rw [sZ] at hx187_5)
        (try rw [sZ] at hx187_6)
        (try rw [sZ] at hx187_7)
        replace hx187_0 := sX HB hx187_0
        replace hx187_1 := sX HB hx187_1
        replace hx187_2 := sX HB hx187_2
        replace hx187_3 := sX HB hx187_3
        replace hx187_4 := sX HB hx187_4
        replace hx187_5 := sX HB hx187_5
        replace hx187_6 := sX HB hx187_6
        replace hx187_7 := sX HB hx187_7
        have HR187_7 := Aside0.mk hi187_7
        have HC187_7 := Aside0.mk hl187_7
        clear hi187_7 hl187_7
        replace p187 := eq_true p187
        replace q187 := eq_true q187
        have ea_ := Option.some.inj (hx186_7.symm.trans hx187_7)
        injection ea_ with ea_ en_ ec_
        subst ea_
        subst ec_
        clear en_
        have p188 : 0 ≤ (x4_1 : Int) := of_decide_eq_true (by first | (with_reducible assumption) | assumption)
        have q188 : x4_1 < (((rd_T32 l0 0).f4).length : Int) := of_decide_eq_true (by first | (with_reducible assumption) | assumption)
        obtain ⟨ad188, A188_7, c188_7, e188, hx188_0, hx188_1, hx188_2, hx188_3, hx188_4, hx188_5, hx188_6, hx188_7, hl188_7, hi188_7⟩ := at_T32 HR187_7.out x4_1 p188 q188
        cases e188
        replace hx188_0 := sX HB hx188_0
        replace hx188_1 := sX HB hx188_1
        replace hx188_2 := sX HB hx188_2
        replace hx188_3 := sX HB hx188_3
        replace hx188_4 := sX HB hx188_4
        replace hx188_5 := sX HB hx188_5
        replace hx188_6 := sX HB hx188_6
        replace hx188_7 := sX HB hx188_7
        have HR188_7 := Aside0.mk hi188_7
        have HC188_7 := Aside0.mk hl188_7
        clear hi188_7 hl188_7
        replace p188 := eq_true p188
        replace q188 := eq_true q188
        go_wp2_with (first | ((with_reducible refine gate_callee (f := 67) rfl ?_); refine goesL_ (some 28) rfl rfl Try.func67 (by kernel_rfl) rfl #[.pointer (some (ad188.add ((x4_1).toNat * 8)))] rfl (by (try simp only [List.map_toArray, List.map_cons, List.map_nil]); first | done | rfl | (simp only [List.length_drop, List.length_take]; rfl)) ?_; (with_reducible refine (ih k1 (by have := HK1.out; omega) _ [rd_T32 ((rd_T32 l0 0).f4) x4_1] t189 _ ?side1 A9.out).mono ?_); (case side1 => first | exact (C_one (by exact sD (Kd.C_below HR187_7.out HB.out)) z32 (x4_1 : Int) (of_eq_true p188) (by have h_ := q188; first | exact of_eq_true h_ | exact h_ | exact of_decide_eq_true (by assumption))) | (have h_ := (C_one (by exact sD (Kd.C_below HR187_7.out HB.out)) z32 (x4_1 : Int) (of_eq_true p188) (by have h_ := q188; first | exact of_eq_true h_ | exact h_ | exact of_decide_eq_true (by assumption))); first | exact h_ | simpa using h_)); rintro e w10 ⟨rfl, hb⟩; refine ⟨_, rfl, ?_⟩; have n0_ := sB HB hb; clear HB; have HB := n0_; clear n0_; (try clear hb); (try clear hb2); (try clear hk); (try clear hi)))
        go_roundg k1
        case measure => have := HK1.out; omega
        case rel => exact ⟨(wrap64 (x3_1 + t189)), (wrap64 (x4_1 + 1)), sr, sr, H', ⟨by have := HK1.out; omega⟩, ⟨sb⟩⟩
       rw [if_neg c8] at H
       exact absurd H (by simp)
      rw [if_neg c7] at H
      have c7b0 := decide_eq_false c7
      clear c7
      obtain rfl := Option.some.inj H
      have p186 : 0 ≤ (0 : Int) := (by omega)
      have q186 : 0 < (l0.length : Int) := of_decide_eq_true (by first | (with_reducible assumption) | assumption)
      obtain ⟨ad186, A186_7, c186_7, e186, hx186_0, hx186_1, hx186_2, hx186_3, hx186_4, hx186_5, hx186_6, hx186_7, hl186_7, hi186_7⟩ := at_T32 HR0.out 0 p186 q186
      cases e186
      have qi186 : (0 < l0.length) = True := eq_true (by omega)
      (try rw [sZ] at hx186_0)
      (try rw [sZ] at hx186_1)
      (try rw [sZ] at hx186_2)
      (try rw [sZ] at hx186_3)
      (try rw [sZ] at hx186_4)
      (try rw [sZ] at hx186_5)
      (try rw [sZ] at hx186_6)
      (try rw [sZ] at hx186_7)
      replace hx186_0 := sX HB hx186_0
      replace hx186_1 := sX HB hx186_1
      replace hx186_2 := sX HB hx186_2
      replace hx186_3 := sX HB hx186_3
      replace hx186_4 := sX HB hx186_4
      replace hx186_5 := sX HB hx186_5
      replace hx186_6 := sX HB hx186_6
      replace hx186_7 := sX HB hx186_7
      have HR186_7 := Aside0.mk hi186_7
      have HC186_7 := Aside0.mk hl186_7
      clear hi186_7 hl186_7
      replace p186 := eq_true p186
      replace q186 := eq_true q186
      go_wp2
      go_ret
      exact ⟨sq, sb⟩
     rw [if_neg c6] at H
     have c6b0 := decide_eq_false c6
     clear c6
     obtain rfl := Option.some.inj H
     have p186 : 0 ≤ (0 : Int) := (by omega)
     have q186 : 0 < (l0.length : Int) := of_decide_eq_true (by first | (with_reducible assumption) | assumption)
     obtain ⟨ad186, A186_7, c186_7, e186, hx186_0, hx186_1, hx186_2, hx186_3, hx186_4, hx186_5, hx186_6, hx186_7, hl186_7, hi186_7⟩ := at_T32 HR0.out 0 p186 q186
     cases e186
     have qi186 : (0 < l0.length) = True := eq_true (by omega)
     (try rw [sZ] at hx186_0)
     (try rw [sZ] at hx186_1)
     (try rw [sZ] at hx186_2)
     (try rw [sZ] at hx186_3)
     (try rw [sZ] at hx186_4)
     (try rw [sZ] at hx186_5)
     (try rw [sZ] at hx186_6)
     (try rw [sZ] at hx186_7)
     replace hx186_0 := sX HB hx186_0
     replace hx186_1 := sX HB hx186_1
     replace hx186_2 := sX HB hx186_2
     replace hx186_3 := sX HB hx186_3
     replace hx186_4 := sX HB hx186_4
     replace hx186_5 := sX HB hx186_5
     replace hx186_6 := sX HB hx186_6
     replace hx186_7 := sX HB hx186_7
     have HR186_7 := Aside0.mk hi186_7
     have HC186_7 := Aside0.mk hl186_7
     clear hi186_7 hl186_7
     replace p186 := eq_true p186
     replace q186 := eq_true q186
     go_wp2
     go_ret
     exact ⟨sq, sb⟩
    rw [if_neg c5] at H
    exact absurd H (by simp)
 replace c3 := Bool.eq_false_iff.mpr c3
 subst c3
 rewrite [if_neg (show ¬ (false = true) by decide)] at H
 obtain rfl := Option.some.inj H
 go_enter Try.func67, Try.ntmps67
 go_wp2_with (first | ((with_reducible refine gate_callee (f := 98) rfl ?_); refine sC (some 6) Try.func98 #[.pointer A0] (spec_l22Shape.calls k _ l0 false _ ?side1 A2.out) ?_; (case side1 => exact sD HR0.out); rintro e w11 ⟨rfl, hb⟩; refine ⟨_, rfl, ?_⟩; have n0_ := sB HB hb; clear HB; have HB := n0_; clear n0_; (try clear hb); (try clear hb2); (try clear hk); (try clear hi)))
 go_ret
 exact ⟨sq, sb⟩

/-! ### spec_l22Ok: function 33 -/
def spec_l22Ok.f (k : Nat) (l0 : List (S32)) : Option (Bool) := (spec_l22Size.f k l0).bind fun t190 => (some (decide (t190 ≤ 60)))
set_option maxHeartbeats 8000000 in
set_option maxRecDepth 100000 in
theorem spec_l22Ok.calls (k : Nat) (A0 : Option Addr) (l0 : List (S32)) (r : Bool) (w : World) (hr0 : Kd.C k32 w A0 l0.length l0) (h : spec_l22Ok.f k l0 = some r) :
  Calls Try.prog 33 #[.pointer A0] w fun e w' => e = .returned (.bool r) ∧ Below w.heap.size w w' := by
 have HR0 := Aside0.mk hr0
 have HC0 := Aside0.mk (Nat.le_refl l0.length)
 clear hr0
 have HB := Aside0.mk (Below.refl w.heap.size w)
 have H : ((spec_l22Size.f k l0).bind fun t190 => (some (decide (t190 ≤ 60)))) = some r := h
 clear h
 obtain ⟨t190, A2, H⟩ := sO H
 obtain rfl := Option.some.inj H
 go_enter Try.func33, Try.ntmps33
 go_wp2_with (first | ((with_reducible refine gate_callee (f := 67) rfl ?_); refine sC (some 4) Try.func67 #[.pointer A0] (spec_l22Size.calls k _ l0 t190 _ ?side1 A2.out) ?_; (case side1 => exact sD HR0.out); rintro e w3 ⟨rfl, hb⟩; refine ⟨_, rfl, ?_⟩; have n0_ := sB HB hb; clear HB; have HB := n0_; clear n0_; (try clear hb); (try clear hb2); (try clear hk); (try clear hi)))
 go_ret
 exact ⟨sq, sb⟩
end Go.Proofs.Ytfpkngdoijpafaa.PFnExactValidGen
