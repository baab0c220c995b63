/- Printed functions: impl_ImageSum, strconv_FormatInt_40, impl_decimal, impl_SealImage, laws_FnExactSealImage. -/
import Derived.Test.YtlcllofghiialaaDoorYSiP0
import Derived.Test.YtlcllofghiialaaDoorYSiP1
namespace Go.Proofs.YtlcllofghiialaaDoor.PFnExactSealImage
open Go.RowKit Go.Proofs.YtlcllofghiialaaDoorG Go.Proofs.YtlcllofghiialaaDoorW.PrintWords Go.Proofs.YtlcllofghiialaaDoorW.PrintLast Go.Proofs.YtlcllofghiialaaDoorW.PrintMore
attribute [local go_sem] max2_int min2_int max_two min_two max_three min_three max_four min_four   -- for this text's walks alone
set_option linter.unusedVariables false
set_option linter.unusedSimpArgs false
/-! ### impl_ImageSum: function 22 -/
def impl_ImageSum.l0 : Nat → ByteArray → Int → Int → Int → Int → Option (Int)
 | 0, _, _, _, _, _ => none
 | k + 1, x0, x3, x4, x7, x8 => if x8 < x7 then (if 0 ≤ x8 then (if x8 < (x0.size : Int) then (impl_ImageSum.l0 k x0 (Int.tmod (wrap64 (x3 + (wrap64 (bt x0 x8)))) 65521) (Int.tmod (wrap64 (x4 + (Int.tmod (wrap64 (x3 + (wrap64 (bt x0 x8)))) 65521))) 65521) x7 (wrap64 (x8 + 1))) else (none)) else (none)) else (some (wrap64 ((wrap64 (65536 * x4)) + x3)))
def impl_ImageSum.f (k : Nat) (a0 : ByteArray) : Option (Int) := impl_ImageSum.l0 k a0 1 0 (a0.size : Int) 0
set_option maxHeartbeats 8000000 in
set_option maxRecDepth 100000 in
theorem impl_ImageSum.calls (k : Nat) (a0 : ByteArray) (r : Int) (w : World) (h : impl_ImageSum.f k a0 = some r) :
  Calls Tryd.prog 22 #[.string a0] w fun e w' => e = .returned (.int .i64 r) ∧ Drawn0 w w' := by
 have H : (impl_ImageSum.l0 k a0 1 0 (a0.size : Int) 0) = some r := h
 clear h
 have H' := Aside0.mk H
 clear H
 go_enter Tryd.func22, Tryd.ntmps22
 go_wp2
 go_loopg [3, 4, 8] k (fun kq v3 v4 v8 w' => ∃ (x3_1 : Int) (x4_1 : Int) (x8_1 : Int), v3 = .int .i64 x3_1 ∧ v4 = .int .i64 x4_1 ∧ v8 = .int .i64 x8_1 ∧ Aside0 (impl_ImageSum.l0 kq a0 x3_1 x4_1 (a0.size : Int) x8_1 = some r) ∧ Aside0 (kq ≤ k) ∧ Drawn0 w w')
 case atStart => exact ⟨(1), (0), (0), sr, sr, sr, H', ⟨Nat.le_refl _⟩, by repeat (first | exact Drawn0.refl _ | apply Drawn0.step)⟩
 case round =>
  clear H'
  obtain ⟨x3_1, x4_1, x8_1, rfl, rfl, rfl, HA, HK1, ⟨m1, rfl⟩⟩ := hrel
  cases gk with
  | zero => exact absurd HA.out (by simp [impl_ImageSum.l0])
  | succ k1 =>
   have H := HA.out
   clear HA
   simp only [impl_ImageSum.l0] at H
   by_cases c2 : x8_1 < (a0.size : Int)
   ·rw [if_pos c2] at H
    have c2b0 := decide_eq_true c2
    clear c2
    by_cases c3 : 0 ≤ x8_1
    ·rw [if_pos c3] at H
     have c3b0 := decide_eq_true c3
     clear c3
     by_cases c4 : x8_1 < (a0.size : Int)
     ·rw [if_pos c4] at H
      have c4b0 := decide_eq_true c4
      clear c4
      have H' := Aside0.mk H
      clear H
      have p5 : 0 ≤ (x8_1 : Int) := of_decide_eq_true (by first | (with_reducible assumption) | assumption)
      have q5 : x8_1 < (a0.size : Int) := of_decide_eq_true (by first | (with_reducible assumption) | assumption)
      have hx5 := bt_at a0 x8_1
      replace p5 := eq_true p5
      replace q5 := eq_true q5
      go_wp2
      go_roundg k1
      case measure => have := HK1.out; omega
      case rel => exact ⟨(Int.tmod (wrap64 (x3_1 + (wrap64 (bt a0 x8_1)))) 65521), (Int.tmod (wrap64 (x4_1 + (Int.tmod (wrap64 (x3_1 + (wrap64 (bt a0 x8_1)))) 65521))) 65521), (wrap64 (x8_1 + 1)), sr, sr, sr, H', ⟨by have := HK1.out; omega⟩, by repeat (first | exact Drawn0.refl _ | apply Drawn0.step)⟩
     rw [if_neg c4] at H
     exact absurd H (by simp)
    rw [if_neg c3] at H
    exact absurd H (by simp)
   rw [if_neg c2] at H
   have c2b0 := decide_eq_false c2
   clear c2
   obtain rfl := Option.some.inj H
   go_wp2
   go_ret
   exact ⟨by first | rfl | (simp; done) | (simp [*]; done), by repeat (first | exact Drawn0.refl _ | apply Drawn0.step)⟩

/-! ### strconv_FormatInt_40: function 40 -/
def strconv_FormatInt_40.f (a0 : Int) (a1 : Int) : Option (ByteArray) := if a1 = 10 then (if -9223372036854775808 ≤ a0 then (if a0 ≤ 9223372036854775807 then (some ⟨(Lib.itoa a0).toArray⟩) else (none)) else (none)) else (none)
theorem strconv_FormatInt_40.calls (a0 : Int) (a1 : Int) (r : ByteArray) (w : World) (h : strconv_FormatInt_40.f a0 a1 = some r) (HT : EnvT w) :
  Calls Tryd.prog 40 #[.int .i64 a0, .int .i64 a1] w fun e w' => e = .returned (.string r) ∧ Below w.heap.size w w' := by
 unfold strconv_FormatInt_40.f at h
 split at h
 · rename_i h1
   subst h1
   split at h
   · split at h
     · rename_i h0 h2
       obtain rfl := Option.some.inj h
       exact format_calls a0 h0 h2 w HT
     · cases h
   · cases h
 · cases h

/-! ### impl_decimal: function 21 -/
def impl_decimal.f (a0 : Int) : Option (ByteArray) := (strconv_FormatInt_40.f a0 10).bind fun t129 => (some t129)
set_option maxHeartbeats 8000000 in
set_option maxRecDepth 100000 in
theorem impl_decimal.calls (a0 : Int) (r : ByteArray) (w : World) (h : impl_decimal.f a0 = some r) (HT : EnvT w) :
  Calls Tryd.prog 21 #[.int .i64 a0] w fun e w' => e = .returned (.string r) ∧ Below w.heap.size w w' := by
 have HB := Aside0.mk (Below.refl w.heap.size w)
 have H : ((strconv_FormatInt_40.f a0 10).bind fun t129 => (some t129)) = some r := h
 clear h
 obtain ⟨t129, A2, H⟩ := sO H
 obtain rfl := Option.some.inj H
 go_enter Tryd.func21, Tryd.ntmps21
 go_wp2_with (first | ((with_reducible refine gate_callee (f := 40) rfl ?_); refine sC (some 4) Tryd.func40 #[.int .i64 a0, .int .i64 10] (strconv_FormatInt_40.calls a0 10 t129 _ A2.out (by first | exact HT | exact EnvT.below HT (sH HB.out))) ?_; rintro e w3 ⟨rfl, hb⟩; refine ⟨_, rfl, ?_⟩; have n0_ := sB HB hb; clear HB; have HB := n0_; clear n0_; (try clear hb); (try clear hb2); (try clear hk); (try clear hi)))
 go_ret
 exact ⟨sq, sb⟩

/-! ### impl_SealImage: function 8 -/
def impl_SealImage.f (k : Nat) (a0 : ByteArray) : Option (ByteArray) := if a0.size + 2 ≤ 9223372036854775807 then ((impl_ImageSum.f k a0).bind fun t130 => ((impl_decimal.f t130).bind fun t131 => (if a0.size + 2 + t131.size ≤ 9223372036854775807 then (some ((a0 ++ (⟨#[32, 35]⟩ : ByteArray)) ++ t131)) else (none)))) else (none)
set_option maxHeartbeats 8000000 in
set_option maxRecDepth 100000 in
theorem impl_SealImage.calls (k : Nat) (a0 : ByteArray) (r : ByteArray) (w : World) (h : impl_SealImage.f k a0 = some r) (HT : EnvT w) :
  Calls Tryd.prog 8 #[.string a0] w fun e w' => e = .returned (.string r) ∧ Below w.heap.size w w' := by
 have HB := Aside0.mk (Below.refl w.heap.size w)
 have H : (if a0.size + 2 ≤ 9223372036854775807 then ((impl_ImageSum.f k a0).bind fun t130 => ((impl_decimal.f t130).bind fun t131 => (if a0.size + 2 + t131.size ≤ 9223372036854775807 then (some ((a0 ++ (⟨#[32, 35]⟩ : ByteArray)) ++ t131)) else (none)))) else (none)) = some r := h
 clear h
 by_cases c2 : a0.size + 2 ≤ 9223372036854775807
 ·rw [if_pos c2] at H
  have c2b0 := eq_true c2
  have c2b1 := decide_eq_true c2
  try have c2b2 : (9223372036854775807 < a0.size + 2) = False := eq_false (Nat.not_lt.2 c2)
  obtain ⟨t130, A3, H⟩ := sO H
  obtain ⟨t131, A4, H⟩ := sO H
  by_cases c5 : a0.size + 2 + t131.size ≤ 9223372036854775807
  ·rw [if_pos c5] at H
   have c5b0 := eq_true c5
   have c5b1 := decide_eq_true c5
   try have c5b2 : (9223372036854775807 < a0.size + 2 + t131.size) = False := eq_false (Nat.not_lt.2 c5)
   obtain rfl := Option.some.inj H
   go_enter Tryd.func8, Tryd.ntmps8
   go_wp2_with (first | ((with_reducible refine gate_callee (f := 22) rfl ?_); refine sC (some 6) Tryd.func22 #[.string a0] (impl_ImageSum.calls k a0 t130 _ A3.out) ?_; rintro e w' ⟨rfl, ⟨nd, rfl⟩⟩; refine ⟨_, rfl, ?_⟩) | ((with_reducible refine gate_callee (f := 21) rfl ?_); refine sC (some 7) Tryd.func21 #[.int .i64 t130] (impl_decimal.calls t130 t131 _ A4.out (by first | exact HT | exact EnvT.below HT (sH HB.out))) ?_; rintro e w6 ⟨rfl, hb⟩; refine ⟨_, rfl, ?_⟩; have n0_ := sB HB hb; clear HB; have HB := n0_; clear n0_; (try clear hb); (try clear hb2); (try clear hk); (try clear hi)))
   go_ret
   exact ⟨sq, sb⟩
  rw [if_neg c5] at H
  exact absurd H (by simp)
 rw [if_neg c2] at H
 exact absurd H (by simp)

/-! ### laws_FnExactSealImage: function 3 -/
def laws_FnExactSealImage.f (k : Nat) (a0 : ByteArray) : Option (Bool) := if (a0.size : Int) > 1048576 then (some true) else ((spec_SealImage.f k a0).bind fun t132 => ((impl_SealImage.f k a0).bind fun t133 => (if t133.toList = t132.toList then (some true) else (some false))))
set_option maxHeartbeats 8000000 in
set_option maxRecDepth 100000 in
theorem laws_FnExactSealImage.calls (k : Nat) (a0 : ByteArray) (r : Bool) (w : World) (h : laws_FnExactSealImage.f k a0 = some r) (HT : EnvT w) :
  Calls Tryd.prog 3 #[.string a0] w fun e w' => e = .returned (.bool r) ∧ Below w.heap.size w w' := by
 have HB := Aside0.mk (Below.refl w.heap.size w)
 have H : (if (a0.size : Int) > 1048576 then (some true) else ((spec_SealImage.f k a0).bind fun t132 => ((impl_SealImage.f k a0).bind fun t133 => (if t133.toList = t132.toList then (some true) else (some false))))) = some r := h
 clear h
 by_cases c2 : (a0.size : Int) > 1048576
 ·rw [if_pos c2] at H
  have c2b0 : decide (1048576 < (a0.size : Int)) = true := decide_eq_true c2
  have c2b1 : decide (1048576 < a0.size) = true := decide_eq_true (by omega)
  clear c2
  obtain rfl := Option.some.inj H
  go_enter Tryd.func3, Tryd.ntmps3
  go_wp2
  go_ret
  exact ⟨sq, sb⟩
 rw [if_neg c2] at H
 have c2b0 : decide (1048576 < (a0.size : Int)) = false := decide_eq_false c2
 have c2b1 : decide (1048576 < a0.size) = false := decide_eq_false (by omega)
 clear c2
 obtain ⟨t132, A3, H⟩ := sO H
 obtain ⟨t133, A4, H⟩ := sO H
 by_cases c5 : t133.toList = t132.toList
 ·rw [if_pos c5] at H
  have c5b0 : (t133.toList == t132.toList) = true := beq_iff_eq.mpr c5
  have c5b1 : (t133.toList != t132.toList) = false := bne_eq_false_iff_eq.mpr c5
  clear c5
  obtain rfl := Option.some.inj H
  go_enter Tryd.func3, Tryd.ntmps3
  go_wp2_with (first | ((with_reducible refine gate_callee (f := 7) rfl ?_); refine sC (some 9) Tryd.func7 #[.string a0] (spec_SealImage.calls k a0 t132 _ A3.out) ?_; rintro e w6 ⟨rfl, hb⟩; refine ⟨_, rfl, ?_⟩; have n0_ := sB HB hb; clear HB; have HB := n0_; clear n0_; (try clear hb); (try clear hb2); (try clear hk); (try clear hi)) | ((with_reducible refine gate_callee (f := 8) rfl ?_); refine sC (some 11) Tryd.func8 #[.string a0] (impl_SealImage.calls k a0 t133 _ A4.out (by first | exact HT | exact EnvT.below HT (sH HB.out))) ?_; rintro e w7 ⟨rfl, hb⟩; refine ⟨_, rfl, ?_⟩; have n0_ := sB HB hb; clear HB; have HB := n0_; clear n0_; (try clear hb); (try clear hb2); (try clear hk); (try clear hi)))
  go_ret
  exact ⟨sq, sb⟩
 rw [if_neg c5] at H
 have c5b0 : (t133.toList == t132.toList) = false := beq_eq_false_iff_ne.mpr c5
 have c5b1 : (t133.toList != t132.toList) = true := bne_iff_ne.mpr c5
 obtain rfl := Option.some.inj H
 go_enter Tryd.func3, Tryd.ntmps3
 go_wp2_with (first | ((with_reducible refine gate_callee (f := 7) rfl ?_); refine sC (some 9) Tryd.func7 #[.string a0] (spec_SealImage.calls k a0 t132 _ A3.out) ?_; rintro e w8 ⟨rfl, hb⟩; refine ⟨_, rfl, ?_⟩; have n0_ := sB HB hb; clear HB; have HB := n0_; clear n0_; (try clear hb); (try clear hb2); (try clear hk); (try clear hi)) | ((with_reducible refine gate_callee (f := 8) rfl ?_); refine sC (some 11) Tryd.func8 #[.string a0] (impl_SealImage.calls k a0 t133 _ A4.out (by first | exact HT | exact EnvT.below HT (sH HB.out))) ?_; rintro e w9 ⟨rfl, hb⟩; refine ⟨_, rfl, ?_⟩; have n0_ := sB HB hb; clear HB; have HB := n0_; clear n0_; (try clear hb); (try clear hb2); (try clear hk); (try clear hi)))
 go_ret
 exact ⟨sq, sb⟩
end Go.Proofs.YtlcllofghiialaaDoor.PFnExactSealImage
