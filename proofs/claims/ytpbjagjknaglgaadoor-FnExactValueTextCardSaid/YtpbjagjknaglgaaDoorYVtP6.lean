/- Printed functions: impl_within, impl_isObjectId, impl_isLetter, impl_isDigit, impl_isNameByte, impl_areAll_byte__impl_isNameByte, impl_IsName, impl_ValidValue. -/
import Derived.Test.YtpbjagjknaglgaaDoorYVtP0
import Derived.Test.YtpbjagjknaglgaaDoorYVtPE
namespace Go.Proofs.YtpbjagjknaglgaaDoor.PFnExactValueText
open Go.RowKit Go.Proofs.YtpbjagjknaglgaaDoorG Go.Proofs.YtpbjagjknaglgaaDoorW.PrintWords Go.Proofs.YtpbjagjknaglgaaDoorW.PrintLast Go.Proofs.YtpbjagjknaglgaaDoorW.PrintMore
attribute [local go_sem] max2_int min2_int max_two min_two max_three min_three max_four min_four   -- for this text's walks alone
set_option linter.unusedVariables false
set_option linter.unusedSimpArgs false
/-! ### impl_within: function 48 -/
def impl_within.f (a0 : Int) (a1 : Int) (a2 : Int) : Option (Bool) := if a0 ≥ a1 then (some (decide (a0 ≤ a2))) else (some false)
set_option maxHeartbeats 8000000 in
set_option maxRecDepth 100000 in
theorem impl_within.calls (a0 : Int) (a1 : Int) (a2 : Int) (r : Bool) (w : World) (h : impl_within.f a0 a1 a2 = some r) :
  Calls Tryd.prog 48 #[.int .i64 a0, .int .i64 a1, .int .i64 a2] w fun e w' => e = .returned (.bool r) ∧ Drawn0 w w' := by
 have H : (if a0 ≥ a1 then (some (decide (a0 ≤ a2))) else (some false)) = some r := h
 clear h
 by_cases c4 : a0 ≥ a1
 ·rw [if_pos c4] at H
  have c4b0 : decide (a1 ≤ a0) = true := decide_eq_true c4
  clear c4
  obtain rfl := Option.some.inj H
  go_enter Tryd.func48, Tryd.ntmps48
  go_wp2
  go_ret
  exact ⟨by first | rfl | (simp; done) | (simp [*]; done), by repeat (first | exact Drawn0.refl _ | apply Drawn0.step)⟩
 rw [if_neg c4] at H
 have c4b0 : decide (a1 ≤ a0) = false := decide_eq_false c4
 clear c4
 obtain rfl := Option.some.inj H
 go_enter Tryd.func48, Tryd.ntmps48
 go_wp2
 go_ret
 exact ⟨by first | rfl | (simp; done) | (simp [*]; done), by repeat (first | exact Drawn0.refl _ | apply Drawn0.step)⟩

/-! ### impl_isObjectId: function 100 -/
def impl_isObjectId.f (a0 : Int) : Option (Bool) := (impl_within.f a0 1 1000000).bind fun t138 => (some t138)
set_option maxHeartbeats 8000000 in
set_option maxRecDepth 100000 in
theorem impl_isObjectId.calls (a0 : Int) (r : Bool) (w : World) (h : impl_isObjectId.f a0 = some r) :
  Calls Tryd.prog 100 #[.int .i64 a0] w fun e w' => e = .returned (.bool r) ∧ Drawn0 w w' := by
 have H : ((impl_within.f a0 1 1000000).bind fun t138 => (some t138)) = some r := h
 clear h
 obtain ⟨t138, A2, H⟩ := sO H
 obtain rfl := Option.some.inj H
 go_enter Tryd.func100, Tryd.ntmps100
 go_wp2_with (first | ((with_reducible refine gate_callee (f := 48) rfl ?_); refine sC (some 4) Tryd.func48 #[.int .i64 a0, .int .i64 1, .int .i64 1000000] (impl_within.calls a0 1 1000000 t138 _ A2.out) ?_; rintro e w' ⟨rfl, ⟨nd, rfl⟩⟩; refine ⟨_, rfl, ?_⟩))
 go_ret
 exact ⟨by first | rfl | (simp; done) | (simp [*]; done), by repeat (first | exact Drawn0.refl _ | apply Drawn0.step)⟩

/-! ### impl_isLetter: function 106 -/
def impl_isLetter.f (a0 : Int) : Option (Bool) := if a0 ≥ 65 then (if a0 ≤ 90 then (some true) else (if a0 ≥ 97 then (some (decide (a0 ≤ 122))) else (some false))) else (if a0 ≥ 97 then (some (decide (a0 ≤ 122))) else (some false))
set_option maxHeartbeats 8000000 in
set_option maxRecDepth 100000 in
theorem impl_isLetter.calls (a0 : Int) (r : Bool) (w : World) (h : impl_isLetter.f a0 = some r) :
  Calls Tryd.prog 106 #[.int .u8 a0] w fun e w' => e = .returned (.bool r) ∧ Drawn0 w w' := by
 have H : (if a0 ≥ 65 then (if a0 ≤ 90 then (some true) else (if a0 ≥ 97 then (some (decide (a0 ≤ 122))) else (some false))) else (if a0 ≥ 97 then (some (decide (a0 ≤ 122))) else (some false))) = some r := h
 clear h
 by_cases c2 : a0 ≥ 65
 ·rw [if_pos c2] at H
  have c2b0 : decide (65 ≤ a0) = true := decide_eq_true c2
  clear c2
  by_cases c3 : a0 ≤ 90
  ·rw [if_pos c3] at H
   have c3b0 := decide_eq_true c3
   clear c3
   obtain rfl := Option.some.inj H
   go_enter Tryd.func106, Tryd.ntmps106
   go_wp2
   go_ret
   exact ⟨by first | rfl | (simp; done) | (simp [*]; done), by repeat (first | exact Drawn0.refl _ | apply Drawn0.step)⟩
  rw [if_neg c3] at H
  have c3b0 := decide_eq_false c3
  clear c3
  by_cases c4 : a0 ≥ 97
  ·rw [if_pos c4] at H
   have c4b0 : decide (97 ≤ a0) = true := decide_eq_true c4
   clear c4
   obtain rfl := Option.some.inj H
   go_enter Tryd.func106, Tryd.ntmps106
   go_wp2
   go_ret
   exact ⟨by first | rfl | (simp; done) | (simp [*]; done), by repeat (first | exact Drawn0.refl _ | apply Drawn0.step)⟩
  rw [if_neg c4] at H
  have c4b0 : decide (97 ≤ a0) = false := decide_eq_false c4
  clear c4
  obtain rfl := Option.some.inj H
  go_enter Tryd.func106, Tryd.ntmps106
  go_wp2
  go_ret
  exact ⟨by first | rfl | (simp; done) | (simp [*]; done), by repeat (first | exact Drawn0.refl _ | apply Drawn0.step)⟩
 rw [if_neg c2] at H
 have c2b0 : decide (65 ≤ a0) = false := decide_eq_false c2
 clear c2
 by_cases c5 : a0 ≥ 97
 ·rw [if_pos c5] at H
  have c5b0 : decide (97 ≤ a0) = true := decide_eq_true c5
  clear c5
  obtain rfl := Option.some.inj H
  go_enter Tryd.func106, Tryd.ntmps106
  go_wp2
  go_ret
  exact ⟨by first | rfl | (simp; done) | (simp [*]; done), by repeat (first | exact Drawn0.refl _ | apply Drawn0.step)⟩
 rw [if_neg c5] at H
 have c5b0 : decide (97 ≤ a0) = false := decide_eq_false c5
 clear c5
 obtain rfl := Option.some.inj H
 go_enter Tryd.func106, Tryd.ntmps106
 go_wp2
 go_ret
 exact ⟨by first | rfl | (simp; done) | (simp [*]; done), by repeat (first | exact Drawn0.refl _ | apply Drawn0.step)⟩

/-! ### impl_isDigit: function 128 -/
def impl_isDigit.f (a0 : Int) : Option (Bool) := if a0 ≥ 48 then (some (decide (a0 ≤ 57))) else (some false)
set_option maxHeartbeats 8000000 in
set_option maxRecDepth 100000 in
theorem impl_isDigit.calls (a0 : Int) (r : Bool) (w : World) (h : impl_isDigit.f a0 = some r) :
  Calls Tryd.prog 128 #[.int .u8 a0] w fun e w' => e = .returned (.bool r) ∧ Drawn0 w w' := by
 have H : (if a0 ≥ 48 then (some (decide (a0 ≤ 57))) else (some false)) = some r := h
 clear h
 by_cases c2 : a0 ≥ 48
 ·rw [if_pos c2] at H
  have c2b0 : decide (48 ≤ a0) = true := decide_eq_true c2
  clear c2
  obtain rfl := Option.some.inj H
  go_enter Tryd.func128, Tryd.ntmps128
  go_wp2
  go_ret
  exact ⟨by first | rfl | (simp; done) | (simp [*]; done), by repeat (first | exact Drawn0.refl _ | apply Drawn0.step)⟩
 rw [if_neg c2] at H
 have c2b0 : decide (48 ≤ a0) = false := decide_eq_false c2
 clear c2
 obtain rfl := Option.some.inj H
 go_enter Tryd.func128, Tryd.ntmps128
 go_wp2
 go_ret
 exact ⟨by first | rfl | (simp; done) | (simp [*]; done), by repeat (first | exact Drawn0.refl _ | apply Drawn0.step)⟩

/-! ### impl_isNameByte: function 108 -/
def impl_isNameByte.f (a0 : Int) : Option (Bool) := (impl_isLetter.f a0).bind fun t139 => (if t139 = true then (some true) else ((impl_isDigit.f a0).bind fun t140 => (if t140 = true then (some true) else (some (a0 == 95)))))
set_option maxHeartbeats 8000000 in
set_option maxRecDepth 100000 in
theorem impl_isNameByte.calls (a0 : Int) (r : Bool) (w : World) (h : impl_isNameByte.f a0 = some r) :
  Calls Tryd.prog 108 #[.int .u8 a0] w fun e w' => e = .returned (.bool r) ∧ Drawn0 w w' := by
 have H : ((impl_isLetter.f a0).bind fun t139 => (if t139 = true then (some true) else ((impl_isDigit.f a0).bind fun t140 => (if t140 = true then (some true) else (some (a0 == 95)))))) = some r := h
 clear h
 obtain ⟨t139, A2, H⟩ := sO H
 by_cases c3 : t139 = true
 ·subst c3
  rewrite [if_pos rfl] at H
  obtain rfl := Option.some.inj H
  go_enter Tryd.func108, Tryd.ntmps108
  go_wp2_with (first | ((with_reducible refine gate_callee (f := 106) rfl ?_); refine sC (some 4) Tryd.func106 #[.int .u8 a0] (impl_isLetter.calls a0 true _ A2.out) ?_; rintro e w' ⟨rfl, ⟨nd, rfl⟩⟩; refine ⟨_, rfl, ?_⟩))
  go_ret
  exact ⟨by first | rfl | (simp; done) | (simp [*]; done), by repeat (first | exact Drawn0.refl _ | apply Drawn0.step)⟩
 replace c3 := Bool.eq_false_iff.mpr c3
 subst c3
 rewrite [if_neg (show ¬ (false = true) by decide)] at H
 obtain ⟨t140, A4, H⟩ := sO H
 by_cases c5 : t140 = true
 ·subst c5
  rewrite [if_pos rfl] at H
  obtain rfl := Option.some.inj H
  go_enter Tryd.func108, Tryd.ntmps108
  go_wp2_with (first | ((with_reducible refine gate_callee (f := 106) rfl ?_); refine sC (some 4) Tryd.func106 #[.int .u8 a0] (impl_isLetter.calls a0 false _ A2.out) ?_; rintro e w' ⟨rfl, ⟨nd, rfl⟩⟩; refine ⟨_, rfl, ?_⟩) | (go_at_call 128; (with_reducible refine (impl_isDigit.calls a0 true _ A4.out).mono ?_); rintro e w' ⟨rfl, ⟨nd, rfl⟩⟩))
  go_ret
  exact ⟨by first | rfl | (simp; done) | (simp [*]; done), by repeat (first | exact Drawn0.refl _ | apply Drawn0.step)⟩
 replace c5 := Bool.eq_false_iff.mpr c5
 subst c5
 rewrite [if_neg (show ¬ (false = true) by decide)] at H
 obtain rfl := Option.some.inj H
 go_enter Tryd.func108, Tryd.ntmps108
 go_wp2_with (first | ((with_reducible refine gate_callee (f := 106) rfl ?_); refine sC (some 4) Tryd.func106 #[.int .u8 a0] (impl_isLetter.calls a0 false _ A2.out) ?_; rintro e w' ⟨rfl, ⟨nd, rfl⟩⟩; refine ⟨_, rfl, ?_⟩) | (go_at_call 128; (with_reducible refine (impl_isDigit.calls a0 false _ A4.out).mono ?_); rintro e w' ⟨rfl, ⟨nd, rfl⟩⟩))
 go_ret
 exact ⟨by first | rfl | (simp; done) | (simp [*]; done), by repeat (first | exact Drawn0.refl _ | apply Drawn0.step)⟩

/-! ### impl_areAll_byte__impl_isNameByte: function 107 -/
def impl_areAll_byte__impl_isNameByte.l0 : Nat → List Int → Int → Int → Option (Bool)
 | 0, _, _, _ => none
 | k + 1, x7, x8, x9 => if x9 < x8 then (if 0 ≤ x9 then (if x9 < (x7.length : Int) then ((impl_isNameByte.f (rd x7 x9)).bind fun t142 => (if t142 = true then (impl_areAll_byte__impl_isNameByte.l0 k x7 x8 (wrap64 (x9 + 1))) else (some false))) else (none)) else (none)) else (some true)
def impl_areAll_byte__impl_isNameByte.f (k : Nat) (l0 : List Int)  : Option (Bool) := impl_areAll_byte__impl_isNameByte.l0 k l0 (l0.length : Int) 0
set_option maxHeartbeats 8000000 in
set_option maxRecDepth 100000 in
theorem impl_areAll_byte__impl_isNameByte.calls (k : Nat) (A0 : Option Addr) (c0 : Nat) (l0 : List Int)  (r : Bool) (w : World) (hr0 : Kd.C (Kd.int .u8) w A0 l0.length l0) (hc0 : l0.length ≤ c0) (h : impl_areAll_byte__impl_isNameByte.f k l0 = some r) :
  Calls Tryd.prog 107 #[.slice A0 l0.length c0, .func (.func 108) #[] #[]] w fun e w' => e = .returned (.bool r) ∧ Drawn0 w w' := by
 have HR0 := Aside0.mk hr0
 have HC0 := Aside0.mk hc0
 clear hr0 hc0
 have H : (impl_areAll_byte__impl_isNameByte.l0 k l0 (l0.length : Int) 0) = some r := h
 clear h
 have H' := Aside0.mk H
 clear H
 go_enter Tryd.func107, Tryd.ntmps107
 go_wp2
 go_loopg [9] k (fun kq v9 w' => ∃ (x9_1 : Int), v9 = .int .i64 x9_1 ∧ Aside0 (impl_areAll_byte__impl_isNameByte.l0 kq l0 (l0.length : Int) x9_1 = some r) ∧ Aside0 (kq ≤ k) ∧ Drawn0 w w')
 case atStart => exact ⟨(0), sr, H', ⟨Nat.le_refl _⟩, by repeat (first | exact Drawn0.refl _ | apply Drawn0.step)⟩
 case round =>
  clear H'
  try clear p2
  obtain ⟨x9_1, rfl, HA, HK1, ⟨m1, rfl⟩⟩ := hrel
  cases gk with
  | zero => exact absurd HA.out (by simp [impl_areAll_byte__impl_isNameByte.l0])
  | succ k1 =>
   have H := HA.out
   clear HA
   simp only [impl_areAll_byte__impl_isNameByte.l0] at H
   by_cases c3 : x9_1 < (l0.length : Int)
   ·rw [if_pos c3] at H
    have c3b0 := decide_eq_true c3
    clear c3
    by_cases c4 : 0 ≤ x9_1
    ·rw [if_pos c4] at H
     have c4b0 := decide_eq_true c4
     clear c4
     by_cases c5 : x9_1 < (l0.length : Int)
     ·rw [if_pos c5] at H
      have c5b0 := decide_eq_true c5
      clear c5
      obtain ⟨t142, A6, H⟩ := sO H
      by_cases c7 : t142 = true
      ·subst c7
       rewrite [if_pos rfl] at H
       have H' := Aside0.mk H
       clear H
       have p141 : 0 ≤ (x9_1 : Int) := of_decide_eq_true (by first | (with_reducible assumption) | assumption)
       have q141 : x9_1 < (l0.length : Int) := of_decide_eq_true (by first | (with_reducible assumption) | assumption)
       obtain ⟨ad141, e141, hx141_0⟩ := Kd.at_int HR0.out x9_1 p141 q141
       cases e141
       replace p141 := eq_true p141
       replace q141 := eq_true q141
       go_wp2_with (first | (go_at_call 108; (with_reducible refine (impl_isNameByte.calls (rd l0 x9_1) true _ A6.out).mono ?_); rintro e w' ⟨rfl, ⟨nd, rfl⟩⟩))
       go_roundg k1
       case measure => have := HK1.out; omega
       case rel => exact ⟨(wrap64 (x9_1 + 1)), sr, H', ⟨by have := HK1.out; omega⟩, by repeat (first | exact Drawn0.refl _ | apply Drawn0.step)⟩
      replace c7 := Bool.eq_false_iff.mpr c7
      subst c7
      rewrite [if_neg (show ¬ (false = true) by decide)] at H
      obtain rfl := Option.some.inj H
      have p141 : 0 ≤ (x9_1 : Int) := of_decide_eq_true (by first | (with_reducible assumption) | assumption)
      have q141 : x9_1 < (l0.length : Int) := of_decide_eq_true (by first | (with_reducible assumption) | assumption)
      obtain ⟨ad141, e141, hx141_0⟩ := Kd.at_int HR0.out x9_1 p141 q141
      cases e141
      replace p141 := eq_true p141
      replace q141 := eq_true q141
      go_wp2_with (first | (go_at_call 108; (with_reducible refine (impl_isNameByte.calls (rd l0 x9_1) false _ A6.out).mono ?_); rintro e w' ⟨rfl, ⟨nd, rfl⟩⟩))
      go_ret
      exact ⟨by first | rfl | (simp; done) | (simp [*]; done), by repeat (first | exact Drawn0.refl _ | apply Drawn0.step)⟩
     rw [if_neg c5] at H
     exact absurd H (by simp)
    rw [if_neg c4] at H
    exact absurd H (by simp)
   rw [if_neg c3] at H
   have c3b0 := decide_eq_false c3
   clear c3
   obtain rfl := Option.some.inj H
   go_wp2
   go_ret
   exact ⟨by first | rfl | (simp; done) | (simp [*]; done), by repeat (first | exact Drawn0.refl _ | apply Drawn0.step)⟩

/-! ### impl_IsName: function 74 -/
def impl_IsName.f (k : Nat) (a0 : ByteArray) : Option (Bool) := if (a0.size : Int) ≥ 1 then (if (a0.size : Int) ≤ 12 then (if 0 < (a0.size : Int) then ((impl_isLetter.f (bt a0 0)).bind fun t143 => (if t143 = true then ((conv_bytes.f a0).bind fun t144 => ((impl_areAll_byte__impl_isNameByte.f k t144).bind fun t147 => (some t147))) else (some false))) else (none)) else (some false)) else (some false)
set_option maxHeartbeats 8000000 in
set_option maxRecDepth 100000 in
theorem impl_IsName.calls (k : Nat) (a0 : ByteArray) (r : Bool) (w : World) (h : impl_IsName.f k a0 = some r) :
  Calls Tryd.prog 74 #[.string a0] w fun e w' => e = .returned (.bool r) ∧ Below w.heap.size w w' := by
 have HB := Aside0.mk (Below.refl w.heap.size w)
 have H : (if (a0.size : Int) ≥ 1 then (if (a0.size : Int) ≤ 12 then (if 0 < (a0.size : Int) then ((impl_isLetter.f (bt a0 0)).bind fun t143 => (if t143 = true then ((conv_bytes.f a0).bind fun t144 => ((impl_areAll_byte__impl_isNameByte.f k t144).bind fun t147 => (some t147))) else (some false))) else (none)) else (some false)) else (some false)) = some r := h
 clear h
 by_cases c2 : (a0.size : Int) ≥ 1
 ·rw [if_pos c2] at H
  have c2b0 : decide (1 ≤ (a0.size : Int)) = true := decide_eq_true c2
  have c2b1 : decide (1 ≤ a0.size) = true := decide_eq_true (by omega)
  clear c2
  by_cases c3 : (a0.size : Int) ≤ 12
  ·rw [if_pos c3] at H
   have c3b0 := decide_eq_true c3
   have c3b1 : decide (a0.size ≤ 12) = true := decide_eq_true (by omega)
   clear c3
   by_cases c4 : 0 < (a0.size : Int)
   ·rw [if_pos c4] at H
    have c4b0 := decide_eq_true c4
    have c4b1 : decide (0 < a0.size) = true := decide_eq_true (by omega)
    clear c4
    obtain ⟨t143, A6, H⟩ := sO H
    by_cases c7 : t143 = true
    ·subst c7
     rewrite [if_pos rfl] at H
     obtain ⟨t144, A8, H⟩ := sO H
     obtain ⟨t147, A9, H⟩ := sO H
     obtain rfl := Option.some.inj H
     have p5 : 0 ≤ (0 : Int) := (by omega)
     have q5 : 0 < a0.size := (by have : (0 : Int) < (a0.size : Int) := of_decide_eq_true (by first | (with_reducible assumption) | assumption); omega)
     have hx5 : ∀ h : 0 < a0.size, ((a0[0]'h).toNat : Int) = bt a0 0 := bt_at a0 0
     clear p5
     have qi5 : (0 < (a0.size : Int)) = True := eq_true (of_decide_eq_true (by first | (with_reducible assumption) | assumption))
     replace q5 := eq_true q5
     go_enter Tryd.func74, Tryd.ntmps74
     go_wp2_with (first | (go_at_call 106; (with_reducible refine (impl_isLetter.calls (bt a0 0) true _ A6.out).mono ?_); rintro e w' ⟨rfl, ⟨nd, rfl⟩⟩) | ((with_reducible refine gate_conv (src := 9) (dst := 36) rfl ?_); (try (refine gate_guard (by rfl) ?_; dsimp only)); refine conv_at rfl rfl _ rfl _ rfl Tryd.underlying9 Tryd.underlying36 Tryd.underlying5 ?_; refine (conv_bytes.calls 5 a0 t144 _ A8.out).mono ?_; rintro e w10 ⟨v145, rfl, ho0, hb⟩; refine ⟨_, rfl, ?_⟩; have n0_ := Aside0.mk (Kd.V_lower (Kd.V_mono (ok' := fun k_ => True) ho0 (fun k_ hk_ => trivial)) (below_size (sH HB.out))); have n1_ := sB HB hb; clear HB; have HO146 := n0_; have HB := n1_; clear n0_ n1_; (try clear hb); (try clear hb2); (try clear hk); (try clear hi); (try clear ho0); obtain ⟨Ao11, co11, eo11⟩ := Kd.V_slice HO146.out; subst eo11) | (go_at_call 107; (with_reducible refine (impl_areAll_byte__impl_isNameByte.calls k _ _ t144  t147 _ ?side1 ?side2 A9.out).mono ?_); (case side1 => exact sD ((Kd.V_reads' HO146.out).2.2)); (case side2 => exact (Kd.V_reads' HO146.out).2.1); rintro e w' ⟨rfl, ⟨nd, rfl⟩⟩))
     go_ret
     exact ⟨sq, sb⟩
    replace c7 := Bool.eq_false_iff.mpr c7
    subst c7
    rewrite [if_neg (show ¬ (false = true) by decide)] at H
    obtain rfl := Option.some.inj H
    have p5 : 0 ≤ (0 : Int) := (by omega)
    have q5 : 0 < a0.size := (by have : (0 : Int) < (a0.size : Int) := of_decide_eq_true (by first | (with_reducible assumption) | assumption); omega)
    have hx5 : ∀ h : 0 < a0.size, ((a0[0]'h).toNat : Int) = bt a0 0 := bt_at a0 0
    clear p5
    have qi5 : (0 < (a0.size : Int)) = True := eq_true (of_decide_eq_true (by first | (with_reducible assumption) | assumption))
    replace q5 := eq_true q5
    go_enter Tryd.func74, Tryd.ntmps74
    go_wp2_with (first | (go_at_call 106; (with_reducible refine (impl_isLetter.calls (bt a0 0) false _ A6.out).mono ?_); rintro e w' ⟨rfl, ⟨nd, rfl⟩⟩))
    go_ret
    exact ⟨sq, sb⟩
   rw [if_neg c4] at H
   exact absurd H (by simp)
  rw [if_neg c3] at H
  have c3b0 := decide_eq_false c3
  have c3b1 : decide (a0.size ≤ 12) = false := decide_eq_false (by omega)
  clear c3
  obtain rfl := Option.some.inj H
  go_enter Tryd.func74, Tryd.ntmps74
  go_wp2
  go_ret
  exact ⟨sq, sb⟩
 rw [if_neg c2] at H
 have c2b0 : decide (1 ≤ (a0.size : Int)) = false := decide_eq_false c2
 have c2b1 : decide (1 ≤ a0.size) = false := decide_eq_false (by omega)
 clear c2
 obtain rfl := Option.some.inj H
 go_enter Tryd.func74, Tryd.ntmps74
 go_wp2
 go_ret
 exact ⟨sq, sb⟩

section
attribute [local go_sem high] eqA54
/-! ### impl_ValidValue: function 66 -/
def impl_ValidValue.j0 : Nat → Int → Bool → Int → Int → ByteArray → Int → Option (Bool)
 | 0, _, _, _, _, _, _ => none
 | k + 1, x4, x49, x149000, x149001, x149002, x149003 => if x49 = true then (if (x149001 == 0 && (x149002.toList.isEmpty)) = true then ((impl_isObjectId.f x149003).bind fun t150 => (some t150)) else (some false)) else (if x4 = 7 then (if (x149001 == 0 && (x149003 == 0)) = true then ((impl_IsName.f k x149002).bind fun t151 => (some t151)) else (some false)) else (if x4 = 8 then (if (x149001 == 0 && (x149003 == 0)) = true then ((impl_IsName.f k x149002).bind fun t152 => (some t152)) else (some false)) else (some false)))
def impl_ValidValue.f (k : Nat) (a0_0 : Int) (a0_1 : Int) (a0_2 : ByteArray) (a0_3 : Int) : Option (Bool) := if a0_0 = 1 then (if (a0_1 == 0 && (a0_3 == 0)) = true then (some (decide ((a0_2.size : Int) ≤ 200))) else (some false)) else (if a0_0 = 2 then (if (a0_2.toList.isEmpty && (a0_3 == 0)) = true then ((impl_within.f a0_1 (-1000000000000) 1000000000000).bind fun t149 => (some t149)) else (some false)) else (if a0_0 = 3 then (if (a0_1 == 0 && (a0_3 == 0)) = true then (if (a0_2.size : Int) ≥ 1 then (some (decide ((a0_2.size : Int) ≤ 1200))) else (some false)) else (some false)) else (if a0_0 = 4 then (impl_ValidValue.j0 k a0_0 (a0_0 == 4) a0_0 a0_1 a0_2 a0_3) else (if a0_0 = 5 then (impl_ValidValue.j0 k a0_0 (a0_0 == 5) a0_0 a0_1 a0_2 a0_3) else (impl_ValidValue.j0 k a0_0 (a0_0 == 6) a0_0 a0_1 a0_2 a0_3)))))
set_option maxHeartbeats 8000000 in
set_option maxRecDepth 100000 in
theorem impl_ValidValue.calls (k : Nat) (a0_0 : Int) (a0_1 : Int) (a0_2 : ByteArray) (a0_3 : Int) (r : Bool) (w : World) (h : impl_ValidValue.f k a0_0 a0_1 a0_2 a0_3 = some r) :
  Calls Tryd.prog 66 #[.agg #[.int .i64 a0_0, .int .i64 a0_1, .string a0_2, .int .i64 a0_3]] w fun e w' => e = .returned (.bool r) ∧ Below w.heap.size w w' := by
 have hu54 := Tryd.underlying54
 have HB := Aside0.mk (Below.refl w.heap.size w)
 have H : (if a0_0 = 1 then (if (a0_1 == 0 && (a0_3 == 0)) = true then (some (decide ((a0_2.size : Int) ≤ 200))) else (some false)) else (if a0_0 = 2 then (if (a0_2.toList.isEmpty && (a0_3 == 0)) = true then ((impl_within.f a0_1 (-1000000000000) 1000000000000).bind fun t149 => (some t149)) else (some false)) else (if a0_0 = 3 then (if (a0_1 == 0 && (a0_3 == 0)) = true then (if (a0_2.size : Int) ≥ 1 then (some (decide ((a0_2.size : Int) ≤ 1200))) else (some false)) else (some false)) else (if a0_0 = 4 then (impl_ValidValue.j0 k a0_0 (a0_0 == 4) a0_0 a0_1 a0_2 a0_3) else (if a0_0 = 5 then (impl_ValidValue.j0 k a0_0 (a0_0 == 5) a0_0 a0_1 a0_2 a0_3) else (impl_ValidValue.j0 k a0_0 (a0_0 == 6) a0_0 a0_1 a0_2 a0_3)))))) = some r := h
 clear h
 by_cases c2 : a0_0 = 1
 ·rw [if_pos c2] at H
  have c2b0 : (a0_0 == 1) = true := beq_iff_eq.mpr c2
  have c2b1 : (a0_0 != 1) = false := bne_eq_false_iff_eq.mpr c2
  clear c2
  by_cases c3 : (a0_1 == 0 && (a0_3 == 0)) = true
  ·rw [if_pos c3] at H
   have c3b0 : (a0_1 == 0 && (a0_3 == 0)) = true := c3
   (try (have c3b1 : decide (a0_1 = 0 && (a0_3 == 0)) = true := by simpa using c3))
   (try (have c3b2 : (a0_1 == 0 && (a0_3 == 0)) = true := by simpa using c3))
   clear c3
   obtain rfl := Option.some.inj H
   go_enter Tryd.func66, Tryd.ntmps66
   go_wp2_with (first | ((with_reducible refine gate_dst (N := 1) rfl ?_); (try (refine gate_guard (by rfl) ?_; dsimp only)); refine sV (N := 1) (cs := #[.int .i64 a0_0, .int .i64 a0_1, .string a0_2, .int .i64 a0_3]) (t := 54) ?_; intro gb148 hg w4 hbox hb; have n0_ := sB HB hb; have n1_ := Aside0.mk (hbox); have n2_ := sG HB hg; have n3_ := sG HB hg; clear HB; have HB := n0_; have BK148 := n1_; have GW148 := n2_; have GE148 := n3_; clear n0_ n1_ n2_ n3_; clear hb hbox hg; obtain ⟨hcz5_0, hcz5_1, hcz5_2, hcz5_3, hfz5_0, hfz5_1, hfz5_2, hfz5_3⟩ := cells4 BK148.out))
   go_ret
   exact ⟨sq, sb⟩
  rw [if_neg c3] at H
  have c3b0 : (a0_1 == 0 && (a0_3 == 0)) = false := by simpa using c3
  (try (have c3b1 : decide (a0_1 = 0 && (a0_3 == 0)) = false := by simpa using c3))
  (try (have c3b2 : (a0_1 == 0 && (a0_3 == 0)) = false := by simpa using c3))
  (try (have c3b3 : ¬ (a0_1 = 0 && (a0_3 == 0)) := by simpa using c3))
  clear c3
  obtain rfl := Option.some.inj H
  go_enter Tryd.func66, Tryd.ntmps66
  go_wp2_with (first | ((with_reducible refine gate_dst (N := 1) rfl ?_); (try (refine gate_guard (by rfl) ?_; dsimp only)); refine sV (N := 1) (cs := #[.int .i64 a0_0, .int .i64 a0_1, .string a0_2, .int .i64 a0_3]) (t := 54) ?_; intro gb148 hg w6 hbox hb; have n0_ := sB HB hb; have n1_ := Aside0.mk (hbox); have n2_ := sG HB hg; have n3_ := sG HB hg; clear HB; have HB := n0_; have BK148 := n1_; have GW148 := n2_; have GE148 := n3_; clear n0_ n1_ n2_ n3_; clear hb hbox hg; obtain ⟨hcz7_0, hcz7_1, hcz7_2, hcz7_3, hfz7_0, hfz7_1, hfz7_2, hfz7_3⟩ := cells4 BK148.out))
  go_ret
  exact ⟨sq, sb⟩
 rw [if_neg c2] at H
 have c2b0 : (a0_0 == 1) = false := beq_eq_false_iff_ne.mpr c2
 have c2b1 : (a0_0 != 1) = true := bne_iff_ne.mpr c2
 by_cases c8 : a0_0 = 2
 ·rw [if_pos c8] at H
  have c8b0 : (a0_0 == 2) = true := beq_iff_eq.mpr c8
  have c8b1 : (a0_0 != 2) = false := bne_eq_false_iff_eq.mpr c8
  clear c8
  by_cases c9 : (a0_2.toList.isEmpty && (a0_3 == 0)) = true
  ·rw [if_pos c9] at H
   have c9b0 : (a0_2.toList.isEmpty && (a0_3 == 0)) = true := c9
   clear c9
   obtain ⟨t149, A10, H⟩ := sO H
   obtain rfl := Option.some.inj H
   go_enter Tryd.func66, Tryd.ntmps66
   go_wp2_with (first | ((with_reducible refine gate_dst (N := 1) rfl ?_); (try (refine gate_guard (by rfl) ?_; dsimp only)); refine sV (N := 1) (cs := #[.int .i64 a0_0, .int .i64 a0_1, .string a0_2, .int .i64 a0_3]) (t := 54) ?_; intro gb148 hg w11 hbox hb; have n0_ := sB HB hb; have n1_ := Aside0.mk (hbox); have n2_ := sG HB hg; have n3_ := sG HB hg; clear HB; have HB := n0_; have BK148 := n1_; have GW148 := n2_; have GE148 := n3_; clear n0_ n1_ n2_ n3_; clear hb hbox hg; obtain ⟨hcz12_0, hcz12_1, hcz12_2, hcz12_3, hfz12_0, hfz12_1, hfz12_2, hfz12_3⟩ := cells4 BK148.out) | (go_at_call 48; (with_reducible refine (impl_within.calls a0_1 (-1000000000000) 1000000000000 t149 _ A10.out).mono ?_); rintro e w' ⟨rfl, ⟨nd, rfl⟩⟩))
   go_ret
   exact ⟨sq, sb⟩
  rw [if_neg c9] at H
  have c9b0 : (a0_2.toList.isEmpty && (a0_3 == 0)) = false := by simpa using c9
  clear c9
  obtain rfl := Option.some.inj H
  go_enter Tryd.func66, Tryd.ntmps66
  go_wp2_with (first | ((with_reducible refine gate_dst (N := 1) rfl ?_); (try (refine gate_guard (by rfl) ?_; dsimp only)); refine sV (N := 1) (cs := #[.int .i64 a0_0, .int .i64 a0_1, .string a0_2, .int .i64 a0_3]) (t := 54) ?_; intro gb148 hg w13 hbox hb; have n0_ := sB HB hb; have n1_ := Aside0.mk (hbox); have n2_ := sG HB hg; have n3_ := sG HB hg; clear HB; have HB := n0_; have BK148 := n1_; have GW148 := n2_; have GE148 := n3_; clear n0_ n1_ n2_ n3_; clear hb hbox hg; obtain ⟨hcz14_0, hcz14_1, hcz14_2, hcz14_3, hfz14_0, hfz14_1, hfz14_2, hfz14_3⟩ := cells4 BK148.out))
  go_ret
  exact ⟨sq, sb⟩
 rw [if_neg c8] at H
 have c8b0 : (a0_0 == 2) = false := beq_eq_false_iff_ne.mpr c8
 have c8b1 : (a0_0 != 2) = true := bne_iff_ne.mpr c8
 by_cases c15 : a0_0 = 3
 ·rw [if_pos c15] at H
  have c15b0 : (a0_0 == 3) = true := beq_iff_eq.mpr c15
  have c15b1 : (a0_0 != 3) = false := bne_eq_false_iff_eq.mpr c15
  clear c15
  by_cases c16 : (a0_1 == 0 && (a0_3 == 0)) = true
  ·rw [if_pos c16] at H
   have c16b0 : (a0_1 == 0 && (a0_3 == 0)) = true := c16
   (try (have c16b1 : decide (a0_1 = 0 && (a0_3 == 0)) = true := by simpa using c16))
   (try (have c16b2 : (a0_1 == 0 && (a0_3 == 0)) = true := by simpa using c16))
   clear c16
   by_cases c17 : (a0_2.size : Int) ≥ 1
   ·rw [if_pos c17] at H
    have c17b0 : decide (1 ≤ (a0_2.size : Int)) = true := decide_eq_true c17
    have c17b1 : decide (1 ≤ a0_2.size) = true := decide_eq_true (by omega)
    clear c17
    obtain rfl := Option.some.inj H
    go_enter Tryd.func66, Tryd.ntmps66
    go_wp2_with (first | ((with_reducible refine gate_dst (N := 1) rfl ?_); (try (refine gate_guard (by rfl) ?_; dsimp only)); refine sV (N := 1) (cs := #[.int .i64 a0_0, .int .i64 a0_1, .string a0_2, .int .i64 a0_3]) (t := 54) ?_; intro gb148 hg w18 hbox hb; have n0_ := sB HB hb; have n1_ := Aside0.mk (hbox); have n2_ := sG HB hg; have n3_ := sG HB hg; clear HB; have HB := n0_; have BK148 := n1_; have GW148 := n2_; have GE148 := n3_; clear n0_ n1_ n2_ n3_; clear hb hbox hg; obtain ⟨hcz19_0, hcz19_1, hcz19_2, hcz19_3, hfz19_0, hfz19_1, hfz19_2, hfz19_3⟩ := cells4 BK148.out))
    go_ret
    exact ⟨sq, sb⟩
   rw [if_neg c17] at H
   have c17b0 : decide (1 ≤ (a0_2.size : Int)) = false := decide_eq_false c17
   have c17b1 : decide (1 ≤ a0_2.size) = false := decide_eq_false (by omega)
   clear c17
   obtain rfl := Option.some.inj H
   go_enter Tryd.func66, Tryd.ntmps66
   go_wp2_with (first | ((with_reducible refine gate_dst (N := 1) rfl ?_); (try (refine gate_guard (by rfl) ?_; dsimp only)); refine sV (N := 1) (cs := #[.int .i64 a0_0, .int .i64 a0_1, .string a0_2, .int .i64 a0_3]) (t := 54) ?_; intro gb148 hg w20 hbox hb; have n0_ := sB HB hb; have n1_ := Aside0.mk (hbox); have n2_ := sG HB hg; have n3_ := sG HB hg; clear HB; have HB := n0_; have BK148 := n1_; have GW148 := n2_; have GE148 := n3_; clear n0_ n1_ n2_ n3_; clear hb hbox hg; obtain ⟨hcz21_0, hcz21_1, hcz21_2, hcz21_3, hfz21_0, hfz21_1, hfz21_2, hfz21_3⟩ := cells4 BK148.out))
   go_ret
   exact ⟨sq, sb⟩
  rw [if_neg c16] at H
  have c16b0 : (a0_1 == 0 && (a0_3 == 0)) = false := by simpa using c16
  (try (have c16b1 : decide (a0_1 = 0 && (a0_3 == 0)) = false := by simpa using c16))
  (try (have c16b2 : (a0_1 == 0 && (a0_3 == 0)) = false := by simpa using c16))
  (try (have c16b3 : ¬ (a0_1 = 0 && (a0_3 == 0)) := by simpa using c16))
  clear c16
  obtain rfl := Option.some.inj H
  go_enter Tryd.func66, Tryd.ntmps66
  go_wp2_with (first | ((with_reducible refine gate_dst (N := 1) rfl ?_); (try (refine gate_guard (by rfl) ?_; dsimp only)); refine sV (N := 1) (cs := #[.int .i64 a0_0, .int .i64 a0_1, .string a0_2, .int .i64 a0_3]) (t := 54) ?_; intro gb148 hg w22 hbox hb; have n0_ := sB HB hb; have n1_ := Aside0.mk (hbox); have n2_ := sG HB hg; have n3_ := sG HB hg; clear HB; have HB := n0_; have BK148 := n1_; have GW148 := n2_; have GE148 := n3_; clear n0_ n1_ n2_ n3_; clear hb hbox hg; obtain ⟨hcz23_0, hcz23_1, hcz23_2, hcz23_3, hfz23_0, hfz23_1, hfz23_2, hfz23_3⟩ := cells4 BK148.out))
  go_ret
  exact ⟨sq, sb⟩
 rw [if_neg c15] at H
 have c15b0 : (a0_0 == 3) = false := beq_eq_false_iff_ne.mpr c15
 have c15b1 : (a0_0 != 3) = true := bne_iff_ne.mpr c15
 have HC24 := Aside0.mk H
 clear H
 go_enter Tryd.func66, Tryd.ntmps66
 go_upto_if 49 with (first | ((with_reducible refine gate_dst (N := 1) rfl ?_); (try (refine gate_guard (by rfl) ?_; dsimp only)); refine sV (N := 1) (cs := #[.int .i64 a0_0, .int .i64 a0_1, .string a0_2, .int .i64 a0_3]) (t := 54) ?_; intro gb148 hg w25 hbox hb; have n0_ := sB HB hb; have n1_ := Aside0.mk (hbox); have n2_ := sG HB hg; have n3_ := sG HB hg; clear HB; have HB := n0_; have BK148 := n1_; have GW148 := n2_; have GE148 := n3_; clear n0_ n1_ n2_ n3_; clear hb hbox hg; obtain ⟨hcz26_0, hcz26_1, hcz26_2, hcz26_3, hfz26_0, hfz26_1, hfz26_2, hfz26_3⟩ := cells4 BK148.out))
 (try simp only [Act.put, List.setIfInBounds_toArray, List.set_cons_zero, List.set_cons_succ])
 go_cut [49] (fun v49 wc => ∃ (kq : Nat) (x49_23 : Bool), v49 = .bool x49_23 ∧ Aside0 (impl_ValidValue.j0 kq a0_0 x49_23 a0_0 a0_1 a0_2 a0_3 = some r) ∧ Aside0 (kq ≤ k) ∧ Aside0 (wc.heap[gb148]? = some (.cells #[.int .i64 a0_0, .int .i64 a0_1, .string a0_2, .int .i64 a0_3] 54 (0, 0))) ∧ Aside0 (Below w.heap.size w wc))
 case first =>
  have H := HC24.out
  clear HC24
  by_cases c27 : a0_0 = 4
  ·rw [if_pos c27] at H
   have c27b0 : (a0_0 == 4) = true := beq_iff_eq.mpr c27
   have c27b1 : (a0_0 != 4) = false := bne_eq_false_iff_eq.mpr c27
   clear c27
   (first | rw [c27b0] | (simp only [i64_w, i32_w]; rw [c27b0]) | rw [c27b2] | skip)
   have H' := Aside0.mk H
   clear H
   go_wp2
   go_meet
   case rel => exact ⟨_, ((a0_0 == 4)), sr, H', ⟨by first | omega | exact Nat.le_refl _⟩, ⟨by exact sT BK148.out⟩, ⟨sb⟩⟩
  rw [if_neg c27] at H
  have c27b0 : (a0_0 == 4) = false := beq_eq_false_iff_ne.mpr c27
  have c27b1 : (a0_0 != 4) = true := bne_iff_ne.mpr c27
  (first | rw [c27b0] | (simp only [i64_w, i32_w]; rw [c27b0]) | rw [c27b2] | skip)
  by_cases c28 : a0_0 = 5
  ·rw [if_pos c28] at H
   have c28b0 : (a0_0 == 5) = true := beq_iff_eq.mpr c28
   have c28b1 : (a0_0 != 5) = false := bne_eq_false_iff_eq.mpr c28
   clear c28
   have H' := Aside0.mk H
   clear H
   go_wp2
   go_meet
   case rel => exact ⟨_, ((a0_0 == 5)), sr, H', ⟨by first | omega | exact Nat.le_refl _⟩, ⟨by exact sT BK148.out⟩, ⟨sb⟩⟩
  rw [if_neg c28] at H
  have c28b0 : (a0_0 == 5) = false := beq_eq_false_iff_ne.mpr c28
  have c28b1 : (a0_0 != 5) = true := bne_iff_ne.mpr c28
  have H' := Aside0.mk H
  clear H
  go_wp2
  go_meet
  case rel => exact ⟨_, ((a0_0 == 6)), sr, H', ⟨by first | omega | exact Nat.le_refl _⟩, ⟨by exact sT BK148.out⟩, ⟨sb⟩⟩
 case rest =>
  clear HC24
  try clear c1
  try clear c2
  try clear c2b0
  try clear c2b1
  try clear p2
  try clear c3
  try clear c3b0
  try clear c3b1
  try clear c3b2
  try clear c3b3
  try clear c6
  try clear c8
  try clear c8b0
  try clear c8b1
  try clear c9
  try clear c9b0
  try clear c15
  try clear c15b0
  try clear c15b1
  try clear c16
  try clear c16b0
  try clear c16b1
  try clear c16b2
  try clear c16b3
  try clear c17
  try clear c17b0
  try clear c17b1
  try clear c27
  try clear c27b0
  try clear c27b1
  try clear c27b2
  try clear c28
  try clear c28b0
  try clear c28b1
  try clear hcz12_0
  try clear hcz12_1
  try clear hcz12_2
  try clear hcz12_3
  try clear hcz14_0
  try clear hcz14_1
  try clear hcz14_2
  try clear hcz14_3
  try clear hcz19_0
  try clear hcz19_1
  try clear hcz19_2
  try clear hcz19_3
  try clear hcz21_0
  try clear hcz21_1
  try clear hcz21_2
  try clear hcz21_3
  try clear hcz23_0
  try clear hcz23_1
  try clear hcz23_2
  try clear hcz23_3
  try clear hcz26_0
  try clear hcz26_1
  try clear hcz26_2
  try clear hcz26_3
  try clear hcz5_0
  try clear hcz5_1
  try clear hcz5_2
  try clear hcz5_3
  try clear hcz7_0
  try clear hcz7_1
  try clear hcz7_2
  try clear hcz7_3
  try clear hfz12_0
  try clear hfz12_1
  try clear hfz12_2
  try clear hfz12_3
  try clear hfz14_0
  try clear hfz14_1
  try clear hfz14_2
  try clear hfz14_3
  try clear hfz19_0
  try clear hfz19_1
  try clear hfz19_2
  try clear hfz19_3
  try clear hfz21_0
  try clear hfz21_1
  try clear hfz21_2
  try clear hfz21_3
  try clear hfz23_0
  try clear hfz23_1
  try clear hfz23_2
  try clear hfz23_3
  try clear hfz26_0
  try clear hfz26_1
  try clear hfz26_2
  try clear hfz26_3
  try clear hfz5_0
  try clear hfz5_1
  try clear hfz5_2
  try clear hfz5_3
  try clear hfz7_0
  try clear hfz7_1
  try clear hfz7_2
  try clear hfz7_3
  obtain ⟨kq, x49_23, rfl, HA, HJ23, BK148, HB⟩ := hcut
  cases kq with
  | zero => exact absurd HA.out (by simp [impl_ValidValue.j0])
  | succ kj23 =>
   have H := HA.out
   clear HA
   simp only [impl_ValidValue.j0] at H
   by_cases c29 : x49_23 = true
   ·subst c29
    rewrite [if_pos rfl] at H
    by_cases c30 : (a0_1 == 0 && (a0_2.toList.isEmpty)) = true
    ·rw [if_pos c30] at H
     have c30b0 : (a0_1 == 0 && (a0_2.toList.isEmpty)) = true := c30
     (try (have c30b1 : decide (a0_1 = 0 && (a0_2.toList.isEmpty)) = true := by simpa using c30))
     (try (have c30b2 : (a0_1 == 0 && (a0_2.toList.isEmpty)) = true := by simpa using c30))
     clear c30
     obtain ⟨t150, A31, H⟩ := sO H
     obtain rfl := Option.some.inj H
     obtain ⟨hcz32_0, hcz32_1, hcz32_2, hcz32_3, hfz32_0, hfz32_1, hfz32_2, hfz32_3⟩ := cells4 BK148.out
     go_wp2_with (first | (go_at_call 100; (with_reducible refine (impl_isObjectId.calls a0_3 t150 _ A31.out).mono ?_); rintro e w' ⟨rfl, ⟨nd, rfl⟩⟩))
     go_ret
     exact ⟨sq, sb⟩
    rw [if_neg c30] at H
    have c30b0 : (a0_1 == 0 && (a0_2.toList.isEmpty)) = false := by simpa using c30
    (try (have c30b1 : decide (a0_1 = 0 && (a0_2.toList.isEmpty)) = false := by simpa using c30))
    (try (have c30b2 : (a0_1 == 0 && (a0_2.toList.isEmpty)) = false := by simpa using c30))
    (try (have c30b3 : ¬ (a0_1 = 0 && (a0_2.toList.isEmpty)) := by simpa using c30))
    clear c30
    obtain rfl := Option.some.inj H
    obtain ⟨hcz33_0, hcz33_1, hcz33_2, hcz33_3, hfz33_0, hfz33_1, hfz33_2, hfz33_3⟩ := cells4 BK148.out
    go_wp2
    go_ret
    exact ⟨sq, sb⟩
   replace c29 := Bool.eq_false_iff.mpr c29
   subst c29
   rewrite [if_neg (show ¬ (false = true) by decide)] at H
   by_cases c34 : a0_0 = 7
   ·rw [if_pos c34] at H
    have c34b0 : (a0_0 == 7) = true := beq_iff_eq.mpr c34
    have c34b1 : (a0_0 != 7) = false := bne_eq_false_iff_eq.mpr c34
    clear c34
    by_cases c35 : (a0_1 == 0 && (a0_3 == 0)) = true
    ·rw [if_pos c35] at H
     have c35b0 : (a0_1 == 0 && (a0_3 == 0)) = true := c35
     (try (have c35b1 : decide (a0_1 = 0 && (a0_3 == 0)) = true := by simpa using c35))
     (try (have c35b2 : (a0_1 == 0 && (a0_3 == 0)) = true := by simpa using c35))
     clear c35
     obtain ⟨t151, A36, H⟩ := sO H
     obtain rfl := Option.some.inj H
     obtain ⟨hcz37_0, hcz37_1, hcz37_2, hcz37_3, hfz37_0, hfz37_1, hfz37_2, hfz37_3⟩ := cells4 BK148.out
     go_wp2_with (first | (go_at_call 74; (with_reducible refine (impl_IsName.calls kj23 a0_2 t151 _ A36.out).mono ?_); rintro e w38 ⟨rfl, hb⟩; have n0_ := sK BK148 hb; have n1_ := sB HB hb; clear BK148; clear HB; have BK148 := n0_; have HB := n1_; clear n0_ n1_; (try clear hb); (try clear hb2); (try clear hk); (try clear hi)))
     go_ret
     exact ⟨sq, sb⟩
    rw [if_neg c35] at H
    have c35b0 : (a0_1 == 0 && (a0_3 == 0)) = false := by simpa using c35
    (try (have c35b1 : decide (a0_1 = 0 && (a0_3 == 0)) = false := by simpa using c35))
    (try (have c35b2 : (a0_1 == 0 && (a0_3 == 0)) = false := by simpa using c35))
    (try (have c35b3 : ¬ (a0_1 = 0 && (a0_3 == 0)) := by simpa using c35))
    clear c35
    obtain rfl := Option.some.inj H
    obtain ⟨hcz39_0, hcz39_1, hcz39_2, hcz39_3, hfz39_0, hfz39_1, hfz39_2, hfz39_3⟩ := cells4 BK148.out
    go_wp2
    go_ret
    exact ⟨sq, sb⟩
   rw [if_neg c34] at H
   have c34b0 : (a0_0 == 7) = false := beq_eq_false_iff_ne.mpr c34
   have c34b1 : (a0_0 != 7) = true := bne_iff_ne.mpr c34
   by_cases c40 : a0_0 = 8
   ·rw [if_pos c40] at H
    have c40b0 : (a0_0 == 8) = true := beq_iff_eq.mpr c40
    have c40b1 : (a0_0 != 8) = false := bne_eq_false_iff_eq.mpr c40
    clear c40
    by_cases c41 : (a0_1 == 0 && (a0_3 == 0)) = true
    ·rw [if_pos c41] at H
     have c41b0 : (a0_1 == 0 && (a0_3 == 0)) = true := c41
     (try (have c41b1 : decide (a0_1 = 0 && (a0_3 == 0)) = true := by simpa using c41))
     (try (have c41b2 : (a0_1 == 0 && (a0_3 == 0)) = true := by simpa using c41))
     clear c41
     obtain ⟨t152, A42, H⟩ := sO H
     obtain rfl := Option.some.inj H
     obtain ⟨hcz43_0, hcz43_1, hcz43_2, hcz43_3, hfz43_0, hfz43_1, hfz43_2, hfz43_3⟩ := cells4 BK148.out
     go_wp2_with (first | (go_at_call 74; (with_reducible refine (impl_IsName.calls kj23 a0_2 t152 _ A42.out).mono ?_); rintro e w44 ⟨rfl, hb⟩; have n0_ := sK BK148 hb; have n1_ := sB HB hb; clear BK148; clear HB; have BK148 := n0_; have HB := n1_; clear n0_ n1_; (try clear hb); (try clear hb2); (try clear hk); (try clear hi)))
     go_ret
     exact ⟨sq, sb⟩
    rw [if_neg c41] at H
    have c41b0 : (a0_1 == 0 && (a0_3 == 0)) = false := by simpa using c41
    (try (have c41b1 : decide (a0_1 = 0 && (a0_3 == 0)) = false := by simpa using c41))
    (try (have c41b2 : (a0_1 == 0 && (a0_3 == 0)) = false := by simpa using c41))
    (try (have c41b3 : ¬ (a0_1 = 0 && (a0_3 == 0)) := by simpa using c41))
    clear c41
    obtain rfl := Option.some.inj H
    obtain ⟨hcz45_0, hcz45_1, hcz45_2, hcz45_3, hfz45_0, hfz45_1, hfz45_2, hfz45_3⟩ := cells4 BK148.out
    go_wp2
    go_ret
    exact ⟨sq, sb⟩
   rw [if_neg c40] at H
   have c40b0 : (a0_0 == 8) = false := beq_eq_false_iff_ne.mpr c40
   have c40b1 : (a0_0 != 8) = true := bne_iff_ne.mpr c40
   obtain rfl := Option.some.inj H
   go_wp2
   go_ret
   exact ⟨sq, sb⟩

-- NOT PRINTED: function 148 (utf8_RuneCountInString)

-- NOT PRINTED: function 149 (bytealg_CountString)

-- NOT PRINTED: function 159 (bytealg_IndexByteString)
end
end Go.Proofs.YtpbjagjknaglgaaDoor.PFnExactValueText
