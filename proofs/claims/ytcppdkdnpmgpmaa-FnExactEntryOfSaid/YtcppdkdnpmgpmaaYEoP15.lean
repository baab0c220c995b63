/- Printed functions: impl_hasAddress, impl_isIndex, impl_isCapture, impl_PatternCode_hasGoodEntries_1, impl_PatternEntry__impl_PatternCode_hasGoodEntries_1, impl_PatternEntry__impl_PatternCode_hasGoodEntries_1_49. -/
import Derived.Test.YtcppdkdnpmgpmaaYEoP0
namespace Go.Proofs.Ytcppdkdnpmgpmaa.PFnExactEntryOf
open Go.RowKit Go.Proofs.YtcppdkdnpmgpmaaG Go.Proofs.YtcppdkdnpmgpmaaW.PrintWords Go.Proofs.YtcppdkdnpmgpmaaW.PrintLast Go.Proofs.YtcppdkdnpmgpmaaW.PrintMore
attribute [local go_sem] max2_int min2_int max_two min_two max_three min_three max_four min_four   -- for this text's walks alone
set_option linter.unusedVariables false
set_option linter.unusedSimpArgs false
/-! ### impl_hasAddress: function 44 -/
def impl_hasAddress.f (a0 : Int) : Option (Bool) := if a0 = 32 then (some true) else (if a0 = 33 then (some true) else (some (a0 == 37)))
set_option maxHeartbeats 8000000 in
set_option maxRecDepth 100000 in
theorem impl_hasAddress.calls (a0 : Int) (r : Bool) (w : World) (h : impl_hasAddress.f a0 = some r) :
  Calls Try.prog 44 #[.int .i64 a0] w fun e w' => e = .returned (.bool r) ∧ Drawn0 w w' := by
 have H : (if a0 = 32 then (some true) else (if a0 = 33 then (some true) else (some (a0 == 37)))) = some r := h
 clear h
 by_cases c2 : a0 = 32
 ·rw [if_pos c2] at H
  have c2b0 : (a0 == 32) = true := beq_iff_eq.mpr c2
  have c2b1 : (a0 != 32) = false := bne_eq_false_iff_eq.mpr c2
  clear c2
  obtain rfl := Option.some.inj H
  go_enter Try.func44, Try.ntmps44
  go_wp2
  go_ret
  exact ⟨by first | rfl | (simp; done) | (simp [*]; done), by repeat (first | exact Drawn0.refl _ | apply Drawn0.step)⟩
 rw [if_neg c2] at H
 have c2b0 : (a0 == 32) = false := beq_eq_false_iff_ne.mpr c2
 have c2b1 : (a0 != 32) = true := bne_iff_ne.mpr c2
 by_cases c3 : a0 = 33
 ·rw [if_pos c3] at H
  have c3b0 : (a0 == 33) = true := beq_iff_eq.mpr c3
  have c3b1 : (a0 != 33) = false := bne_eq_false_iff_eq.mpr c3
  clear c3
  obtain rfl := Option.some.inj H
  go_enter Try.func44, Try.ntmps44
  go_wp2
  go_ret
  exact ⟨by first | rfl | (simp; done) | (simp [*]; done), by repeat (first | exact Drawn0.refl _ | apply Drawn0.step)⟩
 rw [if_neg c3] at H
 have c3b0 : (a0 == 33) = false := beq_eq_false_iff_ne.mpr c3
 have c3b1 : (a0 != 33) = true := bne_iff_ne.mpr c3
 obtain rfl := Option.some.inj H
 go_enter Try.func44, Try.ntmps44
 go_wp2
 go_ret
 exact ⟨by first | rfl | (simp; done) | (simp [*]; done), by repeat (first | exact Drawn0.refl _ | apply Drawn0.step)⟩

/-! ### impl_isIndex: function 45 -/
def impl_isIndex.f (a0 : Int) (a1 : Int) : Option (Bool) := if a0 ≥ 0 then (some (decide (a0 < a1))) else (some false)
set_option maxHeartbeats 8000000 in
set_option maxRecDepth 100000 in
theorem impl_isIndex.calls (a0 : Int) (a1 : Int) (r : Bool) (w : World) (h : impl_isIndex.f a0 a1 = some r) :
  Calls Try.prog 45 #[.int .i64 a0, .int .i64 a1] w fun e w' => e = .returned (.bool r) ∧ Drawn0 w w' := by
 have H : (if a0 ≥ 0 then (some (decide (a0 < a1))) else (some false)) = some r := h
 clear h
 by_cases c3 : a0 ≥ 0
 ·rw [if_pos c3] at H
  have c3b0 : decide (0 ≤ a0) = true := decide_eq_true c3
  clear c3
  obtain rfl := Option.some.inj H
  go_enter Try.func45, Try.ntmps45
  go_wp2
  go_ret
  exact ⟨by first | rfl | (simp; done) | (simp [*]; done), by repeat (first | exact Drawn0.refl _ | apply Drawn0.step)⟩
 rw [if_neg c3] at H
 have c3b0 : decide (0 ≤ a0) = false := decide_eq_false c3
 clear c3
 obtain rfl := Option.some.inj H
 go_enter Try.func45, Try.ntmps45
 go_wp2
 go_ret
 exact ⟨by first | rfl | (simp; done) | (simp [*]; done), by repeat (first | exact Drawn0.refl _ | apply Drawn0.step)⟩

/-! ### impl_isCapture: function 46 -/
def impl_isCapture.f (a0 : Int) : Option (Bool) := if a0 = 35 then (some true) else (some (a0 == 36))
set_option maxHeartbeats 8000000 in
set_option maxRecDepth 100000 in
theorem impl_isCapture.calls (a0 : Int) (r : Bool) (w : World) (h : impl_isCapture.f a0 = some r) :
  Calls Try.prog 46 #[.int .i64 a0] w fun e w' => e = .returned (.bool r) ∧ Drawn0 w w' := by
 have H : (if a0 = 35 then (some true) else (some (a0 == 36))) = some r := h
 clear h
 by_cases c2 : a0 = 35
 ·rw [if_pos c2] at H
  have c2b0 : (a0 == 35) = true := beq_iff_eq.mpr c2
  have c2b1 : (a0 != 35) = false := bne_eq_false_iff_eq.mpr c2
  clear c2
  obtain rfl := Option.some.inj H
  go_enter Try.func46, Try.ntmps46
  go_wp2
  go_ret
  exact ⟨by first | rfl | (simp; done) | (simp [*]; done), by repeat (first | exact Drawn0.refl _ | apply Drawn0.step)⟩
 rw [if_neg c2] at H
 have c2b0 : (a0 == 35) = false := beq_eq_false_iff_ne.mpr c2
 have c2b1 : (a0 != 35) = true := bne_iff_ne.mpr c2
 obtain rfl := Option.some.inj H
 go_enter Try.func46, Try.ntmps46
 go_wp2
 go_ret
 exact ⟨by first | rfl | (simp; done) | (simp [*]; done), by repeat (first | exact Drawn0.refl _ | apply Drawn0.step)⟩

/-! ### impl_PatternCode_hasGoodEntries_1: function 50 -/
def impl_PatternCode_hasGoodEntries_1.f (a0_0 : ByteArray) (a0_1 : Int) (l1 : List (S51)) : Option (Bool) := if 0 < (l1.length : Int) then (some (a0_0.toList == ((rd_T51 l1 0).f0).toList)) else (none)
set_option maxHeartbeats 8000000 in
set_option maxRecDepth 100000 in
theorem impl_PatternCode_hasGoodEntries_1.calls (a0_0 : ByteArray) (a0_1 : Int) (A1 : Option Addr) (l1 : List (S51)) (r : Bool) (w : World) (hr1 : Kd.C k51 w A1 l1.length l1) (h : impl_PatternCode_hasGoodEntries_1.f a0_0 a0_1 l1 = some r) :
  Calls Try.prog 50 #[.agg #[.string a0_0, .int .i64 a0_1], .pointer A1] w fun e w' => e = .returned (.bool r) ∧ Below w.heap.size w w' := by
 have hu51 := Try.underlying51
 have HR1 := Aside0.mk hr1
 have HC1 := Aside0.mk (Nat.le_refl l1.length)
 clear hr1
 have HB := Aside0.mk (Below.refl w.heap.size w)
 have H : (if 0 < (l1.length : Int) then (some (a0_0.toList == ((rd_T51 l1 0).f0).toList)) else (none)) = some r := h
 clear h
 by_cases c3 : 0 < (l1.length : Int)
 ·rw [if_pos c3] at H
  have c3b0 := decide_eq_true c3
  have c3b1 : decide (0 < l1.length) = true := decide_eq_true (by omega)
  clear c3
  obtain rfl := Option.some.inj H
  go_enter Try.func50, Try.ntmps50
  go_wp2_with (first | ((with_reducible refine gate_dst (N := 2) rfl ?_); refine sV (N := 2) (cs := #[.string a0_0, .int .i64 a0_1]) (t := 51) ?_; intro gb275 hg w4 hbox hb; have n0_ := sB HB hb; have n1_ := Aside0.mk (hbox); have n2_ := sG HB hg; have n3_ := sG HB hg; clear HB; have HB := n0_; have BK275 := n1_; have GW275 := n2_; have GE275 := n3_; clear n0_ n1_ n2_ n3_; clear hb hbox hg; obtain ⟨hcz5_0, hcz5_1, hfz5_0, hfz5_1⟩ := cells2 BK275.out; have p276 : 0 ≤ (0 : Int) := (by omega); have q276 : 0 < (l1.length : Int) := of_decide_eq_true (by first | (with_reducible assumption) | assumption); obtain ⟨ad276, e276, hx276_0, hx276_1⟩ := at_T51 HR1.out 0 p276 q276; cases e276; have qi276 : (0 < l1.length) = True := eq_true (by omega); (try rw [show ((0 : Int)).toNat = 0 from rfl] at hx276_0); (try rw [show 0 * 2 = 0 from rfl] at hx276_0); (try rw [Addr.add_zero'] at hx276_0); (try rw [show ((0 : Int)).toNat = 0 from rfl] at hx276_1); (try rw [show 0 * 2 = 0 from rfl] at hx276_1); (try rw [Addr.add_zero'] at hx276_1); replace hx276_0 := sX HB hx276_0; replace hx276_1 := sX HB hx276_1; replace p276 := eq_true p276; replace q276 := eq_true q276))
  go_ret
  exact ⟨sq, sb⟩
 rw [if_neg c3] at H
 exact absurd H (by simp)

/-! ### impl_PatternEntry__impl_PatternCode_hasGoodEntries_1: function 67 -/
def impl_PatternEntry__impl_PatternCode_hasGoodEntries_1.l0 : Nat → List (S51) → List (S51) → Int → Int → Option (Int)
 | 0, _, _, _, _ => none
 | k + 1, x0, x1, x7, x8 => if x8 < x7 then (if 0 ≤ x8 then (if x8 < (x0.length : Int) then ((impl_PatternCode_hasGoodEntries_1.f ((rd_T51 x0 x8).f0) ((rd_T51 x0 x8).f1) x1).bind fun t278 => (if t278 = true then (some x8) else (impl_PatternEntry__impl_PatternCode_hasGoodEntries_1.l0 k x0 x1 x7 (wrap64 (x8 + 1))))) else (none)) else (none)) else (some (-1))
def impl_PatternEntry__impl_PatternCode_hasGoodEntries_1.f (k : Nat) (l0 : List (S51)) (l1 : List (S51)) : Option (Int) := impl_PatternEntry__impl_PatternCode_hasGoodEntries_1.l0 k l0 l1 (l0.length : Int) 0
set_option maxHeartbeats 8000000 in
set_option maxRecDepth 100000 in
theorem impl_PatternEntry__impl_PatternCode_hasGoodEntries_1.calls (k : Nat) (A0 : Option Addr) (c0 : Nat) (l0 : List (S51)) (A1 : Option Addr) (l1 : List (S51)) (r : Int) (w : World) (hr0 : Kd.C k51 w A0 l0.length l0) (hc0 : l0.length ≤ c0) (hr1 : Kd.C k51 w A1 l1.length l1) (h : impl_PatternEntry__impl_PatternCode_hasGoodEntries_1.f k l0 l1 = some r) :
  Calls Try.prog 67 #[.slice A0 l0.length c0, .func (.func 50) #[] #[.pointer A1]] w fun e w' => e = .returned (.int .i64 r) ∧ Below w.heap.size w w' := by
 have hu51 := Try.underlying51
 have HR0 := Aside0.mk hr0
 have HC0 := Aside0.mk hc0
 clear hr0 hc0
 have HR1 := Aside0.mk hr1
 have HC1 := Aside0.mk (Nat.le_refl l1.length)
 clear hr1
 have HB := Aside0.mk (Below.refl w.heap.size w)
 have H : (impl_PatternEntry__impl_PatternCode_hasGoodEntries_1.l0 k l0 l1 (l0.length : Int) 0) = some r := h
 clear h
 have H' := Aside0.mk H
 clear H
 go_enter Try.func67, Try.ntmps67
 go_wp2
 go_loopg [8] k (fun kq v8 w' => ∃ (x8_1 : Int), v8 = .int .i64 x8_1 ∧ Aside0 (impl_PatternEntry__impl_PatternCode_hasGoodEntries_1.l0 kq l0 l1 (l0.length : Int) x8_1 = some r) ∧ Aside0 (kq ≤ k) ∧ Aside0 (Below w.heap.size w w'))
 case atStart => exact ⟨(0), sr, H', ⟨Nat.le_refl _⟩, ⟨sb⟩⟩
 case round =>
  clear H'
  try clear p2
  obtain ⟨x8_1, rfl, HA, HK1, HB⟩ := hrel
  cases gk with
  | zero => exact absurd HA.out (by simp [impl_PatternEntry__impl_PatternCode_hasGoodEntries_1.l0])
  | succ k1 =>
   have H := HA.out
   clear HA
   simp only [impl_PatternEntry__impl_PatternCode_hasGoodEntries_1.l0] at H
   by_cases c3 : x8_1 < (l0.length : Int)
   ·rw [if_pos c3] at H
    have c3b0 := decide_eq_true c3
    clear c3
    by_cases c4 : 0 ≤ x8_1
    ·rw [if_pos c4] at H
     have c4b0 := decide_eq_true c4
     clear c4
     by_cases c5 : x8_1 < (l0.length : Int)
     ·rw [if_pos c5] at H
      have c5b0 := decide_eq_true c5
      clear c5
      obtain ⟨t278, A6, H⟩ := sO H
      by_cases c7 : t278 = true
      ·subst c7
       rewrite [if_pos rfl] at H
       obtain rfl := Option.some.inj H
       have p277 : 0 ≤ (x8_1 : Int) := of_decide_eq_true (by first | (with_reducible assumption) | assumption)
       have q277 : x8_1 < (l0.length : Int) := of_decide_eq_true (by first | (with_reducible assumption) | assumption)
       obtain ⟨ad277, e277, hx277_0, hx277_1⟩ := at_T51 HR0.out x8_1 p277 q277
       cases e277
       replace hx277_0 := sX HB hx277_0
       replace hx277_1 := sX HB hx277_1
       replace p277 := eq_true p277
       replace q277 := eq_true q277
       go_wp2_with (first | (go_at_call 50; (with_reducible refine (impl_PatternCode_hasGoodEntries_1.calls ((rd_T51 l0 x8_1).f0) ((rd_T51 l0 x8_1).f1) _ l1 true _ ?side1 A6.out).mono ?_); (case side1 => exact sD (Kd.C_below HR1.out HB.out)); rintro e w8 ⟨rfl, hb⟩; have n0_ := sB HB hb; clear HB; have HB := n0_; clear n0_; (try clear hb); (try clear hb2); (try clear hk); (try clear hi)))
       go_ret
       exact ⟨sq, sb⟩
      replace c7 := Bool.eq_false_iff.mpr c7
      subst c7
      rewrite [if_neg (show ¬ (false = true) by decide)] at H
      have H' := Aside0.mk H
      clear H
      have p277 : 0 ≤ (x8_1 : Int) := of_decide_eq_true (by first | (with_reducible assumption) | assumption)
      have q277 : x8_1 < (l0.length : Int) := of_decide_eq_true (by first | (with_reducible assumption) | assumption)
      obtain ⟨ad277, e277, hx277_0, hx277_1⟩ := at_T51 HR0.out x8_1 p277 q277
      cases e277
      replace hx277_0 := sX HB hx277_0
      replace hx277_1 := sX HB hx277_1
      replace p277 := eq_true p277
      replace q277 := eq_true q277
      go_wp2_with (first | (go_at_call 50; (with_reducible refine (impl_PatternCode_hasGoodEntries_1.calls ((rd_T51 l0 x8_1).f0) ((rd_T51 l0 x8_1).f1) _ l1 false _ ?side1 A6.out).mono ?_); (case side1 => exact sD (Kd.C_below HR1.out HB.out)); rintro e w9 ⟨rfl, hb⟩; have n0_ := sB HB hb; clear HB; have HB := n0_; clear n0_; (try clear hb); (try clear hb2); (try clear hk); (try clear hi)))
      go_roundg k1
      case measure => have := HK1.out; omega
      case rel => exact ⟨(wrap64 (x8_1 + 1)), sr, H', ⟨by have := HK1.out; omega⟩, ⟨sb⟩⟩
     rw [if_neg c5] at H
     exact absurd H (by simp)
    rw [if_neg c4] at H
    exact absurd H (by simp)
   rw [if_neg c3] at H
   have c3b0 := decide_eq_false c3
   clear c3
   obtain rfl := Option.some.inj H
   go_wp2
   go_ret
   exact ⟨sq, sb⟩

/-! ### impl_PatternEntry__impl_PatternCode_hasGoodEntries_1_49: function 49 -/
def impl_PatternEntry__impl_PatternCode_hasGoodEntries_1_49.f (k : Nat) (l0 : List (S51)) (l1 : List (S51)) : Option (Bool) := (impl_PatternEntry__impl_PatternCode_hasGoodEntries_1.f k l0 l1).bind fun t279 => (some (decide (t279 ≥ 0)))
set_option maxHeartbeats 8000000 in
set_option maxRecDepth 100000 in
theorem impl_PatternEntry__impl_PatternCode_hasGoodEntries_1_49.calls (k : Nat) (A0 : Option Addr) (c0 : Nat) (l0 : List (S51)) (A1 : Option Addr) (l1 : List (S51)) (r : Bool) (w : World) (hr0 : Kd.C k51 w A0 l0.length l0) (hc0 : l0.length ≤ c0) (hr1 : Kd.C k51 w A1 l1.length l1) (h : impl_PatternEntry__impl_PatternCode_hasGoodEntries_1_49.f k l0 l1 = some r) :
  Calls Try.prog 49 #[.slice A0 l0.length c0, .func (.func 50) #[] #[.pointer A1]] w fun e w' => e = .returned (.bool r) ∧ Below w.heap.size w w' := by
 have HR0 := Aside0.mk hr0
 have HC0 := Aside0.mk hc0
 clear hr0 hc0
 have HR1 := Aside0.mk hr1
 have HC1 := Aside0.mk (Nat.le_refl l1.length)
 clear hr1
 have HB := Aside0.mk (Below.refl w.heap.size w)
 have H : ((impl_PatternEntry__impl_PatternCode_hasGoodEntries_1.f k l0 l1).bind fun t279 => (some (decide (t279 ≥ 0)))) = some r := h
 clear h
 obtain ⟨t279, A3, H⟩ := sO H
 obtain rfl := Option.some.inj H
 go_enter Try.func49, Try.ntmps49
 go_wp2_with (first | ((with_reducible refine gate_callee (f := 67) rfl ?_); refine sC (some 7) Try.func67 #[.slice A0 l0.length c0, .func (.func 50) #[] #[.pointer A1]] (impl_PatternEntry__impl_PatternCode_hasGoodEntries_1.calls k _ _ l0 _ l1 t279 _ ?side1 ?side2 ?side3 A3.out) ?_; (case side1 => exact sD HR0.out); (case side2 => exact HC0.out); (case side3 => exact sD HR1.out); rintro e w4 ⟨rfl, hb⟩; refine ⟨_, rfl, ?_⟩; have n0_ := sB HB hb; clear HB; have HB := n0_; clear n0_; (try clear hb); (try clear hb2); (try clear hk); (try clear hi)))
 go_ret
 exact ⟨sq, sb⟩
end Go.Proofs.Ytcppdkdnpmgpmaa.PFnExactEntryOf
