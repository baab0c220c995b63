/- Printed functions: spec_l09Key, spec_l09Field, impl_within, impl_isObjectId, impl_refers. -/
import Derived.Test.YtnjkhdhaiicefaaYGfP0
import Derived.Test.YtnjkhdhaiicefaaYGfPE
namespace Go.Proofs.Ytnjkhdhaiicefaa.PFnExactGetField
open Go.RowKit Go.Proofs.YtnjkhdhaiicefaaG Go.Proofs.YtnjkhdhaiicefaaW.PrintWords Go.Proofs.YtnjkhdhaiicefaaW.PrintLast Go.Proofs.YtnjkhdhaiicefaaW.PrintMore
attribute [local go_sem] max2_int min2_int max_two min_two max_three min_three max_four min_four   -- for this text's walks alone
set_option linter.unusedVariables false
set_option linter.unusedSimpArgs false
section
attribute [local go_sem high] eqA29
/-! ### spec_l09Key: function 109 -/
def spec_l09Key.l0 : Nat → List (S29) → Int → Int → Int → ByteArray → Int → Option (Int)
 | 0, _, _, _, _, _, _ => none
 | k + 1, x0, x5, x237000, x237001, x237002, x237003 => if x5 < (x0.length : Int) then (if 0 ≤ x5 then (if (((rd_T29 x0 x5).f0) == x237000 && (((rd_T29 x0 x5).f1) == x237001 && ((((rd_T29 x0 x5).f2).toList) == x237002.toList && (((rd_T29 x0 x5).f3) == x237003)))) = true then (some x5) else (spec_l09Key.l0 k x0 (wrap64 (x5 + 1)) x237000 x237001 x237002 x237003)) else (none)) else (some (-1))
def spec_l09Key.f (k : Nat) (l0 : List (S29)) (a1_0 : Int) (a1_1 : Int) (a1_2 : ByteArray) (a1_3 : Int) : Option (Int) := spec_l09Key.l0 k l0 0 a1_0 a1_1 a1_2 a1_3
set_option maxHeartbeats 8000000 in
set_option maxRecDepth 100000 in
theorem spec_l09Key.calls (k : Nat) (A0 : Option Addr) (c0 : Nat) (l0 : List (S29)) (a1_0 : Int) (a1_1 : Int) (a1_2 : ByteArray) (a1_3 : Int) (r : Int) (w : World) (hr0 : Kd.C k29 w A0 l0.length l0) (hc0 : l0.length ≤ c0) (h : spec_l09Key.f k l0 a1_0 a1_1 a1_2 a1_3 = some r) :
  Calls Try.prog 109 #[.slice A0 l0.length c0, .agg #[.int .i64 a1_0, .int .i64 a1_1, .string a1_2, .int .i64 a1_3]] w fun e w' => e = .returned (.int .i64 r) ∧ Below w.heap.size w w' := by
 have hu29 := Try.underlying29
 have HR0 := Aside0.mk hr0
 have HC0 := Aside0.mk hc0
 clear hr0 hc0
 have HB := Aside0.mk (Below.refl w.heap.size w)
 have H : (spec_l09Key.l0 k l0 0 a1_0 a1_1 a1_2 a1_3) = some r := h
 clear h
 have H' := Aside0.mk H
 clear H
 go_enter Try.func109, Try.ntmps109
 go_wp2_with (first | ((with_reducible refine gate_dst (N := 3) rfl ?_); refine sV (N := 3) (cs := #[.int .i64 a1_0, .int .i64 a1_1, .string a1_2, .int .i64 a1_3]) (t := 29) ?_; intro gb236 hg w3 hbox hb; have n0_ := sB HB hb; have n1_ := Aside0.mk (hbox); have n2_ := sG HB hg; have n3_ := sG HB hg; clear HB; have HB := n0_; have BK236 := n1_; have GW236 := n2_; have GE236 := n3_; clear n0_ n1_ n2_ n3_; clear hb hbox hg))
 repeat (go_quiet (first | ((with_reducible refine gate_dst (N := 3) rfl ?_); refine sV (N := 3) (cs := #[.int .i64 a1_0, .int .i64 a1_1, .string a1_2, .int .i64 a1_3]) (t := 29) ?_; intro gb236 hg w3 hbox hb; have n0_ := sB HB hb; have n1_ := Aside0.mk (hbox); have n2_ := sG HB hg; have n3_ := sG HB hg; clear HB; have HB := n0_; have BK236 := n1_; have GW236 := n2_; have GE236 := n3_; clear n0_ n1_ n2_ n3_; clear hb hbox hg)); try go_wp2_with (first | ((with_reducible refine gate_dst (N := 3) rfl ?_); refine sV (N := 3) (cs := #[.int .i64 a1_0, .int .i64 a1_1, .string a1_2, .int .i64 a1_3]) (t := 29) ?_; intro gb236 hg w3 hbox hb; have n0_ := sB HB hb; have n1_ := Aside0.mk (hbox); have n2_ := sG HB hg; have n3_ := sG HB hg; clear HB; have HB := n0_; have BK236 := n1_; have GW236 := n2_; have GE236 := n3_; clear n0_ n1_ n2_ n3_; clear hb hbox hg)))
 go_loopg [5] k (fun kq v5 w' => ∃ (x5_1 : Int), v5 = .int .i64 x5_1 ∧ Aside0 (spec_l09Key.l0 kq l0 x5_1 a1_0 a1_1 a1_2 a1_3 = some r) ∧ Aside0 (kq ≤ k) ∧ Aside0 (w'.heap[gb236]? = some (.cells #[.int .i64 a1_0, .int .i64 a1_1, .string a1_2, .int .i64 a1_3] 29 (0, 0))) ∧ Aside0 (Below w.heap.size w w'))
 case atStart => exact ⟨(0), sr, H', ⟨Nat.le_refl _⟩, ⟨by exact sT BK236.out⟩, ⟨sb⟩⟩
 case round =>
  clear H'
  try clear c1
  try clear p2
  obtain ⟨x5_1, rfl, HA, HK1, BK236, HB⟩ := hrel
  cases gk with
  | zero => exact absurd HA.out (by simp [spec_l09Key.l0])
  | succ k1 =>
   have H := HA.out
   clear HA
   simp only [spec_l09Key.l0] at H
   by_cases c4 : x5_1 < (l0.length : Int)
   ·rw [if_pos c4] at H
    have c4b0 := decide_eq_true c4
    clear c4
    by_cases c5 : 0 ≤ x5_1
    ·rw [if_pos c5] at H
     have c5b0 := decide_eq_true c5
     clear c5
     by_cases c6 : (((rd_T29 l0 x5_1).f0) == a1_0 && (((rd_T29 l0 x5_1).f1) == a1_1 && ((((rd_T29 l0 x5_1).f2).toList) == a1_2.toList && (((rd_T29 l0 x5_1).f3) == a1_3)))) = true
     ·rw [if_pos c6] at H
      have c6b0 : (((rd_T29 l0 x5_1).f0) == a1_0 && (((rd_T29 l0 x5_1).f1) == a1_1 && ((((rd_T29 l0 x5_1).f2).toList) == a1_2.toList && (((rd_T29 l0 x5_1).f3) == a1_3)))) = true := c6
      (try (have c6b1 : decide (((rd_T29 l0 x5_1).f0) = a1_0 && (((rd_T29 l0 x5_1).f1) == a1_1 && ((((rd_T29 l0 x5_1).f2).toList) == a1_2.toList && (((rd_T29 l0 x5_1).f3) == a1_3)))) = true := by simpa using c6))
      (try (have c6b2 : (((rd_T29 l0 x5_1).f0) == a1_0 && (((rd_T29 l0 x5_1).f1) == a1_1 && ((((rd_T29 l0 x5_1).f2).toList) == a1_2.toList && (((rd_T29 l0 x5_1).f3) == a1_3)))) = true := by simpa using c6))
      clear c6
      obtain rfl := Option.some.inj H
      have p237 : 0 ≤ (x5_1 : Int) := of_decide_eq_true (by first | (with_reducible assumption) | assumption)
      have q237 : x5_1 < (l0.length : Int) := of_decide_eq_true (by first | (with_reducible assumption) | assumption)
      obtain ⟨ad237, e237, hx237_0, hx237_1, hx237_2, hx237_3⟩ := at_T29 HR0.out x5_1 p237 q237
      cases e237
      replace hx237_0 := sX HB hx237_0
      replace hx237_1 := sX HB hx237_1
      replace hx237_2 := sX HB hx237_2
      replace hx237_3 := sX HB hx237_3
      replace p237 := eq_true p237
      replace q237 := eq_true q237
      obtain ⟨hcz7_0, hcz7_1, hcz7_2, hcz7_3, hfz7_0, hfz7_1, hfz7_2, hfz7_3⟩ := cells4 BK236.out
      go_wp2
      repeat (go_quiet (fail); try go_wp2)
      go_ret
      exact ⟨sq, sb⟩
     rw [if_neg c6] at H
     have c6b0 : (((rd_T29 l0 x5_1).f0) == a1_0 && (((rd_T29 l0 x5_1).f1) == a1_1 && ((((rd_T29 l0 x5_1).f2).toList) == a1_2.toList && (((rd_T29 l0 x5_1).f3) == a1_3)))) = false := by simpa using c6
     (try (have c6b1 : decide (((rd_T29 l0 x5_1).f0) = a1_0 && (((rd_T29 l0 x5_1).f1) == a1_1 && ((((rd_T29 l0 x5_1).f2).toList) == a1_2.toList && (((rd_T29 l0 x5_1).f3) == a1_3)))) = false := by simpa using c6))
     (try (have c6b2 : (((rd_T29 l0 x5_1).f0) == a1_0 && (((rd_T29 l0 x5_1).f1) == a1_1 && ((((rd_T29 l0 x5_1).f2).toList) == a1_2.toList && (((rd_T29 l0 x5_1).f3) == a1_3)))) = false := by simpa using c6))
     (try (have c6b3 : ¬ (((rd_T29 l0 x5_1).f0) = a1_0 && (((rd_T29 l0 x5_1).f1) == a1_1 && ((((rd_T29 l0 x5_1).f2).toList) == a1_2.toList && (((rd_T29 l0 x5_1).f3) == a1_3)))) := by simpa using c6))
     clear c6
     have H' := Aside0.mk H
     clear H
     have p237 : 0 ≤ (x5_1 : Int) := of_decide_eq_true (by first | (with_reducible assumption) | assumption)
     have q237 : x5_1 < (l0.length : Int) := of_decide_eq_true (by first | (with_reducible assumption) | assumption)
     obtain ⟨ad237, e237, hx237_0, hx237_1, hx237_2, hx237_3⟩ := at_T29 HR0.out x5_1 p237 q237
     cases e237
     replace hx237_0 := sX HB hx237_0
     replace hx237_1 := sX HB hx237_1
     replace hx237_2 := sX HB hx237_2
     replace hx237_3 := sX HB hx237_3
     replace p237 := eq_true p237
     replace q237 := eq_true q237
     obtain ⟨hcz8_0, hcz8_1, hcz8_2, hcz8_3, hfz8_0, hfz8_1, hfz8_2, hfz8_3⟩ := cells4 BK236.out
     go_wp2
     repeat (go_quiet (fail); try go_wp2)
     go_roundg k1
     case measure => have := HK1.out; omega
     case rel => exact ⟨(wrap64 (x5_1 + 1)), sr, H', ⟨by have := HK1.out; omega⟩, ⟨by exact sT BK236.out⟩, ⟨sb⟩⟩
    rw [if_neg c5] at H
    exact absurd H (by simp)
   rw [if_neg c4] at H
   have c4b0 := decide_eq_false c4
   clear c4
   obtain rfl := Option.some.inj H
   go_wp2
   repeat (go_quiet (fail); try go_wp2)
   go_ret
   exact ⟨sq, sb⟩
end

section
attribute [local go_sem high] eqA29
/-! ### spec_l09Field: function 63 -/
def spec_l09Field.f (k : Nat) (l0 : List (S56)) (a1 : ByteArray) : Option (Int) := if 0 < (l0.length : Int) then ((spec_l09Key.f k ((rd_T56 l0 0).f4) 1 0 a1 0).bind fun t239 => (some t239)) else (none)
set_option maxHeartbeats 8000000 in
set_option maxRecDepth 100000 in
theorem spec_l09Field.calls (k : Nat) (A0 : Option Addr) (l0 : List (S56)) (a1 : ByteArray) (r : Int) (w : World) (hr0 : Kd.C k56 w A0 l0.length l0) (h : spec_l09Field.f k l0 a1 = some r) :
  Calls Try.prog 63 #[.pointer A0, .string a1] w fun e w' => e = .returned (.int .i64 r) ∧ Below w.heap.size w w' := by
 have hu29 := Try.underlying29
 have HR0 := Aside0.mk hr0
 have HC0 := Aside0.mk (Nat.le_refl l0.length)
 clear hr0
 have HB := Aside0.mk (Below.refl w.heap.size w)
 have H : (if 0 < (l0.length : Int) then ((spec_l09Key.f k ((rd_T56 l0 0).f4) 1 0 a1 0).bind fun t239 => (some t239)) else (none)) = some r := h
 clear h
 by_cases c3 : 0 < (l0.length : Int)
 ·rw [if_pos c3] at H
  have c3b0 := decide_eq_true c3
  have c3b1 : decide (0 < l0.length) = true := decide_eq_true (by omega)
  clear c3
  obtain ⟨t239, A4, H⟩ := sO H
  obtain rfl := Option.some.inj H
  have p238 : 0 ≤ (0 : Int) := (by omega)
  have q238 : 0 < (l0.length : Int) := of_decide_eq_true (by first | (with_reducible assumption) | assumption)
  obtain ⟨ad238, A238_4, c238_4, A238_5, c238_5, e238, hx238_0, hx238_1, hx238_2, hx238_3, hx238_4, hx238_5, hx238_6, hx238_7, hx238_8, hx238_9, hl238_4, hi238_4, hl238_5, hi238_5⟩ := at_T56 HR0.out 0 p238 q238
  cases e238
  have qi238 : (0 < l0.length) = True := eq_true (by omega)
  (try rw [sZ] at hx238_0)
  (try rw [sZ] at hx238_1)
  (try rw [sZ] at hx238_2)
  (try rw [sZ] at hx238_3)
  (try rw [sZ] at hx238_4)
  (try rw [sZ] at hx238_5)
  (try rw [sZ] at hx238_6)
  (try rw [sZ] at hx238_7)
  (try rw [sZ] at hx238_8)
  (try rw [sZ] at hx238_9)
  have HR238_4 := Aside0.mk hi238_4
  have HC238_4 := Aside0.mk hl238_4
  clear hi238_4 hl238_4
  have HR238_5 := Aside0.mk hi238_5
  have HC238_5 := Aside0.mk hl238_5
  clear hi238_5 hl238_5
  replace p238 := eq_true p238
  replace q238 := eq_true q238
  go_enter Try.func63, Try.ntmps63
  go_wp2_with (first | ((with_reducible refine gate_callee (f := 109) rfl ?_); refine sC (some 11) Try.func109 #[.slice A238_4 ((rd_T56 l0 0).f4).length c238_4, .agg #[.int .i64 1, .int .i64 0, .string a1, .int .i64 0]] (spec_l09Key.calls k _ _ ((rd_T56 l0 0).f4) 1 0 a1 0 t239 _ ?side1 ?side2 A4.out) ?_; (case side1 => exact sD HR238_4.out); (case side2 => exact HC238_4.out); rintro e w5 ⟨rfl, hb⟩; refine ⟨_, rfl, ?_⟩; have n0_ := sB HB hb; clear HB; have HB := n0_; clear n0_; (try clear hb); (try clear hb2); (try clear hk); (try clear hi)))
  go_ret
  exact ⟨sq, sb⟩
 rw [if_neg c3] at H
 exact absurd H (by simp)
end

section
attribute [local go_sem high] eqA29
/-! ### impl_within: function 117 -/
def impl_within.f (a0 : Int) (a1 : Int) (a2 : Int) : Option (Bool) := if a0 ≥ a1 then (some (decide (a0 ≤ a2))) else (some false)
set_option maxHeartbeats 8000000 in
set_option maxRecDepth 100000 in
theorem impl_within.calls (a0 : Int) (a1 : Int) (a2 : Int) (r : Bool) (w : World) (h : impl_within.f a0 a1 a2 = some r) :
  Calls Try.prog 117 #[.int .i64 a0, .int .i64 a1, .int .i64 a2] w fun e w' => e = .returned (.bool r) ∧ Drawn0 w w' := by
 have H : (if a0 ≥ a1 then (some (decide (a0 ≤ a2))) else (some false)) = some r := h
 clear h
 by_cases c4 : a0 ≥ a1
 ·rw [if_pos c4] at H
  have c4b0 : decide (a1 ≤ a0) = true := decide_eq_true c4
  clear c4
  obtain rfl := Option.some.inj H
  go_enter Try.func117, Try.ntmps117
  go_wp2
  go_ret
  exact ⟨by first | rfl | (simp; done) | (simp [*]; done), by repeat (first | exact Drawn0.refl _ | apply Drawn0.step)⟩
 rw [if_neg c4] at H
 have c4b0 : decide (a1 ≤ a0) = false := decide_eq_false c4
 clear c4
 obtain rfl := Option.some.inj H
 go_enter Try.func117, Try.ntmps117
 go_wp2
 go_ret
 exact ⟨by first | rfl | (simp; done) | (simp [*]; done), by repeat (first | exact Drawn0.refl _ | apply Drawn0.step)⟩
end

section
attribute [local go_sem high] eqA29
/-! ### impl_isObjectId: function 123 -/
def impl_isObjectId.f (a0 : Int) : Option (Bool) := (impl_within.f a0 1 1000000).bind fun t252 => (some t252)
set_option maxHeartbeats 8000000 in
set_option maxRecDepth 100000 in
theorem impl_isObjectId.calls (a0 : Int) (r : Bool) (w : World) (h : impl_isObjectId.f a0 = some r) :
  Calls Try.prog 123 #[.int .i64 a0] w fun e w' => e = .returned (.bool r) ∧ Drawn0 w w' := by
 have H : ((impl_within.f a0 1 1000000).bind fun t252 => (some t252)) = some r := h
 clear h
 obtain ⟨t252, A2, H⟩ := sO H
 obtain rfl := Option.some.inj H
 go_enter Try.func123, Try.ntmps123
 go_wp2_with (first | ((with_reducible refine gate_callee (f := 117) rfl ?_); refine sC (some 4) Try.func117 #[.int .i64 a0, .int .i64 1, .int .i64 1000000] (impl_within.calls a0 1 1000000 t252 _ A2.out) ?_; rintro e w' ⟨rfl, ⟨nd, rfl⟩⟩; refine ⟨_, rfl, ?_⟩))
 go_ret
 exact ⟨by first | rfl | (simp; done) | (simp [*]; done), by repeat (first | exact Drawn0.refl _ | apply Drawn0.step)⟩
end

section
attribute [local go_sem high] eqA29
/-! ### impl_refers: function 77 -/
def impl_refers.f (a0 : Int) : Option (Bool) := (impl_within.f a0 4 6).bind fun t328 => (some t328)
set_option maxHeartbeats 8000000 in
set_option maxRecDepth 100000 in
theorem impl_refers.calls (a0 : Int) (r : Bool) (w : World) (h : impl_refers.f a0 = some r) :
  Calls Try.prog 77 #[.int .i64 a0] w fun e w' => e = .returned (.bool r) ∧ Drawn0 w w' := by
 have H : ((impl_within.f a0 4 6).bind fun t328 => (some t328)) = some r := h
 clear h
 obtain ⟨t328, A2, H⟩ := sO H
 obtain rfl := Option.some.inj H
 go_enter Try.func77, Try.ntmps77
 go_wp2_with (first | ((with_reducible refine gate_callee (f := 117) rfl ?_); refine sC (some 4) Try.func117 #[.int .i64 a0, .int .i64 4, .int .i64 6] (impl_within.calls a0 4 6 t328 _ A2.out) ?_; rintro e w' ⟨rfl, ⟨nd, rfl⟩⟩; refine ⟨_, rfl, ?_⟩))
 go_ret
 exact ⟨by first | rfl | (simp; done) | (simp [*]; done), by repeat (first | exact Drawn0.refl _ | apply Drawn0.step)⟩
end
end Go.Proofs.Ytnjkhdhaiicefaa.PFnExactGetField
