/- Printed functions: spec_l07Size, spec_HeapSize, laws_FnExactHeapSize. -/
import Derived.Test.YtamegncijkfbhaaYHsP0
import Derived.Test.YtamegncijkfbhaaYHsP1
import Derived.Test.YtamegncijkfbhaaYHsP3
import Derived.Test.YtamegncijkfbhaaYHsP11
import Derived.Test.YtamegncijkfbhaaYHsP25
import Derived.Test.YtamegncijkfbhaaYHsP30
namespace Go.Proofs.Ytamegncijkfbhaa.PFnExactFitsHeap
open Go.RowKit Go.Proofs.YtamegncijkfbhaaG Go.Proofs.YtamegncijkfbhaaW.PrintWords Go.Proofs.YtamegncijkfbhaaW.PrintLast Go.Proofs.YtamegncijkfbhaaW.PrintMore
attribute [local go_sem] max2_int min2_int max_two min_two max_three min_three max_four min_four   -- for this text's walks alone
set_option linter.unusedVariables false
set_option linter.unusedSimpArgs false
/-! ### spec_l07Size: function 51 -/
def spec_l07Size.l0 : Nat → List (S43) → Int → Int → Option (Int)
 | 0, _, _, _ => none
 | k + 1, x0, x3, x4 => if 0 < (x0.length : Int) then (if x4 < (((rd_T43 x0 0).f1).length : Int) then (if 0 ≤ x4 then (spec_l07Size.l0 k x0 (wrap64 (x3 + (wrap64 ((((rd_T32 ((rd_T43 x0 0).f1) x4).f4).length : Int) + (((rd_T32 ((rd_T43 x0 0).f1) x4).f5).length : Int))))) (wrap64 (x4 + 1))) else (none)) else (some x3)) else (none)
def spec_l07Size.f (k : Nat) (l0 : List (S43)) : Option (Int) := spec_l07Size.l0 k l0 0 0
set_option maxHeartbeats 8000000 in
set_option maxRecDepth 100000 in
theorem spec_l07Size.calls (k : Nat) (A0 : Option Addr) (l0 : List (S43)) (r : Int) (w : World) (hr0 : Kd.C k43 w A0 l0.length l0) (h : spec_l07Size.f k l0 = some r) :
  Calls Try.prog 51 #[.pointer A0] w fun e w' => e = .returned (.int .i64 r) ∧ Drawn0 w w' := by
 have HR0 := Aside0.mk hr0
 have HC0 := Aside0.mk (Nat.le_refl l0.length)
 clear hr0
 have H : (spec_l07Size.l0 k l0 0 0) = some r := h
 clear h
 have H' := Aside0.mk H
 clear H
 go_enter Try.func51, Try.ntmps51
 go_wp2
 repeat (go_quiet (fail); try go_wp2)
 go_loopg [3, 4] k (fun kq v3 v4 w' => ∃ (x3_1 : Int) (x4_1 : Int), v3 = .int .i64 x3_1 ∧ v4 = .int .i64 x4_1 ∧ Aside0 (spec_l07Size.l0 kq l0 x3_1 x4_1 = some r) ∧ Aside0 (kq ≤ k) ∧ Drawn0 w w')
 case atStart => exact ⟨(0), (0), sr, sr, H', ⟨Nat.le_refl _⟩, by repeat (first | exact Drawn0.refl _ | apply Drawn0.step)⟩
 case round =>
  clear H'
  obtain ⟨x3_1, x4_1, rfl, rfl, HA, HK1, ⟨m1, rfl⟩⟩ := hrel
  cases gk with
  | zero => exact absurd HA.out (by simp [spec_l07Size.l0])
  | succ k1 =>
   have H := HA.out
   clear HA
   simp only [spec_l07Size.l0] at H
   by_cases c2 : 0 < (l0.length : Int)
   ·rw [if_pos c2] at H
    have c2b0 := decide_eq_true c2
    have c2b1 : decide (0 < l0.length) = true := decide_eq_true (by omega)
    clear c2
    by_cases c3 : x4_1 < (((rd_T43 l0 0).f1).length : Int)
    ·rw [if_pos c3] at H
     have c3b0 := decide_eq_true c3
     clear c3
     by_cases c4 : 0 ≤ x4_1
     ·rw [if_pos c4] at H
      have c4b0 := decide_eq_true c4
      clear c4
      have H' := Aside0.mk H
      clear H
      have p436 : 0 ≤ (0 : Int) := (by omega)
      have q436 : 0 < (l0.length : Int) := of_decide_eq_true (by first | (with_reducible assumption) | assumption)
      obtain ⟨ad436, A436_1, c436_1, e436, hx436_0, hx436_1, hl436_1, hi436_1⟩ := at_T43 HR0.out 0 p436 q436
      cases e436
      have qi436 : (0 < l0.length) = True := eq_true (by omega)
      (try rw [sZ] at hx436_0)
      (try rw [sZ] at hx436_1)
      have HR436_1 := Aside0.mk hi436_1
      have HC436_1 := Aside0.mk hl436_1
      clear hi436_1 hl436_1
      replace p436 := eq_true p436
      replace q436 := eq_true q436
      have p437 : 0 ≤ (0 : Int) := (by omega)
      have q437 : 0 < (l0.length : Int) := of_decide_eq_true (by first | (with_reducible assumption) | assumption)
      obtain ⟨ad437, A437_1, c437_1, e437, hx437_0, hx437_1, hl437_1, hi437_1⟩ := at_T43 HR0.out 0 p437 q437
      obtain rfl : ad436 = ad437 := (by injection e437)
      have qi437 : (0 < l0.length) = True := eq_true (by omega)
      (try rw [sZ] at hx437_0)
      (try rw [sZ] at hx437_1)
      have HR437_1 := Aside0.mk hi437_1
      have HC437_1 := Aside0.mk hl437_1
      clear hi437_1 hl437_1
      replace p437 := eq_true p437
      replace q437 := eq_true q437
      have ea_ := Option.some.inj (hx436_1.symm.trans hx437_1)
      injection ea_ with ea_ en_ ec_
      subst ea_
      subst ec_
      clear en_
      have p438 : 0 ≤ (x4_1 : Int) := of_decide_eq_true (by first | (with_reducible assumption) | assumption)
      have q438 : x4_1 < (((rd_T43 l0 0).f1).length : Int) := of_decide_eq_true (by first | (with_reducible assumption) | assumption)
      obtain ⟨ad438, A438_4, c438_4, A438_5, c438_5, e438, hx438_0, hx438_1, hx438_2, hx438_3, hx438_4, hx438_5, hx438_6, hx438_7, hx438_8, hx438_9, hl438_4, hi438_4, hl438_5, hi438_5⟩ := at_T32 HR437_1.out x4_1 p438 q438
      cases e438
      have HR438_4 := Aside0.mk hi438_4
      have HC438_4 := Aside0.mk hl438_4
      clear hi438_4 hl438_4
      have HR438_5 := Aside0.mk hi438_5
      have HC438_5 := Aside0.mk hl438_5
      clear hi438_5 hl438_5
      replace p438 := eq_true p438
      replace q438 := eq_true q438
      have p439 : 0 ≤ (0 : Int) := (by omega)
      have q439 : 0 < (l0.length : Int) := of_decide_eq_true (by first | (with_reducible assumption) | assumption)
      obtain ⟨ad439, A439_1, c439_1, e439, hx439_0, hx439_1, hl439_1, hi439_1⟩ := at_T43 HR0.out 0 p439 q439
      obtain rfl : ad436 = ad439 := (by injection e439)
      have qi439 : (0 < l0.length) = True := eq_true (by omega)
      (try rw [sZ] at hx439_0)
      (try rw [sZ] at hx439_1)
      have HR439_1 := Aside0.mk hi439_1
      have HC439_1 := Aside0.mk hl439_1
      clear hi439_1 hl439_1
      replace p439 := eq_true p439
      replace q439 := eq_true q439
      have ea_ := Option.some.inj (hx436_1.symm.trans hx439_1)
      injection ea_ with ea_ en_ ec_
      subst ea_
      subst ec_
      clear en_
      have p440 : 0 ≤ (x4_1 : Int) := of_decide_eq_true (by first | (with_reducible assumption) | assumption)
      have q440 : x4_1 < (((rd_T43 l0 0).f1).length : Int) := of_decide_eq_true (by first | (with_reducible assumption) | assumption)
      obtain ⟨ad440, A440_4, c440_4, A440_5, c440_5, e440, hx440_0, hx440_1, hx440_2, hx440_3, hx440_4, hx440_5, hx440_6, hx440_7, hx440_8, hx440_9, hl440_4, hi440_4, hl440_5, hi440_5⟩ := at_T32 HR439_1.out x4_1 p440 q440
      cases e440
      have HR440_4 := Aside0.mk hi440_4
      have HC440_4 := Aside0.mk hl440_4
      clear hi440_4 hl440_4
      have HR440_5 := Aside0.mk hi440_5
      have HC440_5 := Aside0.mk hl440_5
      clear hi440_5 hl440_5
      replace p440 := eq_true p440
      replace q440 := eq_true q440
      go_wp2
      repeat (go_quiet (fail); try go_wp2)
      go_roundg k1
      case measure => have := HK1.out; omega
      case rel => exact ⟨(wrap64 (x3_1 + (wrap64 ((((rd_T32 ((rd_T43 l0 0).f1) x4_1).f4).length : Int) + (((rd_T32 ((rd_T43 l0 0).f1) x4_1).f5).length : Int))))), (wrap64 (x4_1 + 1)), sr, sr, H', ⟨by have := HK1.out; omega⟩, by repeat (first | exact Drawn0.refl _ | apply Drawn0.step)⟩
     ·rw [if_neg c4] at H
      exact absurd H (by simp)
    ·rw [if_neg c3] at H
     have c3b0 := decide_eq_false c3
     clear c3
     obtain rfl := Option.some.inj H
     have p436 : 0 ≤ (0 : Int) := (by omega)
     have q436 : 0 < (l0.length : Int) := of_decide_eq_true (by first | (with_reducible assumption) | assumption)
     obtain ⟨ad436, A436_1, c436_1, e436, hx436_0, hx436_1, hl436_1, hi436_1⟩ := at_T43 HR0.out 0 p436 q436
     cases e436
     have qi436 : (0 < l0.length) = True := eq_true (by omega)
     (try rw [sZ] at hx436_0)
     (try rw [sZ] at hx436_1)
     have HR436_1 := Aside0.mk hi436_1
     have HC436_1 := Aside0.mk hl436_1
     clear hi436_1 hl436_1
     replace p436 := eq_true p436
     replace q436 := eq_true q436
     go_wp2
     repeat (go_quiet (fail); try go_wp2)
     go_ret
     exact ⟨by first | rfl | (simp; done) | (simp [*]; done), by repeat (first | exact Drawn0.refl _ | apply Drawn0.step)⟩
   ·rw [if_neg c2] at H
    exact absurd H (by simp)

/-! ### spec_HeapSize: function 28 -/
def spec_HeapSize.f (k : Nat) (a0_0 : Int) (l0_1 : List (S32)) : Option (Int) := (spec_l07Ok.f k [(⟨a0_0, l0_1⟩ : S43)]).bind fun t442 => (if t442 = true then ((spec_l07Size.f k [(⟨a0_0, l0_1⟩ : S43)]).bind fun t443 => (some t443)) else (some (-1)))
set_option maxHeartbeats 8000000 in
set_option maxRecDepth 100000 in
theorem spec_HeapSize.calls (k : Nat) (a0_0 : Int) (A0_1 : Option Addr) (c0_1 : Nat) (l0_1 : List (S32)) (r : Int) (w : World) (hr0_1 : Kd.C k32 w A0_1 l0_1.length l0_1) (hc0_1 : l0_1.length ≤ c0_1) (h : spec_HeapSize.f k a0_0 l0_1 = some r) :
  Calls Try.prog 28 #[.agg #[.int .i64 a0_0, .slice A0_1 l0_1.length c0_1]] w fun e w' => e = .returned (.int .i64 r) ∧ Below w.heap.size w w' := by
 have hu43 := Try.underlying43
 have HR0_1 := Aside0.mk hr0_1
 have HC0_1 := Aside0.mk hc0_1
 clear hr0_1 hc0_1
 have HB := Aside0.mk (Below.refl w.heap.size w)
 have H : ((spec_l07Ok.f k [(⟨a0_0, l0_1⟩ : S43)]).bind fun t442 => (if t442 = true then ((spec_l07Size.f k [(⟨a0_0, l0_1⟩ : S43)]).bind fun t443 => (some t443)) else (some (-1)))) = some r := h
 clear h
 obtain ⟨t442, A2, H⟩ := sO H
 by_cases c3 : t442 = true
 ·subst c3
  rewrite [if_pos rfl] at H
  obtain ⟨t443, A4, H⟩ := sO H
  obtain rfl := Option.some.inj H
  go_enter Try.func28, Try.ntmps28
  go_wp2_with (first | ((with_reducible refine gate_dst (N := 1) rfl ?_); refine sV (N := 1) (cs := #[.int .i64 a0_0, .slice A0_1 l0_1.length c0_1]) (t := 43) ?_; intro gb441 hg w5 hbox hb; have n0_ := sB HB hb; have n1_ := Aside0.mk (hbox); have n2_ := sG HB hg; have n3_ := sG HB hg; clear HB; have HB := n0_; have BK441 := n1_; have GW441 := n2_; have GE441 := n3_; clear n0_ n1_ n2_ n3_; clear hb hbox hg) | ((with_reducible refine gate_callee (f := 42) rfl ?_); refine sC (some 3) Try.func42 #[.pointer (some ⟨gb441, 0, none⟩)] (spec_l07Ok.calls k _ [(⟨a0_0, l0_1⟩ : S43)] true _ ?side1 A2.out) ?_; (case side1 => exact C_box (sT BK441.out) (k43_mk _ (⟨a0_0, l0_1⟩ : S43) (by exact HC0_1.out) (by exact sD (Kd.C_below HR0_1.out HB.out)))); rintro e w6 ⟨rfl, hb⟩; refine ⟨_, rfl, ?_⟩; have n0_ := sK BK441 hb; have n1_ := sB HB hb; clear BK441; clear HB; have BK441 := n0_; have HB := n1_; clear n0_ n1_; (try clear hb); (try clear hb2); (try clear hk); (try clear hi)) | ((with_reducible refine gate_callee (f := 51) rfl ?_); refine sC (some 5) Try.func51 #[.pointer (some ⟨gb441, 0, none⟩)] (spec_l07Size.calls k _ [(⟨a0_0, l0_1⟩ : S43)] t443 _ ?side1 A4.out) ?_; (case side1 => exact C_box (sT BK441.out) (k43_mk _ (⟨a0_0, l0_1⟩ : S43) (by exact HC0_1.out) (by exact sD (Kd.C_below HR0_1.out HB.out)))); rintro e w' ⟨rfl, ⟨nd, rfl⟩⟩; refine ⟨_, rfl, ?_⟩))
  go_ret
  exact ⟨sq, sb⟩
 ·replace c3 := Bool.eq_false_iff.mpr c3
  subst c3
  rewrite [if_neg (show ¬ (false = true) by decide)] at H
  obtain rfl := Option.some.inj H
  go_enter Try.func28, Try.ntmps28
  go_wp2_with (first | ((with_reducible refine gate_dst (N := 1) rfl ?_); refine sV (N := 1) (cs := #[.int .i64 a0_0, .slice A0_1 l0_1.length c0_1]) (t := 43) ?_; intro gb441 hg w7 hbox hb; have n0_ := sB HB hb; have n1_ := Aside0.mk (hbox); have n2_ := sG HB hg; have n3_ := sG HB hg; clear HB; have HB := n0_; have BK441 := n1_; have GW441 := n2_; have GE441 := n3_; clear n0_ n1_ n2_ n3_; clear hb hbox hg) | ((with_reducible refine gate_callee (f := 42) rfl ?_); refine sC (some 3) Try.func42 #[.pointer (some ⟨gb441, 0, none⟩)] (spec_l07Ok.calls k _ [(⟨a0_0, l0_1⟩ : S43)] false _ ?side1 A2.out) ?_; (case side1 => exact C_box (sT BK441.out) (k43_mk _ (⟨a0_0, l0_1⟩ : S43) (by exact HC0_1.out) (by exact sD (Kd.C_below HR0_1.out HB.out)))); rintro e w8 ⟨rfl, hb⟩; refine ⟨_, rfl, ?_⟩; have n0_ := sK BK441 hb; have n1_ := sB HB hb; clear BK441; clear HB; have BK441 := n0_; have HB := n1_; clear n0_ n1_; (try clear hb); (try clear hb2); (try clear hk); (try clear hi)))
  go_ret
  exact ⟨sq, sb⟩

/-! ### laws_FnExactHeapSize: function 7 -/
def laws_FnExactHeapSize.f (k : Nat) (a0_0 : Int) (l0_1 : List (S26)) : Option (Bool) := (laws_szHeap.f k a0_0 l0_1 1048576).bind fun t449 => (if t449 < 0 then (some true) else ((laws_toHeap.f k a0_0 l0_1).bind fun bt450 => ((spec_HeapSize.f k bt450.1 bt450.2).bind fun t454 => ((laws_toHeap.f k a0_0 l0_1).bind fun bt455 => ((impl_HeapSize.f k bt455.1 bt455.2).bind fun t460 => (if t460 = t454 then ((laws_toHeap.f k a0_0 l0_1).bind fun bt461 => ((laws_eqHeap.f k bt455.1 bt455.2 bt461.1 bt461.2).bind fun t465 => (if t465 = true then (some true) else (some false)))) else (some false)))))))
set_option maxHeartbeats 8000000 in
set_option maxRecDepth 100000 in
theorem laws_FnExactHeapSize.calls (k : Nat) (a0_0 : Int) (A0_1 : Option Addr) (c0_1 : Nat) (l0_1 : List (S26)) (w : World) (hr0_1 : Kd.C k26 w A0_1 l0_1.length l0_1) (hc0_1 : l0_1.length ≤ c0_1) (h : laws_FnExactHeapSize.f k a0_0 l0_1 = some true) :
  Calls Try.prog 7 #[.agg #[.int .i64 a0_0, .slice A0_1 l0_1.length c0_1]] w fun e w' => e = .returned (.bool true) ∧ Below w.heap.size w w' := by
 have hu38 := Try.underlying38
 have hu43 := Try.underlying43
 have HR0_1 := Aside0.mk hr0_1
 have HC0_1 := Aside0.mk hc0_1
 clear hr0_1 hc0_1
 have HB := Aside0.mk (Below.refl w.heap.size w)
 have H : ((laws_szHeap.f k a0_0 l0_1 1048576).bind fun t449 => (if t449 < 0 then (some true) else ((laws_toHeap.f k a0_0 l0_1).bind fun bt450 => ((spec_HeapSize.f k bt450.1 bt450.2).bind fun t454 => ((laws_toHeap.f k a0_0 l0_1).bind fun bt455 => ((impl_HeapSize.f k bt455.1 bt455.2).bind fun t460 => (if t460 = t454 then ((laws_toHeap.f k a0_0 l0_1).bind fun bt461 => ((laws_eqHeap.f k bt455.1 bt455.2 bt461.1 bt461.2).bind fun t465 => (if t465 = true then (some true) else (some false)))) else (some false)))))))) = some true := h
 clear h
 obtain ⟨t449, A2, H⟩ := sO H
 by_cases c3 : t449 < 0
 ·rw [if_pos c3] at H
  have c3b0 := decide_eq_true c3
  clear c3
  clear H
  go_enter Try.func7, Try.ntmps7
  go_wp2_with (first | ((with_reducible refine gate_dst (N := 1) rfl ?_); refine sV (N := 1) (cs := #[.int .i64 a0_0, .slice A0_1 l0_1.length c0_1]) (t := 38) ?_; intro gb448 hg w4 hbox hb; have n0_ := sB HB hb; have n1_ := Aside0.mk (hbox); have n2_ := sG HB hg; have n3_ := sG HB hg; clear HB; have HB := n0_; have BK448 := n1_; have GW448 := n2_; have GE448 := n3_; clear n0_ n1_ n2_ n3_; clear hb hbox hg; obtain ⟨hcz5_0, hcz5_1, hfz5_0, hfz5_1⟩ := cells2 BK448.out) | ((with_reducible refine gate_callee (f := 14) rfl ?_); refine sC (some 9) Try.func14 #[.agg #[.int .i64 a0_0, .slice A0_1 l0_1.length c0_1], .int .i64 1048576] (laws_szHeap.calls k a0_0 _ _ l0_1 1048576 t449 _ ?side1 ?side2 A2.out) ?_; (case side1 => exact sD (Kd.C_below HR0_1.out HB.out)); (case side2 => exact HC0_1.out); rintro e w6 ⟨rfl, hb⟩; refine ⟨_, rfl, ?_⟩; have n0_ := sK BK448 hb; have n1_ := sB HB hb; clear BK448; clear HB; have BK448 := n0_; have HB := n1_; clear n0_ n1_; (try clear hb); (try clear hb2); (try clear hk); (try clear hi)))
  go_ret
  exact ⟨sq, sb⟩
 ·rw [if_neg c3] at H
  have c3b0 := decide_eq_false c3
  clear c3
  replace H := Option.bind_eq_some_iff.mp H
  obtain ⟨⟨t450, t451⟩, A70, H⟩ := H
  replace H : ((spec_HeapSize.f k t450 t451).bind fun t454 => ((laws_toHeap.f k a0_0 l0_1).bind fun bt455 => ((impl_HeapSize.f k bt455.1 bt455.2).bind fun t460 => (if t460 = t454 then ((laws_toHeap.f k a0_0 l0_1).bind fun bt461 => ((laws_eqHeap.f k bt455.1 bt455.2 bt461.1 bt461.2).bind fun t465 => (if t465 = true then (some true) else (some false)))) else (some false))))) = some true := H
  have A7 := Aside0.mk A70
  clear A70
  obtain ⟨t454, A8, H⟩ := sO H
  replace H := Option.bind_eq_some_iff.mp H
  obtain ⟨⟨t455, t456⟩, A90, H⟩ := H
  replace H : ((impl_HeapSize.f k t455 t456).bind fun t460 => (if t460 = t454 then ((laws_toHeap.f k a0_0 l0_1).bind fun bt461 => ((laws_eqHeap.f k t455 t456 bt461.1 bt461.2).bind fun t465 => (if t465 = true then (some true) else (some false)))) else (some false))) = some true := H
  have A9 := Aside0.mk A90
  clear A90
  obtain ⟨t460, A10, H⟩ := sO H
  by_cases c11 : t460 = t454
  ·rw [if_pos c11] at H
   have c11b0 : (t460 == t454) = true := beq_iff_eq.mpr c11
   have c11b1 : (t460 != t454) = false := bne_eq_false_iff_eq.mpr c11
   clear c11
   replace H := Option.bind_eq_some_iff.mp H
   obtain ⟨⟨t461, t462⟩, A120, H⟩ := H
   replace H : ((laws_eqHeap.f k t455 t456 t461 t462).bind fun t465 => (if t465 = true then (some true) else (some false))) = some true := H
   have A12 := Aside0.mk A120
   clear A120
   obtain ⟨t465, A13, H⟩ := sO H
   by_cases c14 : t465 = true
   ·subst c14
    have H1 : (some true) = some true := rfl
    clear H
    have H := H1
    clear H1
    clear H
    go_enter Try.func7, Try.ntmps7
    try go_wp2_with (first | ((with_reducible refine gate_dst (N := 1) rfl ?_); refine sV (N := 1) (cs := #[.int .i64 a0_0, .slice A0_1 l0_1.length c0_1]) (t := 38) ?_; intro gb448 hg w15 hbox hb; have n0_ := sB HB hb; have n1_ := Aside0.mk (hbox); have n2_ := sG HB hg; have n3_ := sG HB hg; clear HB; have HB := n0_; have BK448 := n1_; have GW448 := n2_; have GE448 := n3_; clear n0_ n1_ n2_ n3_; clear hb hbox hg; obtain ⟨hcz16_0, hcz16_1, hfz16_0, hfz16_1⟩ := cells2 BK448.out) | ((with_reducible refine gate_callee (f := 14) rfl ?_); refine sC (some 9) Try.func14 #[.agg #[.int .i64 a0_0, .slice A0_1 l0_1.length c0_1], .int .i64 1048576] (laws_szHeap.calls k a0_0 _ _ l0_1 1048576 t449 _ ?side1 ?side2 A2.out) ?_; (case side1 => exact sD (Kd.C_below HR0_1.out HB.out)); (case side2 => exact HC0_1.out); rintro e w17 ⟨rfl, hb⟩; refine ⟨_, rfl, ?_⟩; have n0_ := sK BK448 hb; have n1_ := sB HB hb; clear BK448; clear HB; have BK448 := n0_; have HB := n1_; clear n0_ n1_; (try clear hb); (try clear hb2); (try clear hk); (try clear hi); obtain ⟨hcz18_0, hcz18_1, hfz18_0, hfz18_1⟩ := cells2 BK448.out) | ((with_reducible refine gate_callee (f := 16) rfl ?_); refine sC (some 13) Try.func16 #[.agg #[.int .i64 a0_0, .slice A0_1 l0_1.length c0_1]] (laws_toHeap.calls k a0_0 _ _ l0_1 t450 t451 _ ?side1 ?side2 A7.out) ?_; (case side1 => exact sD (Kd.C_below HR0_1.out HB.out)); (case side2 => exact HC0_1.out); rintro e w19 ⟨v452, rfl, ho0, hb⟩; refine ⟨_, rfl, ?_⟩; have n0_ := Aside0.mk (Kd.S_lower ho0 (below_size (by repeat (first | (with_reducible first | exact HB.out | apply below_alloc | apply pw_below_drewN | apply below_drew1 | refine below_set ?_ GE448.out) | exact HB.out)))); have n1_ := sK BK448 hb; have n2_ := sB HB hb; clear BK448; clear HB; have HO453 := n0_; have BK448 := n1_; have HB := n2_; clear n0_ n1_ n2_; (try clear hb); (try clear hb2); (try clear hk); (try clear hi); (try clear ho0); obtain ⟨Ao20, co20, eo20⟩ := Kd.S_slice HO453.out; subst eo20) | ((with_reducible refine gate_callee (f := 28) rfl ?_); refine sC (some 14) Try.func28 #[.agg #[.int .i64 t450, .slice Ao20 t451.length co20]] (spec_HeapSize.calls k t450 _ _ t451 t454 _ ?side1 ?side2 A8.out) ?_; (case side1 => exact sD ((Kd.S_reads' HO453.out).2.2)); (case side2 => exact (Kd.S_reads' HO453.out).2.1); rintro e w21 ⟨rfl, hb⟩; refine ⟨_, rfl, ?_⟩; have n0_ := Aside0.mk (Kd.S_below (sI HO453.out) hb); have n1_ := sK BK448 hb; have n2_ := sB HB hb; clear HO453; clear BK448; clear HB; have HO453 := n0_; have BK448 := n1_; have HB := n2_; clear n0_ n1_ n2_; (try clear hb); (try clear hb2); (try clear hk); (try clear hi); obtain ⟨hcz22_0, hcz22_1, hfz22_0, hfz22_1⟩ := cells2 BK448.out) | ((with_reducible refine gate_callee (f := 16) rfl ?_); refine sC (some 16) Try.func16 #[.agg #[.int .i64 a0_0, .slice A0_1 l0_1.length c0_1]] (laws_toHeap.calls k a0_0 _ _ l0_1 t455 t456 _ ?side1 ?side2 A9.out) ?_; (case side1 => exact sD (Kd.C_below HR0_1.out HB.out)); (case side2 => exact HC0_1.out); rintro e w23 ⟨v457, rfl, ho0, hb⟩; refine ⟨_, rfl, ?_⟩; have n0_ := Aside0.mk (Kd.S_elder' (sI HO453.out) (Kd.S_base ho0) hb); have n1_ := Aside0.mk (Kd.S_lower (Kd.S_new' ho0 (Kd.S_lt (sI HO453.out))) (below_size (by repeat (first | (with_reducible first | exact HB.out | apply below_alloc | apply pw_below_drewN | apply below_drew1 | refine below_set ?_ GE448.out) | exact HB.out)))); have n2_ := sK BK448 hb; have n3_ := sB HB hb; clear HO453; clear BK448; clear HB; have HO453 := n0_; have HO458 := n1_; have BK448 := n2_; have HB := n3_; clear n0_ n1_ n2_ n3_; (try clear hb); (try clear hb2); (try clear hk); (try clear hi); (try clear ho0)) | ((with_reducible refine gate_dst (N := 5) rfl ?_); refine sV (N := 5) (cs := #[.int .i64 0, .slice none 0 0]) (t := 43) ?_; intro gb459 hg w24 hbox hb; have n0_ := Aside0.mk (Kd.S_below (sI HO453.out) hb); have n1_ := Aside0.mk (Kd.S_below (sI HO458.out) hb); have n2_ := sK BK448 hb; have n3_ := sB HB hb; have n4_ := Aside0.mk (hbox); have n5_ := sG HB hg; have n6_ := sG HB hg; have n7_ := sN BK448 hg; have n8_ := sM BK448 hg; clear HO453; clear HO458; clear BK448; clear HB; have HO453 := n0_; have HO458 := n1_; have BK448 := n2_; have HB := n3_; have BK459 := n4_; have GW459 := n5_; have GE459 := n6_; have NB448_459 := n7_; have NB459_448 := n8_; clear n0_ n1_ n2_ n3_ n4_ n5_ n6_ n7_ n8_; clear hb hbox hg; have hnb25 := NB459_448.out; have hnc25 := NB448_459.out; obtain ⟨hcz26_0, hcz26_1, hfz26_0, hfz26_1⟩ := cells2 BK459.out; obtain ⟨Ao27, co27, eo27⟩ := Kd.S_slice HO458.out; subst eo27) | ((with_reducible refine gate_callee (f := 29) rfl ?_); refine sC (some 18) Try.func29 #[.agg #[.int .i64 t455, .slice Ao27 t456.length co27]] (impl_HeapSize.calls k t455 _ _ t456 t460 _ ?side1 ?side2 A10.out) ?_; (case side1 => refine (Kd.S_reads' (e := 32) (base := w.heap.size) (ok := fun k_ => (True ∧ some k_ ≠ (.slice Ao20 t451.length co20 : Value).ownBlock)) (n := t456.length) (c := co27) ?_).2.2; exact (by (with_reducible repeat (first | apply Kd.S_alloc | apply Kd.S_drewN | apply Kd.S_drew)); exact (Kd.S_mono (Kd.S_far (p := ⟨gb459, 1, none⟩) (Kd.S_far (p := ⟨gb459, 0, none⟩) (Kd.S_types HO458.out BK459.out (by decide)) (fun _ hk => hk.2) (.int .i64 t455)) (fun _ hk => hk.2) (.slice Ao27 t456.length co27)) (fun _ h_ => h_.1)))); (case side2 => exact (Kd.S_reads' HO458.out).2.1); rintro e w28 ⟨rfl, hb⟩; refine ⟨_, rfl, ?_⟩; have n0_ := Aside0.mk (Kd.S_below (by (with_reducible repeat (first | apply Kd.S_alloc | apply Kd.S_drewN | apply Kd.S_drew)); exact (Kd.S_mono (Kd.S_far (p := ⟨gb459, 1, none⟩) (Kd.S_far (p := ⟨gb459, 0, none⟩) (Kd.S_types HO453.out BK459.out (by decide)) (fun _ hk => hk.2) (.int .i64 t455)) (fun _ hk => hk.2) (.slice Ao27 t456.length co27)) (fun _ h_ => h_.1))) hb); have n1_ := Aside0.mk (Kd.S_below (by (with_reducible repeat (first | apply Kd.S_alloc | apply Kd.S_drewN | apply Kd.S_drew)); exact (Kd.S_mono (Kd.S_far (p := ⟨gb459, 1, none⟩) (Kd.S_far (p := ⟨gb459, 0, none⟩) (Kd.S_types HO458.out BK459.out (by decide)) (fun _ hk => hk.2) (.int .i64 t455)) (fun _ hk => hk.2) (.slice Ao27 t456.length co27)) (fun _ h_ => h_.1))) hb); have n2_ := Aside0.mk (blk_below (g := gb448) (o := .cells #[.int .i64 a0_0, .slice A0_1 l0_1.length c0_1] 38 (0, 0)) (by (with_reducible repeat (first | refine blk_drewN ?_ _ | refine blk_drew ?_ | refine blk_alloc ?_ _)); refine blk_far ?_ NB448_459.out _; (with_reducible repeat (first | refine blk_drewN ?_ _ | refine blk_drew ?_ | refine blk_alloc ?_ _)); refine blk_far ?_ NB448_459.out _; exact sT BK448.out) hb); have n3_ := Aside0.mk (blk_below (g := gb459) (o := .cells #[.int .i64 t455, .slice Ao27 t456.length co27] 43 (0, 0)) (by (with_reducible repeat (first | refine blk_drewN ?_ _ | refine blk_drew ?_ | refine blk_alloc ?_ _)); refine blk_put (cs := #[.int .i64 t455, .slice none 0 0]) ?_ 1 _ rfl; (with_reducible repeat (first | refine blk_drewN ?_ _ | refine blk_drew ?_ | refine blk_alloc ?_ _)); refine blk_put (cs := #[.int .i64 0, .slice none 0 0]) ?_ 0 _ rfl; exact sT BK459.out) hb); have n4_ := sB HB hb; clear HO453; clear HO458; clear BK448; clear BK459; clear HB; have HO453 := n0_; have HO458 := n1_; have BK448 := n2_; have BK459 := n3_; have HB := n4_; clear n0_ n1_ n2_ n3_ n4_; (try clear hb); (try clear hb2); (try clear hk); (try clear hi)))
    have n0_ := Aside0.mk (Kd.S_drew HO453.out)
    have n1_ := Aside0.mk (Kd.S_drew HO458.out)
    have n2_ := Aside0.mk (blk_drew BK448.out)
    have n3_ := Aside0.mk (blk_drew BK459.out)
    have n4_ := Aside0.mk (below_drew1 HB.out)
    clear HO453
    clear HO458
    clear BK448
    clear BK459
    clear HB
    have HO453 := n0_
    have HO458 := n1_
    have BK448 := n2_
    have BK459 := n3_
    have HB := n4_
    clear n0_ n1_ n2_ n3_ n4_
    refine start_ (n := 5) (S := fun w' => w'.cell? ⟨gb459, 0, none⟩ = some (.int .i64 t455) ∧ w'.cell? ⟨gb459, 1, none⟩ = some (.slice Ao27 t456.length co27) ∧ w'.cell? ⟨gb448, 0, none⟩ = some (.int .i64 a0_0) ∧ w'.cell? ⟨gb448, 1, none⟩ = some (.slice A0_1 l0_1.length c0_1)) (ds := []) #[false, false, false, false, false] (by kernel_rfl) rfl rfl ⟨(blk_cell BK459.out 0).trans rfl, (blk_cell BK459.out 1).trans rfl, (blk_cell BK448.out 0).trans rfl, (blk_cell BK448.out 1).trans rfl⟩ (fun hHeld => ?_)
    generalize w28.drew = w29 at HO453 HO458 BK448 BK459 HB hHeld ⊢
    refine take_ (i := 0) (N := some 22) (v := ?_) (a' := ?_) #[true, false, false, false, false] rfl rfl (by kernel_rfl) (fun _ _ _ h => h) (Or.inl ⟨by rfl, ?_⟩) hHeld ?_ ?_
    rotate_left
    ·rintro w' ⟨s0, s1, s2, s3⟩
     go_simp
     with_reducible rfl
    rotate_left
    ·simp only [Act.put, List.setIfInBounds_toArray, List.set_cons_zero, List.set_cons_succ, i64_w, i32_w]
     rfl
    refine take_ (i := 1) (N := some 23) (v := ?_) (a' := ?_) #[true, true, false, false, false] rfl rfl (by kernel_rfl) (fun _ _ _ h => h) (Or.inl ⟨by rfl, ?_⟩) hHeld ?_ ?_
    rotate_left
    ·rintro w' ⟨s0, s1, s2, s3⟩
     go_simp
     with_reducible rfl
    rotate_left
    ·simp only [Act.put, List.setIfInBounds_toArray, List.set_cons_zero, List.set_cons_succ, i64_w, i32_w]
     rfl
    refine one_ (i := 2) (N := some 24) #[true, true, true, false, false] rfl rfl (by kernel_rfl) (by decide) (fun K hK => ?_)
    refine goes_ Try.func16 (by kernel_rfl) rfl #[.agg #[.int .i64 a0_0, .slice A0_1 l0_1.length c0_1]] (by rfl) rfl rfl (by (try simp only [List.map_toArray, List.map_cons, List.map_nil]); first | done | rfl | (simp only [List.length_drop, List.length_take]; rfl)) ?_
    with_reducible refine (laws_toHeap.calls k a0_0 _ _ l0_1 t461 t462 _ ?side1 ?side2 A12.out).mono ?_
    (case side1 => exact sD (Kd.C_below HR0_1.out HB.out))
    (case side2 => exact HC0_1.out)
    rintro e w30 ⟨v463, rfl, ho0, hb⟩
    refine ⟨_, rfl, ?_⟩
    have n0_ := Aside0.mk (Kd.S_elder' (sI HO453.out) (Kd.S_base ho0) hb)
    have n1_ := Aside0.mk (Kd.S_elder' (sI HO458.out) (Kd.S_base ho0) hb)
    have n2_ := Aside0.mk (Kd.S_lower (Kd.S_new' (Kd.S_new' ho0 (Kd.S_lt (sI HO453.out))) (Kd.S_lt (sI HO458.out))) (below_size (by repeat (first | (with_reducible first | exact HB.out | apply below_alloc | apply pw_below_drewN | apply below_drew1 | refine below_set ?_ GE448.out | refine below_set ?_ GE459.out) | exact HB.out))))
    have n3_ := sK BK448 hb
    have n4_ := sK BK459 hb
    have n5_ := sB HB hb
    clear HO453
    clear HO458
    clear BK448
    clear BK459
    clear HB
    have HO453 := n0_
    have HO458 := n1_
    have HO464 := n2_
    have BK448 := n3_
    have BK459 := n4_
    have HB := n5_
    clear n0_ n1_ n2_ n3_ n4_ n5_
    (try clear hb)
    (try clear hb2)
    (try clear hk)
    (try clear hi)
    (try clear ho0)
    obtain ⟨Ao31, co31, eo31⟩ := Kd.S_slice HO464.out
    (first | subst eo31 | (injection eo31 with f1_ f2_ f3_; have f4_ := f1_.symm; have f5_ := f3_.symm; clear f1_ f2_ f3_; subst f4_; subst f5_))
    refine hK.out _ _ ⟨(blk_cell BK459.out 0).trans rfl, (blk_cell BK459.out 1).trans rfl, (blk_cell BK448.out 0).trans rfl, (blk_cell BK448.out 1).trans rfl⟩ (fun hHeld => ?_)
    clear hK K
    refine norm_ (a' := ?_) ?_ ?_
    rotate_left
    ·show Act.put _ (some 24) _ = _
     simp only [Act.put, List.setIfInBounds_toArray, List.set_cons_zero, List.set_cons_succ, i64_w, i32_w]
     rfl
    refine one_ (i := 3) (N := some 25) #[true, true, true, true, false] rfl rfl (by kernel_rfl) (by decide) (fun K hK => ?_)
    refine goes_ Try.func18 (by kernel_rfl) rfl #[.agg #[.int .i64 t455, .slice Ao27 t456.length co27], .agg #[.int .i64 t461, .slice Ao31 t462.length co31]] (by rfl) rfl rfl (by (try simp only [List.map_toArray, List.map_cons, List.map_nil]); first | done | rfl | (simp only [List.length_drop, List.length_take]; rfl)) ?_
    with_reducible refine (laws_eqHeap.calls k t455 _ _ t456 t461 _ _ t462 true _ ?side1 ?side2 ?side3 ?side4 A13.out).mono ?_
    (case side1 => exact sD ((Kd.S_reads' HO458.out).2.2))
    (case side2 => exact (Kd.S_reads' HO458.out).2.1)
    (case side3 => exact sD ((Kd.S_reads' HO464.out).2.2))
    (case side4 => exact (Kd.S_reads' HO464.out).2.1)
    rintro e w32 ⟨rfl, hb⟩
    refine ⟨_, rfl, ?_⟩
    have n0_ := Aside0.mk (Kd.S_below (sI HO453.out) hb)
    have n1_ := Aside0.mk (Kd.S_below (sI HO458.out) hb)
    have n2_ := Aside0.mk (Kd.S_below (sI HO464.out) hb)
    have n3_ := sK BK448 hb
    have n4_ := sK BK459 hb
    have n5_ := sB HB hb
    clear HO453
    clear HO458
    clear HO464
    clear BK448
    clear BK459
    clear HB
    have HO453 := n0_
    have HO458 := n1_
    have HO464 := n2_
    have BK448 := n3_
    have BK459 := n4_
    have HB := n5_
    clear n0_ n1_ n2_ n3_ n4_ n5_
    (try clear hb)
    (try clear hb2)
    (try clear hk)
    (try clear hi)
    refine hK.out _ _ ⟨(blk_cell BK459.out 0).trans rfl, (blk_cell BK459.out 1).trans rfl, (blk_cell BK448.out 0).trans rfl, (blk_cell BK448.out 1).trans rfl⟩ (fun hHeld => ?_)
    clear hK K
    refine norm_ (a' := ?_) ?_ ?_
    rotate_left
    ·show Act.put _ (some 25) _ = _
     simp only [Act.put, List.setIfInBounds_toArray, List.set_cons_zero, List.set_cons_succ, i64_w, i32_w]
     rfl
    refine pure_ (i := 4) (N := some 26) (v := ?_) (a' := ?_) #[true, true, true, true, true] rfl rfl (by kernel_rfl) (fun _ _ _ h => h) (Or.inl ⟨by rfl, ?_⟩) ?_ ?_
    rotate_left
    ·intro w'
     go_simp
     with_reducible rfl
    rotate_left
    ·simp only [Act.put, List.setIfInBounds_toArray, List.set_cons_zero, List.set_cons_succ, i64_w, i32_w]
     rfl
    refine done_ (by kernel_rfl) ?_
    try go_wp2
    go_ret
    exact ⟨sq, sb⟩
   ·replace c14 := Bool.eq_false_iff.mpr c14
    subst c14
    rewrite [if_neg (show ¬ (false = true) by decide)] at H
    exact absurd H (by simp)
  ·rw [if_neg c11] at H
   have c11b0 : (t460 == t454) = false := beq_eq_false_iff_ne.mpr c11
   have c11b1 : (t460 != t454) = true := bne_iff_ne.mpr c11
   exact absurd H (by simp)
end Go.Proofs.Ytamegncijkfbhaa.PFnExactFitsHeap
