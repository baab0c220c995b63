/- Printed functions: spec_l08Valid, spec_ValidRoots, laws_FnExactValidRoots. -/
import Derived.Test.YtamegncijkfbhaaYHsP0
import Derived.Test.YtamegncijkfbhaaYHsP1
import Derived.Test.YtamegncijkfbhaaYHsP2
import Derived.Test.YtamegncijkfbhaaYHsP3
import Derived.Test.YtamegncijkfbhaaYHsP9
import Derived.Test.YtamegncijkfbhaaYHsP11
import Derived.Test.YtamegncijkfbhaaYHsP23
import Derived.Test.YtamegncijkfbhaaYHsP25
import Derived.Test.YtamegncijkfbhaaYHsP28
namespace Go.Proofs.Ytamegncijkfbhaa.PFnExactFitsHeap
open Go.RowKit Go.Proofs.YtamegncijkfbhaaG Go.Proofs.YtamegncijkfbhaaW.PrintWords Go.Proofs.YtamegncijkfbhaaW.PrintLast Go.Proofs.YtamegncijkfbhaaW.PrintMore
attribute [local go_sem] max2_int min2_int max_two min_two max_three min_three max_four min_four   -- for this text's walks alone
set_option linter.unusedVariables false
set_option linter.unusedSimpArgs false
/-! ### spec_l08Valid: function 50 -/
def spec_l08Valid.f (k : Nat) (l0 : List (S43)) (l1 : List (S30)) : Option (Bool) := (spec_l07Ok.f k l0).bind fun t400 => (if t400 = true then ((spec_l07FitAll.f k l0 l1).bind fun t401 => (some t401)) else (some false))
set_option maxHeartbeats 8000000 in
set_option maxRecDepth 100000 in
theorem spec_l08Valid.calls (k : Nat) (A0 : Option Addr) (l0 : List (S43)) (A1 : Option Addr) (c1 : Nat) (l1 : List (S30)) (r : Bool) (w : World) (hr0 : Kd.C k43 w A0 l0.length l0) (hr1 : Kd.C k30 w A1 l1.length l1) (hc1 : l1.length ≤ c1) (h : spec_l08Valid.f k l0 l1 = some r) :
  Calls Try.prog 50 #[.pointer A0, .slice A1 l1.length c1] w fun e w' => e = .returned (.bool r) ∧ Below w.heap.size w w' := by
 have HR0 := Aside0.mk hr0
 have HC0 := Aside0.mk (Nat.le_refl l0.length)
 clear hr0
 have HR1 := Aside0.mk hr1
 have HC1 := Aside0.mk hc1
 clear hr1 hc1
 have HB := Aside0.mk (Below.refl w.heap.size w)
 have H : ((spec_l07Ok.f k l0).bind fun t400 => (if t400 = true then ((spec_l07FitAll.f k l0 l1).bind fun t401 => (some t401)) else (some false))) = some r := h
 clear h
 obtain ⟨t400, A3, H⟩ := sO H
 by_cases c4 : t400 = true
 ·subst c4
  rewrite [if_pos rfl] at H
  obtain ⟨t401, A5, H⟩ := sO H
  obtain rfl := Option.some.inj H
  go_enter Try.func50, Try.ntmps50
  go_wp2_with (first | ((with_reducible refine gate_callee (f := 42) rfl ?_); refine sC (some 6) Try.func42 #[.pointer A0] (spec_l07Ok.calls k _ l0 true _ ?side1 A3.out) ?_; (case side1 => exact sD HR0.out); rintro e w6 ⟨rfl, hb⟩; refine ⟨_, rfl, ?_⟩; have n0_ := sB HB hb; clear HB; have HB := n0_; clear n0_; (try clear hb); (try clear hb2); (try clear hk); (try clear hi)) | (go_at_call 76; (with_reducible refine (spec_l07FitAll.calls k _ l0 _ _ l1 t401 _ ?side1 ?side2 ?side3 A5.out).mono ?_); (case side1 => exact sD (Kd.C_below HR0.out HB.out)); (case side2 => exact sD (Kd.C_below HR1.out HB.out)); (case side3 => exact HC1.out); rintro e w7 ⟨rfl, hb⟩; have n0_ := sB HB hb; clear HB; have HB := n0_; clear n0_; (try clear hb); (try clear hb2); (try clear hk); (try clear hi)))
  go_ret
  exact ⟨sq, sb⟩
 ·replace c4 := Bool.eq_false_iff.mpr c4
  subst c4
  rewrite [if_neg (show ¬ (false = true) by decide)] at H
  obtain rfl := Option.some.inj H
  go_enter Try.func50, Try.ntmps50
  go_wp2_with (first | ((with_reducible refine gate_callee (f := 42) rfl ?_); refine sC (some 6) Try.func42 #[.pointer A0] (spec_l07Ok.calls k _ l0 false _ ?side1 A3.out) ?_; (case side1 => exact sD HR0.out); rintro e w8 ⟨rfl, hb⟩; refine ⟨_, rfl, ?_⟩; have n0_ := sB HB hb; clear HB; have HB := n0_; clear n0_; (try clear hb); (try clear hb2); (try clear hk); (try clear hi)))
  go_ret
  exact ⟨sq, sb⟩

/-! ### spec_ValidRoots: function 24 -/
def spec_ValidRoots.f (k : Nat) (a0_0 : Int) (l0_1 : List (S32)) (l1 : List (S30)) : Option (Bool) := (spec_l08Valid.f k [(⟨a0_0, l0_1⟩ : S43)] l1).bind fun t403 => (some t403)
set_option maxHeartbeats 8000000 in
set_option maxRecDepth 100000 in
theorem spec_ValidRoots.calls (k : Nat) (a0_0 : Int) (A0_1 : Option Addr) (c0_1 : Nat) (l0_1 : List (S32)) (A1 : Option Addr) (c1 : Nat) (l1 : List (S30)) (r : Bool) (w : World) (hr0_1 : Kd.C k32 w A0_1 l0_1.length l0_1) (hc0_1 : l0_1.length ≤ c0_1) (hr1 : Kd.C k30 w A1 l1.length l1) (hc1 : l1.length ≤ c1) (h : spec_ValidRoots.f k a0_0 l0_1 l1 = some r) :
  Calls Try.prog 24 #[.agg #[.int .i64 a0_0, .slice A0_1 l0_1.length c0_1], .slice A1 l1.length c1] w fun e w' => e = .returned (.bool r) ∧ Below w.heap.size w w' := by
 have hu43 := Try.underlying43
 have HR0_1 := Aside0.mk hr0_1
 have HC0_1 := Aside0.mk hc0_1
 clear hr0_1 hc0_1
 have HR1 := Aside0.mk hr1
 have HC1 := Aside0.mk hc1
 clear hr1 hc1
 have HB := Aside0.mk (Below.refl w.heap.size w)
 have H : ((spec_l08Valid.f k [(⟨a0_0, l0_1⟩ : S43)] l1).bind fun t403 => (some t403)) = some r := h
 clear h
 obtain ⟨t403, A3, H⟩ := sO H
 obtain rfl := Option.some.inj H
 go_enter Try.func24, Try.ntmps24
 go_wp2_with (first | ((with_reducible refine gate_dst (N := 2) rfl ?_); refine sV (N := 2) (cs := #[.int .i64 a0_0, .slice A0_1 l0_1.length c0_1]) (t := 43) ?_; intro gb402 hg w4 hbox hb; have n0_ := sB HB hb; have n1_ := Aside0.mk (hbox); have n2_ := sG HB hg; have n3_ := sG HB hg; clear HB; have HB := n0_; have BK402 := n1_; have GW402 := n2_; have GE402 := n3_; clear n0_ n1_ n2_ n3_; clear hb hbox hg) | ((with_reducible refine gate_callee (f := 50) rfl ?_); refine sC (some 6) Try.func50 #[.pointer (some ⟨gb402, 0, none⟩), .slice A1 l1.length c1] (spec_l08Valid.calls k _ [(⟨a0_0, l0_1⟩ : S43)] _ _ l1 t403 _ ?side1 ?side2 ?side3 A3.out) ?_; (case side1 => exact C_box (sT BK402.out) (k43_mk _ (⟨a0_0, l0_1⟩ : S43) (by exact HC0_1.out) (by exact sD (Kd.C_below HR0_1.out HB.out)))); (case side2 => exact sD (Kd.C_below HR1.out HB.out)); (case side3 => exact HC1.out); rintro e w5 ⟨rfl, hb⟩; refine ⟨_, rfl, ?_⟩; have n0_ := sK BK402 hb; have n1_ := sB HB hb; clear BK402; clear HB; have BK402 := n0_; have HB := n1_; clear n0_ n1_; (try clear hb); (try clear hb2); (try clear hk); (try clear hi)))
 go_ret
 exact ⟨sq, sb⟩

/-! ### laws_FnExactValidRoots: function 6 -/
def laws_FnExactValidRoots.f (k : Nat) (a0_0 : Int) (l0_1 : List (S26)) (l1 : List (S24)) : Option (Bool) := (laws_szHeap.f k a0_0 l0_1 1048576).bind fun t408 => (if t408 < 0 then (some true) else ((laws_szValueS.f k l1 t408).bind fun t409 => (if t409 < 0 then (some true) else ((laws_toHeap.f k a0_0 l0_1).bind fun bt410 => ((laws_toValueS.f k l1).bind fun t414 => ((spec_ValidRoots.f k bt410.1 bt410.2 t414).bind fun t417 => ((laws_toHeap.f k a0_0 l0_1).bind fun bt418 => ((laws_toValueS.f k l1).bind fun t423 => ((impl_ValidRoots.f k bt418.1 bt418.2 t423).bind fun t426 => (if (t426 != t417) = true then (some false) else ((laws_toHeap.f k a0_0 l0_1).bind fun bt427 => ((laws_eqHeap.f k bt418.1 bt418.2 bt427.1 bt427.2).bind fun t431 => (if t431 = true then ((laws_toValueS.f k l1).bind fun t432 => ((laws_eqValueS.f k t423 t432).bind fun t435 => (if t435 = true then (some true) else (some false)))) else (some false))))))))))))))
set_option maxHeartbeats 8000000 in
set_option maxRecDepth 100000 in
theorem laws_FnExactValidRoots.calls (k : Nat) (a0_0 : Int) (A0_1 : Option Addr) (c0_1 : Nat) (l0_1 : List (S26)) (A1 : Option Addr) (c1 : Nat) (l1 : List (S24)) (w : World) (hr0_1 : Kd.C k26 w A0_1 l0_1.length l0_1) (hc0_1 : l0_1.length ≤ c0_1) (hr1 : Kd.C k24 w A1 l1.length l1) (hc1 : l1.length ≤ c1) (h : laws_FnExactValidRoots.f k a0_0 l0_1 l1 = some true) :
  Calls Try.prog 6 #[.agg #[.int .i64 a0_0, .slice A0_1 l0_1.length c0_1], .slice A1 l1.length c1] w fun e w' => e = .returned (.bool true) ∧ Below w.heap.size w w' := by
 have hu38 := Try.underlying38
 have hu43 := Try.underlying43
 have HR0_1 := Aside0.mk hr0_1
 have HC0_1 := Aside0.mk hc0_1
 clear hr0_1 hc0_1
 have HR1 := Aside0.mk hr1
 have HC1 := Aside0.mk hc1
 clear hr1 hc1
 have HB := Aside0.mk (Below.refl w.heap.size w)
 have H : ((laws_szHeap.f k a0_0 l0_1 1048576).bind fun t408 => (if t408 < 0 then (some true) else ((laws_szValueS.f k l1 t408).bind fun t409 => (if t409 < 0 then (some true) else ((laws_toHeap.f k a0_0 l0_1).bind fun bt410 => ((laws_toValueS.f k l1).bind fun t414 => ((spec_ValidRoots.f k bt410.1 bt410.2 t414).bind fun t417 => ((laws_toHeap.f k a0_0 l0_1).bind fun bt418 => ((laws_toValueS.f k l1).bind fun t423 => ((impl_ValidRoots.f k bt418.1 bt418.2 t423).bind fun t426 => (if (t426 != t417) = true then (some false) else ((laws_toHeap.f k a0_0 l0_1).bind fun bt427 => ((laws_eqHeap.f k bt418.1 bt418.2 bt427.1 bt427.2).bind fun t431 => (if t431 = true then ((laws_toValueS.f k l1).bind fun t432 => ((laws_eqValueS.f k t423 t432).bind fun t435 => (if t435 = true then (some true) else (some false)))) else (some false))))))))))))))) = some true := h
 clear h
 obtain ⟨t408, A3, H⟩ := sO H
 by_cases c4 : t408 < 0
 ·rw [if_pos c4] at H
  have c4b0 := decide_eq_true c4
  clear c4
  clear H
  go_enter Try.func6, Try.ntmps6
  go_wp2_with (first | ((with_reducible refine gate_dst (N := 2) rfl ?_); refine sV (N := 2) (cs := #[.int .i64 a0_0, .slice A0_1 l0_1.length c0_1]) (t := 38) ?_; intro gb407 hg w5 hbox hb; have n0_ := sB HB hb; have n1_ := Aside0.mk (hbox); have n2_ := sG HB hg; have n3_ := sG HB hg; clear HB; have HB := n0_; have BK407 := n1_; have GW407 := n2_; have GE407 := n3_; clear n0_ n1_ n2_ n3_; clear hb hbox hg; obtain ⟨hcz6_0, hcz6_1, hfz6_0, hfz6_1⟩ := cells2 BK407.out) | ((with_reducible refine gate_callee (f := 14) rfl ?_); refine sC (some 12) Try.func14 #[.agg #[.int .i64 a0_0, .slice A0_1 l0_1.length c0_1], .int .i64 1048576] (laws_szHeap.calls k a0_0 _ _ l0_1 1048576 t408 _ ?side1 ?side2 A3.out) ?_; (case side1 => exact sD (Kd.C_below HR0_1.out HB.out)); (case side2 => exact HC0_1.out); rintro e w7 ⟨rfl, hb⟩; refine ⟨_, rfl, ?_⟩; have n0_ := sK BK407 hb; have n1_ := sB HB hb; clear BK407; clear HB; have BK407 := n0_; have HB := n1_; clear n0_ n1_; (try clear hb); (try clear hb2); (try clear hk); (try clear hi)))
  go_ret
  exact ⟨sq, sb⟩
 ·rw [if_neg c4] at H
  have c4b0 := decide_eq_false c4
  clear c4
  obtain ⟨t409, A8, H⟩ := sO H
  by_cases c9 : t409 < 0
  ·rw [if_pos c9] at H
   have c9b0 := decide_eq_true c9
   clear c9
   clear H
   go_enter Try.func6, Try.ntmps6
   go_wp2_with (first | ((with_reducible refine gate_dst (N := 2) rfl ?_); refine sV (N := 2) (cs := #[.int .i64 a0_0, .slice A0_1 l0_1.length c0_1]) (t := 38) ?_; intro gb407 hg w10 hbox hb; have n0_ := sB HB hb; have n1_ := Aside0.mk (hbox); have n2_ := sG HB hg; have n3_ := sG HB hg; clear HB; have HB := n0_; have BK407 := n1_; have GW407 := n2_; have GE407 := n3_; clear n0_ n1_ n2_ n3_; clear hb hbox hg; obtain ⟨hcz11_0, hcz11_1, hfz11_0, hfz11_1⟩ := cells2 BK407.out) | ((with_reducible refine gate_callee (f := 14) rfl ?_); refine sC (some 12) Try.func14 #[.agg #[.int .i64 a0_0, .slice A0_1 l0_1.length c0_1], .int .i64 1048576] (laws_szHeap.calls k a0_0 _ _ l0_1 1048576 t408 _ ?side1 ?side2 A3.out) ?_; (case side1 => exact sD (Kd.C_below HR0_1.out HB.out)); (case side2 => exact HC0_1.out); rintro e w12 ⟨rfl, hb⟩; refine ⟨_, rfl, ?_⟩; have n0_ := sK BK407 hb; have n1_ := sB HB hb; clear BK407; clear HB; have BK407 := n0_; have HB := n1_; clear n0_ n1_; (try clear hb); (try clear hb2); (try clear hk); (try clear hi)) | ((with_reducible refine gate_callee (f := 23) rfl ?_); refine sC (some 17) Try.func23 #[.slice A1 l1.length c1, .int .i64 t408] (laws_szValueS.calls k _ _ l1 t408 t409 _ ?side1 ?side2 A8.out) ?_; (case side1 => exact sD (Kd.C_below HR1.out HB.out)); (case side2 => exact HC1.out); rintro e w13 ⟨rfl, hb⟩; refine ⟨_, rfl, ?_⟩; have n0_ := sK BK407 hb; have n1_ := sB HB hb; clear BK407; clear HB; have BK407 := n0_; have HB := n1_; clear n0_ n1_; (try clear hb); (try clear hb2); (try clear hk); (try clear hi)))
   go_ret
   exact ⟨sq, sb⟩
  ·rw [if_neg c9] at H
   have c9b0 := decide_eq_false c9
   clear c9
   replace H := Option.bind_eq_some_iff.mp H
   obtain ⟨⟨t410, t411⟩, A140, H⟩ := H
   replace H : ((laws_toValueS.f k l1).bind fun t414 => ((spec_ValidRoots.f k t410 t411 t414).bind fun t417 => ((laws_toHeap.f k a0_0 l0_1).bind fun bt418 => ((laws_toValueS.f k l1).bind fun t423 => ((impl_ValidRoots.f k bt418.1 bt418.2 t423).bind fun t426 => (if (t426 != t417) = true then (some false) else ((laws_toHeap.f k a0_0 l0_1).bind fun bt427 => ((laws_eqHeap.f k bt418.1 bt418.2 bt427.1 bt427.2).bind fun t431 => (if t431 = true then ((laws_toValueS.f k l1).bind fun t432 => ((laws_eqValueS.f k t423 t432).bind fun t435 => (if t435 = true then (some true) else (some false)))) else (some false)))))))))) = some true := H
   have A14 := Aside0.mk A140
   clear A140
   obtain ⟨t414, A15, H⟩ := sO H
   obtain ⟨t417, A16, H⟩ := sO H
   replace H := Option.bind_eq_some_iff.mp H
   obtain ⟨⟨t418, t419⟩, A170, H⟩ := H
   replace H : ((laws_toValueS.f k l1).bind fun t423 => ((impl_ValidRoots.f k t418 t419 t423).bind fun t426 => (if (t426 != t417) = true then (some false) else ((laws_toHeap.f k a0_0 l0_1).bind fun bt427 => ((laws_eqHeap.f k t418 t419 bt427.1 bt427.2).bind fun t431 => (if t431 = true then ((laws_toValueS.f k l1).bind fun t432 => ((laws_eqValueS.f k t423 t432).bind fun t435 => (if t435 = true then (some true) else (some false)))) else (some false))))))) = some true := H
   have A17 := Aside0.mk A170
   clear A170
   obtain ⟨t423, A18, H⟩ := sO H
   obtain ⟨t426, A19, H⟩ := sO H
   by_cases c20 : (t426 != t417) = true
   ·rw [if_pos c20] at H
    have c20b0 : (t426 != t417) = true := c20
    (try (have c20b1 : decide (t426 = t417) = false := by simpa using c20))
    (try (have c20b2 : (t426 == t417) = false := by simpa using c20))
    (try (have c20b3 : ¬ (t426 = t417) := by simpa using c20))
    clear c20
    exact absurd H (by simp)
   ·rw [if_neg c20] at H
    have c20b0 : (t426 != t417) = false := by simpa using c20
    (try (have c20b1 : decide (t426 = t417) = true := by simpa using c20))
    (try (have c20b2 : (t426 == t417) = true := by simpa using c20))
    clear c20
    replace H := Option.bind_eq_some_iff.mp H
    obtain ⟨⟨t427, t428⟩, A210, H⟩ := H
    replace H : ((laws_eqHeap.f k t418 t419 t427 t428).bind fun t431 => (if t431 = true then ((laws_toValueS.f k l1).bind fun t432 => ((laws_eqValueS.f k t423 t432).bind fun t435 => (if t435 = true then (some true) else (some false)))) else (some false))) = some true := H
    have A21 := Aside0.mk A210
    clear A210
    obtain ⟨t431, A22, H⟩ := sO H
    by_cases c23 : t431 = true
    ·subst c23
     rewrite [if_pos rfl] at H
     obtain ⟨t432, A24, H⟩ := sO H
     obtain ⟨t435, A25, H⟩ := sO H
     by_cases c26 : t435 = true
     ·subst c26
      have H1 : (some true) = some true := rfl
      clear H
      have H := H1
      clear H1
      clear H
      go_enter Try.func6, Try.ntmps6
      try go_wp2_with (first | ((with_reducible refine gate_dst (N := 2) rfl ?_); refine sV (N := 2) (cs := #[.int .i64 a0_0, .slice A0_1 l0_1.length c0_1]) (t := 38) ?_; intro gb407 hg w27 hbox hb; have n0_ := sB HB hb; have n1_ := Aside0.mk (hbox); have n2_ := sG HB hg; have n3_ := sG HB hg; clear HB; have HB := n0_; have BK407 := n1_; have GW407 := n2_; have GE407 := n3_; clear n0_ n1_ n2_ n3_; clear hb hbox hg; obtain ⟨hcz28_0, hcz28_1, hfz28_0, hfz28_1⟩ := cells2 BK407.out) | ((with_reducible refine gate_callee (f := 14) rfl ?_); refine sC (some 12) Try.func14 #[.agg #[.int .i64 a0_0, .slice A0_1 l0_1.length c0_1], .int .i64 1048576] (laws_szHeap.calls k a0_0 _ _ l0_1 1048576 t408 _ ?side1 ?side2 A3.out) ?_; (case side1 => exact sD (Kd.C_below HR0_1.out HB.out)); (case side2 => exact HC0_1.out); rintro e w29 ⟨rfl, hb⟩; refine ⟨_, rfl, ?_⟩; have n0_ := sK BK407 hb; have n1_ := sB HB hb; clear BK407; clear HB; have BK407 := n0_; have HB := n1_; clear n0_ n1_; (try clear hb); (try clear hb2); (try clear hk); (try clear hi)) | ((with_reducible refine gate_callee (f := 23) rfl ?_); refine sC (some 17) Try.func23 #[.slice A1 l1.length c1, .int .i64 t408] (laws_szValueS.calls k _ _ l1 t408 t409 _ ?side1 ?side2 A8.out) ?_; (case side1 => exact sD (Kd.C_below HR1.out HB.out)); (case side2 => exact HC1.out); rintro e w30 ⟨rfl, hb⟩; refine ⟨_, rfl, ?_⟩; have n0_ := sK BK407 hb; have n1_ := sB HB hb; clear BK407; clear HB; have BK407 := n0_; have HB := n1_; clear n0_ n1_; (try clear hb); (try clear hb2); (try clear hk); (try clear hi); obtain ⟨hcz31_0, hcz31_1, hfz31_0, hfz31_1⟩ := cells2 BK407.out) | ((with_reducible refine gate_callee (f := 16) rfl ?_); refine sC (some 21) Try.func16 #[.agg #[.int .i64 a0_0, .slice A0_1 l0_1.length c0_1]] (laws_toHeap.calls k a0_0 _ _ l0_1 t410 t411 _ ?side1 ?side2 A14.out) ?_; (case side1 => exact sD (Kd.C_below HR0_1.out HB.out)); (case side2 => exact HC0_1.out); rintro e w32 ⟨v412, rfl, ho0, hb⟩; refine ⟨_, rfl, ?_⟩; have n0_ := Aside0.mk (Kd.S_lower ho0 (below_size (by repeat (first | (with_reducible first | exact HB.out | apply below_alloc | apply pw_below_drewN | apply below_drew1 | refine below_set ?_ GE407.out) | exact HB.out)))); have n1_ := sK BK407 hb; have n2_ := sB HB hb; clear BK407; clear HB; have HO413 := n0_; have BK407 := n1_; have HB := n2_; clear n0_ n1_ n2_; (try clear hb); (try clear hb2); (try clear hk); (try clear hi); (try clear ho0)) | ((with_reducible refine gate_callee (f := 25) rfl ?_); refine sC (some 23) Try.func25 #[.slice A1 l1.length c1] (laws_toValueS.calls k _ _ l1 t414 _ ?side1 ?side2 A15.out) ?_; (case side1 => exact sD (Kd.C_below HR1.out HB.out)); (case side2 => exact HC1.out); rintro e w33 ⟨v415, rfl, ho0, hb⟩; refine ⟨_, rfl, ?_⟩; have n0_ := Aside0.mk (Kd.S_elder' (sI HO413.out) (Kd.R_base ho0) hb); have n1_ := Aside0.mk (Kd.R_lower ho0 (below_size (by repeat (first | (with_reducible first | exact HB.out | apply below_alloc | apply pw_below_drewN | apply below_drew1 | refine below_set ?_ GE407.out) | exact HB.out)))); have n2_ := sK BK407 hb; have n3_ := sB HB hb; clear HO413; clear BK407; clear HB; have HO413 := n0_; have HO416 := n1_; have BK407 := n2_; have HB := n3_; clear n0_ n1_ n2_ n3_; (try clear hb); (try clear hb2); (try clear hk); (try clear hi); (try clear ho0); obtain ⟨Ao34, co34, eo34⟩ := Kd.S_slice HO413.out; subst eo34; obtain ⟨Ao35, co35, eo35⟩ := Kd.R_slice HO416.out; subst eo35) | ((with_reducible refine gate_callee (f := 24) rfl ?_); refine sC (some 24) Try.func24 #[.agg #[.int .i64 t410, .slice Ao34 t411.length co34], .slice Ao35 t414.length co35] (spec_ValidRoots.calls k t410 _ _ t411 _ _ t414 t417 _ ?side1 ?side2 ?side3 ?side4 A16.out) ?_; (case side1 => exact sD ((Kd.S_reads' HO413.out).2.2)); (case side2 => exact (Kd.S_reads' HO413.out).2.1); (case side3 => exact sD ((Kd.R_reads' HO416.out).2.2)); (case side4 => exact (Kd.R_reads' HO416.out).2.1); rintro e w36 ⟨rfl, hb⟩; refine ⟨_, rfl, ?_⟩; have n0_ := Aside0.mk (Kd.S_below (sI HO413.out) hb); have n1_ := Aside0.mk (Kd.R_below (sE HO416.out) hb); have n2_ := sK BK407 hb; have n3_ := sB HB hb; clear HO413; clear HO416; clear BK407; clear HB; have HO413 := n0_; have HO416 := n1_; have BK407 := n2_; have HB := n3_; clear n0_ n1_ n2_ n3_; (try clear hb); (try clear hb2); (try clear hk); (try clear hi); obtain ⟨hcz37_0, hcz37_1, hfz37_0, hfz37_1⟩ := cells2 BK407.out) | ((with_reducible refine gate_callee (f := 16) rfl ?_); refine sC (some 26) Try.func16 #[.agg #[.int .i64 a0_0, .slice A0_1 l0_1.length c0_1]] (laws_toHeap.calls k a0_0 _ _ l0_1 t418 t419 _ ?side1 ?side2 A17.out) ?_; (case side1 => exact sD (Kd.C_below HR0_1.out HB.out)); (case side2 => exact HC0_1.out); rintro e w38 ⟨v420, rfl, ho0, hb⟩; refine ⟨_, rfl, ?_⟩; have n0_ := Aside0.mk (Kd.S_elder' (sI HO413.out) (Kd.S_base ho0) hb); have n1_ := Aside0.mk (Kd.R_below (sE HO416.out) hb); have n2_ := Aside0.mk (Kd.S_lower (Kd.S_new' (Kd.S_new' ho0 (Kd.S_lt (sI HO413.out))) (Kd.R_lt (sE HO416.out))) (below_size (by repeat (first | (with_reducible first | exact HB.out | apply below_alloc | apply pw_below_drewN | apply below_drew1 | refine below_set ?_ GE407.out) | exact HB.out)))); have n3_ := sK BK407 hb; have n4_ := sB HB hb; clear HO413; clear HO416; clear BK407; clear HB; have HO413 := n0_; have HO416 := n1_; have HO421 := n2_; have BK407 := n3_; have HB := n4_; clear n0_ n1_ n2_ n3_ n4_; (try clear hb); (try clear hb2); (try clear hk); (try clear hi); (try clear ho0)) | ((with_reducible refine gate_dst (N := 7) rfl ?_); refine sV (N := 7) (cs := #[.int .i64 0, .slice none 0 0]) (t := 43) ?_; intro gb422 hg w39 hbox hb; have n0_ := Aside0.mk (Kd.S_below (sI HO413.out) hb); have n1_ := Aside0.mk (Kd.R_below (sE HO416.out) hb); have n2_ := Aside0.mk (Kd.S_below (sI HO421.out) hb); have n3_ := sK BK407 hb; have n4_ := sB HB hb; have n5_ := Aside0.mk (hbox); have n6_ := sG HB hg; have n7_ := sG HB hg; have n8_ := sN BK407 hg; have n9_ := sM BK407 hg; clear HO413; clear HO416; clear HO421; clear BK407; clear HB; have HO413 := n0_; have HO416 := n1_; have HO421 := n2_; have BK407 := n3_; have HB := n4_; have BK422 := n5_; have GW422 := n6_; have GE422 := n7_; have NB407_422 := n8_; have NB422_407 := n9_; clear n0_ n1_ n2_ n3_ n4_ n5_ n6_ n7_ n8_ n9_; clear hb hbox hg; have hnb40 := NB422_407.out; have hnc40 := NB407_422.out; obtain ⟨hcz41_0, hcz41_1, hfz41_0, hfz41_1⟩ := cells2 BK422.out; obtain ⟨Ao42, co42, eo42⟩ := Kd.S_slice HO421.out; subst eo42) | ((with_reducible refine gate_callee (f := 25) rfl ?_); refine sC (some 28) Try.func25 #[.slice A1 l1.length c1] (laws_toValueS.calls k _ _ l1 t423 _ ?side1 ?side2 A18.out) ?_; (case side1 => exact Kd.C_below HR1.out (by repeat (first | (with_reducible first | exact HB.out | apply below_alloc | apply pw_below_drewN | apply below_drew1 | refine below_set ?_ GE407.out | refine below_set ?_ GE422.out) | exact HB.out))); (case side2 => exact HC1.out); rintro e w43 ⟨v424, rfl, ho0, hb⟩; refine ⟨_, rfl, ?_⟩; have n0_ := Aside0.mk (Kd.S_elder' (by (with_reducible repeat (first | apply Kd.S_alloc | apply Kd.S_drewN | apply Kd.S_drew)); exact (Kd.S_mono (Kd.S_far (p := ⟨gb422, 1, none⟩) (Kd.S_far (p := ⟨gb422, 0, none⟩) (Kd.S_types HO413.out BK422.out (by decide)) (fun _ hk => hk.2) (.int .i64 t418)) (fun _ hk => hk.2) (.slice Ao42 t419.length co42)) (fun _ h_ => h_.1))) (Kd.R_base ho0) hb); have n1_ := Aside0.mk (Kd.R_elder' (by (with_reducible repeat (first | apply Kd.R_alloc | apply Kd.R_drewN | apply Kd.R_drew)); exact (Kd.R_mono (Kd.R_far (p := ⟨gb422, 1, none⟩) (Kd.R_far (p := ⟨gb422, 0, none⟩) (Kd.R_types HO416.out BK422.out (by decide)) (fun _ hk => hk.2) (.int .i64 t418)) (fun _ hk => hk.2) (.slice Ao42 t419.length co42)) (fun _ h_ => h_.1))) (Kd.R_base ho0) hb); have n2_ := Aside0.mk (Kd.S_elder' (by (with_reducible repeat (first | apply Kd.S_alloc | apply Kd.S_drewN | apply Kd.S_drew)); exact (Kd.S_mono (Kd.S_far (p := ⟨gb422, 1, none⟩) (Kd.S_far (p := ⟨gb422, 0, none⟩) (Kd.S_types HO421.out BK422.out (by decide)) (fun _ hk => hk.2) (.int .i64 t418)) (fun _ hk => hk.2) (.slice Ao42 t419.length co42)) (fun _ h_ => h_.1))) (Kd.R_base ho0) hb); have n3_ := Aside0.mk (Kd.R_lower (Kd.R_new' ho0 (Kd.R_lt (by (with_reducible repeat (first | apply Kd.R_alloc | apply Kd.R_drewN | apply Kd.R_drew)); exact (Kd.R_mono (Kd.R_far (p := ⟨gb422, 1, none⟩) (Kd.R_far (p := ⟨gb422, 0, none⟩) (Kd.R_types HO416.out BK422.out (by decide)) (fun _ hk => hk.2) (.int .i64 t418)) (fun _ hk => hk.2) (.slice Ao42 t419.length co42)) (fun _ h_ => h_.1))))) (below_size (by repeat (first | (with_reducible first | exact HB.out | apply below_alloc | apply pw_below_drewN | apply below_drew1 | refine below_set ?_ GE407.out | refine below_set ?_ GE422.out) | exact HB.out)))); have n4_ := Aside0.mk (blk_below (g := gb407) (o := .cells #[.int .i64 a0_0, .slice A0_1 l0_1.length c0_1] 38 (0, 0)) (by (with_reducible repeat (first | refine blk_drewN ?_ _ | refine blk_drew ?_ | refine blk_alloc ?_ _)); refine blk_far ?_ NB407_422.out _; (with_reducible repeat (first | refine blk_drewN ?_ _ | refine blk_drew ?_ | refine blk_alloc ?_ _)); refine blk_far ?_ NB407_422.out _; exact sT BK407.out) hb); have n5_ := Aside0.mk (blk_below (g := gb422) (o := .cells #[.int .i64 t418, .slice Ao42 t419.length co42] 43 (0, 0)) (by (with_reducible repeat (first | refine blk_drewN ?_ _ | refine blk_drew ?_ | refine blk_alloc ?_ _)); refine blk_put (cs := #[.int .i64 t418, .slice none 0 0]) ?_ 1 _ rfl; (with_reducible repeat (first | refine blk_drewN ?_ _ | refine blk_drew ?_ | refine blk_alloc ?_ _)); refine blk_put (cs := #[.int .i64 0, .slice none 0 0]) ?_ 0 _ rfl; exact sT BK422.out) hb); have n6_ := sB HB hb; clear HO413; clear HO416; clear HO421; clear BK407; clear BK422; clear HB; have HO413 := n0_; have HO416 := n1_; have HO421 := n2_; have HO425 := n3_; have BK407 := n4_; have BK422 := n5_; have HB := n6_; clear n0_ n1_ n2_ n3_ n4_ n5_ n6_; (try clear hb); (try clear hb2); (try clear hk); (try clear hi); (try clear ho0); obtain ⟨hcz44_0, hcz44_1, hfz44_0, hfz44_1⟩ := cells2 BK422.out; obtain ⟨Ao45, co45, eo45⟩ := Kd.R_slice HO425.out; subst eo45) | ((with_reducible refine gate_callee (f := 26) rfl ?_); refine sC (some 31) Try.func26 #[.agg #[.int .i64 t418, .slice Ao42 t419.length co42], .slice Ao45 t423.length co45] (impl_ValidRoots.calls k t418 _ _ t419 _ _ t423 t426 _ ?side1 ?side2 ?side3 ?side4 A19.out) ?_; (case side1 => exact sD ((Kd.S_reads' HO421.out).2.2)); (case side2 => exact (Kd.S_reads' HO421.out).2.1); (case side3 => exact sD ((Kd.R_reads' HO425.out).2.2)); (case side4 => exact (Kd.R_reads' HO425.out).2.1); rintro e w46 ⟨rfl, hb⟩; refine ⟨_, rfl, ?_⟩; have n0_ := Aside0.mk (Kd.S_below (sI HO413.out) hb); have n1_ := Aside0.mk (Kd.R_below (sE HO416.out) hb); have n2_ := Aside0.mk (Kd.S_below (sI HO421.out) hb); have n3_ := Aside0.mk (Kd.R_below (sE HO425.out) hb); have n4_ := sK BK407 hb; have n5_ := sK BK422 hb; have n6_ := sB HB hb; clear HO413; clear HO416; clear HO421; clear HO425; clear BK407; clear BK422; clear HB; have HO413 := n0_; have HO416 := n1_; have HO421 := n2_; have HO425 := n3_; have BK407 := n4_; have BK422 := n5_; have HB := n6_; clear n0_ n1_ n2_ n3_ n4_ n5_ n6_; (try clear hb); (try clear hb2); (try clear hk); (try clear hi)))
      have n0_ := Aside0.mk (Kd.S_drew HO413.out)
      have n1_ := Aside0.mk (Kd.R_drew HO416.out)
      have n2_ := Aside0.mk (Kd.S_drew HO421.out)
      have n3_ := Aside0.mk (Kd.R_drew HO425.out)
      have n4_ := Aside0.mk (blk_drew BK407.out)
      have n5_ := Aside0.mk (blk_drew BK422.out)
      have n6_ := Aside0.mk (below_drew1 HB.out)
      clear HO413
      clear HO416
      clear HO421
      clear HO425
      clear BK407
      clear BK422
      clear HB
      have HO413 := n0_
      have HO416 := n1_
      have HO421 := n2_
      have HO425 := n3_
      have BK407 := n4_
      have BK422 := n5_
      have HB := n6_
      clear n0_ n1_ n2_ n3_ n4_ n5_ n6_
      refine start_ (n := 5) (S := fun w' => w'.cell? ⟨gb422, 0, none⟩ = some (.int .i64 t418) ∧ w'.cell? ⟨gb422, 1, none⟩ = some (.slice Ao42 t419.length co42) ∧ w'.cell? ⟨gb407, 0, none⟩ = some (.int .i64 a0_0) ∧ w'.cell? ⟨gb407, 1, none⟩ = some (.slice A0_1 l0_1.length c0_1)) (ds := []) #[false, false, false, false, false] (by kernel_rfl) rfl rfl ⟨(blk_cell BK422.out 0).trans rfl, (blk_cell BK422.out 1).trans rfl, (blk_cell BK407.out 0).trans rfl, (blk_cell BK407.out 1).trans rfl⟩ (fun hHeld => ?_)
      generalize w46.drew = w47 at HO413 HO416 HO421 HO425 BK407 BK422 HB hHeld ⊢
      refine take_ (i := 0) (N := some 35) (v := ?_) (a' := ?_) #[true, false, false, false, false] rfl rfl (by kernel_rfl) (fun _ _ _ h => h) (Or.inl ⟨by rfl, ?_⟩) hHeld ?_ ?_
      rotate_left
      ·rintro w' ⟨s0, s1, s2, s3⟩
       go_simp
       with_reducible rfl
      rotate_left
      ·simp only [Act.put, List.setIfInBounds_toArray, List.set_cons_zero, List.set_cons_succ, i64_w, i32_w]
       rfl
      refine take_ (i := 1) (N := some 36) (v := ?_) (a' := ?_) #[true, true, false, false, false] rfl rfl (by kernel_rfl) (fun _ _ _ h => h) (Or.inl ⟨by rfl, ?_⟩) hHeld ?_ ?_
      rotate_left
      ·rintro w' ⟨s0, s1, s2, s3⟩
       go_simp
       with_reducible rfl
      rotate_left
      ·simp only [Act.put, List.setIfInBounds_toArray, List.set_cons_zero, List.set_cons_succ, i64_w, i32_w]
       rfl
      refine one_ (i := 2) (N := some 37) #[true, true, true, false, false] rfl rfl (by kernel_rfl) (by decide) (fun K hK => ?_)
      refine goes_ Try.func16 (by kernel_rfl) rfl #[.agg #[.int .i64 a0_0, .slice A0_1 l0_1.length c0_1]] (by rfl) rfl rfl (by (try simp only [List.map_toArray, List.map_cons, List.map_nil]); first | done | rfl | (simp only [List.length_drop, List.length_take]; rfl)) ?_
      with_reducible refine (laws_toHeap.calls k a0_0 _ _ l0_1 t427 t428 _ ?side1 ?side2 A21.out).mono ?_
      (case side1 => exact sD (Kd.C_below HR0_1.out HB.out))
      (case side2 => exact HC0_1.out)
      rintro e w48 ⟨v429, rfl, ho0, hb⟩
      refine ⟨_, rfl, ?_⟩
      have n0_ := Aside0.mk (Kd.S_elder' (sI HO413.out) (Kd.S_base ho0) hb)
      have n1_ := Aside0.mk (Kd.R_below (sE HO416.out) hb)
      have n2_ := Aside0.mk (Kd.S_elder' (sI HO421.out) (Kd.S_base ho0) hb)
      have n3_ := Aside0.mk (Kd.R_below (sE HO425.out) hb)
      have n4_ := Aside0.mk (Kd.S_lower (Kd.S_new' (Kd.S_new' (Kd.S_new' (Kd.S_new' ho0 (Kd.S_lt (sI HO413.out))) (Kd.R_lt (sE HO416.out))) (Kd.S_lt (sI HO421.out))) (Kd.R_lt (sE HO425.out))) (below_size (by repeat (first | (with_reducible first | exact HB.out | apply below_alloc | apply pw_below_drewN | apply below_drew1 | refine below_set ?_ GE407.out | refine below_set ?_ GE422.out) | exact HB.out))))
      have n5_ := sK BK407 hb
      have n6_ := sK BK422 hb
      have n7_ := sB HB hb
      clear HO413
      clear HO416
      clear HO421
      clear HO425
      clear BK407
      clear BK422
      clear HB
      have HO413 := n0_
      have HO416 := n1_
      have HO421 := n2_
      have HO425 := n3_
      have HO430 := n4_
      have BK407 := n5_
      have BK422 := n6_
      have HB := n7_
      clear n0_ n1_ n2_ n3_ n4_ n5_ n6_ n7_
      (try clear hb)
      (try clear hb2)
      (try clear hk)
      (try clear hi)
      (try clear ho0)
      obtain ⟨Ao49, co49, eo49⟩ := Kd.S_slice HO430.out
      (first | subst eo49 | (injection eo49 with f1_ f2_ f3_; have f4_ := f1_.symm; have f5_ := f3_.symm; clear f1_ f2_ f3_; subst f4_; subst f5_))
      refine hK.out _ _ ⟨(blk_cell BK422.out 0).trans rfl, (blk_cell BK422.out 1).trans rfl, (blk_cell BK407.out 0).trans rfl, (blk_cell BK407.out 1).trans rfl⟩ (fun hHeld => ?_)
      clear hK K
      refine norm_ (a' := ?_) ?_ ?_
      rotate_left
      ·show Act.put _ (some 37) _ = _
       simp only [Act.put, List.setIfInBounds_toArray, List.set_cons_zero, List.set_cons_succ, i64_w, i32_w]
       rfl
      refine one_ (i := 3) (N := some 38) #[true, true, true, true, false] rfl rfl (by kernel_rfl) (by decide) (fun K hK => ?_)
      refine goes_ Try.func18 (by kernel_rfl) rfl #[.agg #[.int .i64 t418, .slice Ao42 t419.length co42], .agg #[.int .i64 t427, .slice Ao49 t428.length co49]] (by rfl) rfl rfl (by (try simp only [List.map_toArray, List.map_cons, List.map_nil]); first | done | rfl | (simp only [List.length_drop, List.length_take]; rfl)) ?_
      with_reducible refine (laws_eqHeap.calls k t418 _ _ t419 t427 _ _ t428 true _ ?side1 ?side2 ?side3 ?side4 A22.out).mono ?_
      (case side1 => exact sD ((Kd.S_reads' HO421.out).2.2))
      (case side2 => exact (Kd.S_reads' HO421.out).2.1)
      (case side3 => exact sD ((Kd.S_reads' HO430.out).2.2))
      (case side4 => exact (Kd.S_reads' HO430.out).2.1)
      rintro e w50 ⟨rfl, hb⟩
      refine ⟨_, rfl, ?_⟩
      have n0_ := Aside0.mk (Kd.S_below (sI HO413.out) hb)
      have n1_ := Aside0.mk (Kd.R_below (sE HO416.out) hb)
      have n2_ := Aside0.mk (Kd.S_below (sI HO421.out) hb)
      have n3_ := Aside0.mk (Kd.R_below (sE HO425.out) hb)
      have n4_ := Aside0.mk (Kd.S_below (sI HO430.out) hb)
      have n5_ := sK BK407 hb
      have n6_ := sK BK422 hb
      have n7_ := sB HB hb
      clear HO413
      clear HO416
      clear HO421
      clear HO425
      clear HO430
      clear BK407
      clear BK422
      clear HB
      have HO413 := n0_
      have HO416 := n1_
      have HO421 := n2_
      have HO425 := n3_
      have HO430 := n4_
      have BK407 := n5_
      have BK422 := n6_
      have HB := n7_
      clear n0_ n1_ n2_ n3_ n4_ n5_ n6_ n7_
      (try clear hb)
      (try clear hb2)
      (try clear hk)
      (try clear hi)
      refine hK.out _ _ ⟨(blk_cell BK422.out 0).trans rfl, (blk_cell BK422.out 1).trans rfl, (blk_cell BK407.out 0).trans rfl, (blk_cell BK407.out 1).trans rfl⟩ (fun hHeld => ?_)
      clear hK K
      refine norm_ (a' := ?_) ?_ ?_
      rotate_left
      ·show Act.put _ (some 38) _ = _
       simp only [Act.put, List.setIfInBounds_toArray, List.set_cons_zero, List.set_cons_succ, i64_w, i32_w]
       rfl
      refine pure_ (i := 4) (N := some 39) (v := ?_) (a' := ?_) #[true, true, true, true, true] rfl rfl (by kernel_rfl) (fun _ _ _ h => h) (Or.inl ⟨by rfl, ?_⟩) ?_ ?_
      rotate_left
      ·intro w'
       go_simp
       with_reducible rfl
      rotate_left
      ·simp only [Act.put, List.setIfInBounds_toArray, List.set_cons_zero, List.set_cons_succ, i64_w, i32_w]
       rfl
      refine done_ (by kernel_rfl) ?_
      try go_wp2_with (first | ((with_reducible refine gate_callee (f := 25) rfl ?_); refine sC (some 42) Try.func25 #[.slice A1 l1.length c1] (laws_toValueS.calls k _ _ l1 t432 _ ?side1 ?side2 A24.out) ?_; (case side1 => exact sD (Kd.C_below HR1.out HB.out)); (case side2 => exact HC1.out); rintro e w51 ⟨v433, rfl, ho0, hb⟩; refine ⟨_, rfl, ?_⟩; have n0_ := Aside0.mk (Kd.S_elder' (sI HO413.out) (Kd.R_base ho0) hb); have n1_ := Aside0.mk (Kd.R_elder' (sE HO416.out) (Kd.R_base ho0) hb); have n2_ := Aside0.mk (Kd.S_elder' (sI HO421.out) (Kd.R_base ho0) hb); have n3_ := Aside0.mk (Kd.R_elder' (sE HO425.out) (Kd.R_base ho0) hb); have n4_ := Aside0.mk (Kd.S_elder' (sI HO430.out) (Kd.R_base ho0) hb); have n5_ := Aside0.mk (Kd.R_lower (Kd.R_new' (Kd.R_new' ho0 (Kd.R_lt (sE HO416.out))) (Kd.R_lt (sE HO425.out))) (below_size (by repeat (first | (with_reducible first | exact HB.out | apply below_alloc | apply pw_below_drewN | apply below_drew1 | refine below_set ?_ GE407.out | refine below_set ?_ GE422.out) | exact HB.out)))); have n6_ := sK BK407 hb; have n7_ := sK BK422 hb; have n8_ := sB HB hb; clear HO413; clear HO416; clear HO421; clear HO425; clear HO430; clear BK407; clear BK422; clear HB; have HO413 := n0_; have HO416 := n1_; have HO421 := n2_; have HO425 := n3_; have HO430 := n4_; have HO434 := n5_; have BK407 := n6_; have BK422 := n7_; have HB := n8_; clear n0_ n1_ n2_ n3_ n4_ n5_ n6_ n7_ n8_; (try clear hb); (try clear hb2); (try clear hk); (try clear hi); (try clear ho0); obtain ⟨Ao52, co52, eo52⟩ := Kd.R_slice HO434.out; subst eo52) | ((with_reducible refine gate_callee (f := 27) rfl ?_); refine sC (some 43) Try.func27 #[.slice Ao45 t423.length co45, .slice Ao52 t432.length co52] (laws_eqValueS.calls k _ _ t423 _ _ t432 true _ ?side1 ?side2 ?side3 ?side4 A25.out) ?_; (case side1 => exact sD ((Kd.R_reads' HO425.out).2.2)); (case side2 => exact (Kd.R_reads' HO425.out).2.1); (case side3 => exact sD ((Kd.R_reads' HO434.out).2.2)); (case side4 => exact (Kd.R_reads' HO434.out).2.1); rintro e w53 ⟨rfl, hb⟩; refine ⟨_, rfl, ?_⟩; have n0_ := Aside0.mk (Kd.S_below (sI HO413.out) hb); have n1_ := Aside0.mk (Kd.R_below (sE HO416.out) hb); have n2_ := Aside0.mk (Kd.S_below (sI HO421.out) hb); have n3_ := Aside0.mk (Kd.R_below (sE HO425.out) hb); have n4_ := Aside0.mk (Kd.S_below (sI HO430.out) hb); have n5_ := Aside0.mk (Kd.R_below (sE HO434.out) hb); have n6_ := sK BK407 hb; have n7_ := sK BK422 hb; have n8_ := sB HB hb; clear HO413; clear HO416; clear HO421; clear HO425; clear HO430; clear HO434; clear BK407; clear BK422; clear HB; have HO413 := n0_; have HO416 := n1_; have HO421 := n2_; have HO425 := n3_; have HO430 := n4_; have HO434 := n5_; have BK407 := n6_; have BK422 := n7_; have HB := n8_; clear n0_ n1_ n2_ n3_ n4_ n5_ n6_ n7_ n8_; (try clear hb); (try clear hb2); (try clear hk); (try clear hi)))
      go_ret
      exact ⟨sq, sb⟩
     ·replace c26 := Bool.eq_false_iff.mpr c26
      subst c26
      rewrite [if_neg (show ¬ (false = true) by decide)] at H
      exact absurd H (by simp)
    ·replace c23 := Bool.eq_false_iff.mpr c23
     subst c23
     rewrite [if_neg (show ¬ (false = true) by decide)] at H
     exact absurd H (by simp)
end Go.Proofs.Ytamegncijkfbhaa.PFnExactFitsHeap
