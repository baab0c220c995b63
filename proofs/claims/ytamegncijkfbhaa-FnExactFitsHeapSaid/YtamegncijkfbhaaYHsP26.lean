/- Printed functions: laws_FnExactFitsHeap. -/
import Derived.Test.YtamegncijkfbhaaYHsP0
import Derived.Test.YtamegncijkfbhaaYHsP1
import Derived.Test.YtamegncijkfbhaaYHsP2
import Derived.Test.YtamegncijkfbhaaYHsP3
import Derived.Test.YtamegncijkfbhaaYHsP12
import Derived.Test.YtamegncijkfbhaaYHsP22
import Derived.Test.YtamegncijkfbhaaYHsP25
namespace Go.Proofs.Ytamegncijkfbhaa.PFnExactFitsHeap
open Go.RowKit Go.Proofs.YtamegncijkfbhaaG Go.Proofs.YtamegncijkfbhaaW.PrintWords Go.Proofs.YtamegncijkfbhaaW.PrintLast Go.Proofs.YtamegncijkfbhaaW.PrintMore
attribute [local go_sem] max2_int min2_int max_two min_two max_three min_three max_four min_four   -- for this text's walks alone
set_option linter.unusedVariables false
set_option linter.unusedSimpArgs false
/-! ### laws_FnExactFitsHeap: function 5 -/
def laws_FnExactFitsHeap.f (k : Nat) (a0_0 : Int) (l0_1 : List (S26)) (a1_0 : Int) (a1_1 : Int) (a1_2 : ByteArray) (a1_3 : Int) : Option (Bool) := (laws_szHeap.f k a0_0 l0_1 1048576).bind fun t374 => (if t374 < 0 then (some true) else ((laws_szValue.f a1_0 a1_1 a1_2 a1_3 t374).bind fun t375 => (if t375 < 0 then (some true) else ((laws_toHeap.f k a0_0 l0_1).bind fun bt376 => ((laws_toValue.f a1_0 a1_1 a1_2 a1_3).bind fun bt380 => ((spec_FitsHeap.f k bt376.1 bt376.2 bt380.1 bt380.2.1 bt380.2.2.1 bt380.2.2.2).bind fun t384 => ((laws_toHeap.f k a0_0 l0_1).bind fun bt385 => ((laws_toValue.f a1_0 a1_1 a1_2 a1_3).bind fun bt390 => ((impl_FitsHeap.f k bt385.1 bt385.2 bt390.1 bt390.2.1 bt390.2.2.1 bt390.2.2.2).bind fun t394 => (if (t394 != t384) = true then (some false) else ((laws_toHeap.f k a0_0 l0_1).bind fun bt395 => ((laws_eqHeap.f k bt385.1 bt385.2 bt395.1 bt395.2).bind fun t399 => (if t399 = true then (some true) else (some false))))))))))))))
set_option maxHeartbeats 8000000 in
set_option maxRecDepth 100000 in
theorem laws_FnExactFitsHeap.calls (k : Nat) (a0_0 : Int) (A0_1 : Option Addr) (c0_1 : Nat) (l0_1 : List (S26)) (a1_0 : Int) (a1_1 : Int) (a1_2 : ByteArray) (a1_3 : Int) (w : World) (hr0_1 : Kd.C k26 w A0_1 l0_1.length l0_1) (hc0_1 : l0_1.length ≤ c0_1) (h : laws_FnExactFitsHeap.f k a0_0 l0_1 a1_0 a1_1 a1_2 a1_3 = some true) :
  Calls Try.prog 5 #[.agg #[.int .i64 a0_0, .slice A0_1 l0_1.length c0_1], .agg #[.int .i64 a1_0, .int .i64 a1_1, .string a1_2, .int .i64 a1_3]] w fun e w' => e = .returned (.bool true) ∧ Below w.heap.size w w' := by
 have hu38 := Try.underlying38
 have hu24 := Try.underlying24
 have hu43 := Try.underlying43
 have HR0_1 := Aside0.mk hr0_1
 have HC0_1 := Aside0.mk hc0_1
 clear hr0_1 hc0_1
 have HB := Aside0.mk (Below.refl w.heap.size w)
 have H : ((laws_szHeap.f k a0_0 l0_1 1048576).bind fun t374 => (if t374 < 0 then (some true) else ((laws_szValue.f a1_0 a1_1 a1_2 a1_3 t374).bind fun t375 => (if t375 < 0 then (some true) else ((laws_toHeap.f k a0_0 l0_1).bind fun bt376 => ((laws_toValue.f a1_0 a1_1 a1_2 a1_3).bind fun bt380 => ((spec_FitsHeap.f k bt376.1 bt376.2 bt380.1 bt380.2.1 bt380.2.2.1 bt380.2.2.2).bind fun t384 => ((laws_toHeap.f k a0_0 l0_1).bind fun bt385 => ((laws_toValue.f a1_0 a1_1 a1_2 a1_3).bind fun bt390 => ((impl_FitsHeap.f k bt385.1 bt385.2 bt390.1 bt390.2.1 bt390.2.2.1 bt390.2.2.2).bind fun t394 => (if (t394 != t384) = true then (some false) else ((laws_toHeap.f k a0_0 l0_1).bind fun bt395 => ((laws_eqHeap.f k bt385.1 bt385.2 bt395.1 bt395.2).bind fun t399 => (if t399 = true then (some true) else (some false))))))))))))))) = some true := h
 clear h
 obtain ⟨t374, A3, H⟩ := sO H
 by_cases c4 : t374 < 0
 ·rw [if_pos c4] at H
  have c4b0 := decide_eq_true c4
  clear c4
  clear H
  go_enter Try.func5, Try.ntmps5
  go_wp2_with (first | ((with_reducible refine gate_dst (N := 2) rfl ?_); refine sV (N := 2) (cs := #[.int .i64 a0_0, .slice A0_1 l0_1.length c0_1]) (t := 38) ?_; intro gb372 hg w5 hbox hb; have n0_ := sB HB hb; have n1_ := Aside0.mk (hbox); have n2_ := sG HB hg; have n3_ := sG HB hg; clear HB; have HB := n0_; have BK372 := n1_; have GW372 := n2_; have GE372 := n3_; clear n0_ n1_ n2_ n3_; clear hb hbox hg) | ((with_reducible refine gate_dst (N := 3) rfl ?_); refine sV (N := 3) (cs := #[.int .i64 a1_0, .int .i64 a1_1, .string a1_2, .int .i64 a1_3]) (t := 24) ?_; intro gb373 hg w6 hbox hb; have n0_ := sK BK372 hb; have n1_ := sB HB hb; have n2_ := Aside0.mk (hbox); have n3_ := sG HB hg; have n4_ := sG HB hg; have n5_ := sN BK372 hg; have n6_ := sM BK372 hg; clear BK372; clear HB; have BK372 := n0_; have HB := n1_; have BK373 := n2_; have GW373 := n3_; have GE373 := n4_; have NB372_373 := n5_; have NB373_372 := n6_; clear n0_ n1_ n2_ n3_ n4_ n5_ n6_; clear hb hbox hg; have hnb7 := NB372_373.out; have hnc7 := NB373_372.out; obtain ⟨hcz8_0, hcz8_1, hfz8_0, hfz8_1⟩ := cells2 BK372.out) | ((with_reducible refine gate_callee (f := 14) rfl ?_); refine sC (some 11) Try.func14 #[.agg #[.int .i64 a0_0, .slice A0_1 l0_1.length c0_1], .int .i64 1048576] (laws_szHeap.calls k a0_0 _ _ l0_1 1048576 t374 _ ?side1 ?side2 A3.out) ?_; (case side1 => exact sD (Kd.C_below HR0_1.out HB.out)); (case side2 => exact HC0_1.out); rintro e w9 ⟨rfl, hb⟩; refine ⟨_, rfl, ?_⟩; have n0_ := sK BK372 hb; have n1_ := sK BK373 hb; have n2_ := sB HB hb; clear BK372; clear BK373; clear HB; have BK372 := n0_; have BK373 := n1_; have HB := n2_; clear n0_ n1_ n2_; (try clear hb); (try clear hb2); (try clear hk); (try clear hi)))
  go_ret
  exact ⟨sq, sb⟩
 ·rw [if_neg c4] at H
  have c4b0 := decide_eq_false c4
  clear c4
  obtain ⟨t375, A10, H⟩ := sO H
  by_cases c11 : t375 < 0
  ·rw [if_pos c11] at H
   have c11b0 := decide_eq_true c11
   clear c11
   clear H
   go_enter Try.func5, Try.ntmps5
   go_wp2_with (first | ((with_reducible refine gate_dst (N := 2) rfl ?_); refine sV (N := 2) (cs := #[.int .i64 a0_0, .slice A0_1 l0_1.length c0_1]) (t := 38) ?_; intro gb372 hg w12 hbox hb; have n0_ := sB HB hb; have n1_ := Aside0.mk (hbox); have n2_ := sG HB hg; have n3_ := sG HB hg; clear HB; have HB := n0_; have BK372 := n1_; have GW372 := n2_; have GE372 := n3_; clear n0_ n1_ n2_ n3_; clear hb hbox hg) | ((with_reducible refine gate_dst (N := 3) rfl ?_); refine sV (N := 3) (cs := #[.int .i64 a1_0, .int .i64 a1_1, .string a1_2, .int .i64 a1_3]) (t := 24) ?_; intro gb373 hg w13 hbox hb; have n0_ := sK BK372 hb; have n1_ := sB HB hb; have n2_ := Aside0.mk (hbox); have n3_ := sG HB hg; have n4_ := sG HB hg; have n5_ := sN BK372 hg; have n6_ := sM BK372 hg; clear BK372; clear HB; have BK372 := n0_; have HB := n1_; have BK373 := n2_; have GW373 := n3_; have GE373 := n4_; have NB372_373 := n5_; have NB373_372 := n6_; clear n0_ n1_ n2_ n3_ n4_ n5_ n6_; clear hb hbox hg; have hnb14 := NB372_373.out; have hnc14 := NB373_372.out; obtain ⟨hcz15_0, hcz15_1, hfz15_0, hfz15_1⟩ := cells2 BK372.out) | ((with_reducible refine gate_callee (f := 14) rfl ?_); refine sC (some 11) Try.func14 #[.agg #[.int .i64 a0_0, .slice A0_1 l0_1.length c0_1], .int .i64 1048576] (laws_szHeap.calls k a0_0 _ _ l0_1 1048576 t374 _ ?side1 ?side2 A3.out) ?_; (case side1 => exact sD (Kd.C_below HR0_1.out HB.out)); (case side2 => exact HC0_1.out); rintro e w16 ⟨rfl, hb⟩; refine ⟨_, rfl, ?_⟩; have n0_ := sK BK372 hb; have n1_ := sK BK373 hb; have n2_ := sB HB hb; clear BK372; clear BK373; clear HB; have BK372 := n0_; have BK373 := n1_; have HB := n2_; clear n0_ n1_ n2_; (try clear hb); (try clear hb2); (try clear hk); (try clear hi); obtain ⟨hcz17_0, hcz17_1, hcz17_2, hcz17_3, hfz17_0, hfz17_1, hfz17_2, hfz17_3⟩ := cells4 BK373.out) | ((with_reducible refine gate_callee (f := 19) rfl ?_); refine sC (some 16) Try.func19 #[.agg #[.int .i64 a1_0, .int .i64 a1_1, .string a1_2, .int .i64 a1_3], .int .i64 t374] (laws_szValue.calls a1_0 a1_1 a1_2 a1_3 t374 t375 _ A10.out) ?_; rintro e w18 ⟨rfl, hb⟩; refine ⟨_, rfl, ?_⟩; have n0_ := sK BK372 hb; have n1_ := sK BK373 hb; have n2_ := sB HB hb; clear BK372; clear BK373; clear HB; have BK372 := n0_; have BK373 := n1_; have HB := n2_; clear n0_ n1_ n2_; (try clear hb); (try clear hb2); (try clear hk); (try clear hi)))
   go_ret
   exact ⟨sq, sb⟩
  ·rw [if_neg c11] at H
   have c11b0 := decide_eq_false c11
   clear c11
   replace H := Option.bind_eq_some_iff.mp H
   obtain ⟨⟨t376, t377⟩, A190, H⟩ := H
   replace H : ((laws_toValue.f a1_0 a1_1 a1_2 a1_3).bind fun bt380 => ((spec_FitsHeap.f k t376 t377 bt380.1 bt380.2.1 bt380.2.2.1 bt380.2.2.2).bind fun t384 => ((laws_toHeap.f k a0_0 l0_1).bind fun bt385 => ((laws_toValue.f a1_0 a1_1 a1_2 a1_3).bind fun bt390 => ((impl_FitsHeap.f k bt385.1 bt385.2 bt390.1 bt390.2.1 bt390.2.2.1 bt390.2.2.2).bind fun t394 => (if (t394 != t384) = true then (some false) else ((laws_toHeap.f k a0_0 l0_1).bind fun bt395 => ((laws_eqHeap.f k bt385.1 bt385.2 bt395.1 bt395.2).bind fun t399 => (if t399 = true then (some true) else (some false)))))))))) = some true := H
   have A19 := Aside0.mk A190
   clear A190
   replace H := Option.bind_eq_some_iff.mp H
   obtain ⟨⟨t380, t381, t382, t383⟩, A200, H⟩ := H
   replace H : ((spec_FitsHeap.f k t376 t377 t380 t381 t382 t383).bind fun t384 => ((laws_toHeap.f k a0_0 l0_1).bind fun bt385 => ((laws_toValue.f a1_0 a1_1 a1_2 a1_3).bind fun bt390 => ((impl_FitsHeap.f k bt385.1 bt385.2 bt390.1 bt390.2.1 bt390.2.2.1 bt390.2.2.2).bind fun t394 => (if (t394 != t384) = true then (some false) else ((laws_toHeap.f k a0_0 l0_1).bind fun bt395 => ((laws_eqHeap.f k bt385.1 bt385.2 bt395.1 bt395.2).bind fun t399 => (if t399 = true then (some true) else (some false))))))))) = some true := H
   have A20 := Aside0.mk A200
   clear A200
   obtain ⟨t384, A21, H⟩ := sO H
   replace H := Option.bind_eq_some_iff.mp H
   obtain ⟨⟨t385, t386⟩, A220, H⟩ := H
   replace H : ((laws_toValue.f a1_0 a1_1 a1_2 a1_3).bind fun bt390 => ((impl_FitsHeap.f k t385 t386 bt390.1 bt390.2.1 bt390.2.2.1 bt390.2.2.2).bind fun t394 => (if (t394 != t384) = true then (some false) else ((laws_toHeap.f k a0_0 l0_1).bind fun bt395 => ((laws_eqHeap.f k t385 t386 bt395.1 bt395.2).bind fun t399 => (if t399 = true then (some true) else (some false))))))) = some true := H
   have A22 := Aside0.mk A220
   clear A220
   replace H := Option.bind_eq_some_iff.mp H
   obtain ⟨⟨t390, t391, t392, t393⟩, A230, H⟩ := H
   replace H : ((impl_FitsHeap.f k t385 t386 t390 t391 t392 t393).bind fun t394 => (if (t394 != t384) = true then (some false) else ((laws_toHeap.f k a0_0 l0_1).bind fun bt395 => ((laws_eqHeap.f k t385 t386 bt395.1 bt395.2).bind fun t399 => (if t399 = true then (some true) else (some false)))))) = some true := H
   have A23 := Aside0.mk A230
   clear A230
   obtain ⟨t394, A24, H⟩ := sO H
   by_cases c25 : (t394 != t384) = true
   ·rw [if_pos c25] at H
    have c25b0 : (t394 != t384) = true := c25
    (try (have c25b1 : decide (t394 = t384) = false := by simpa using c25))
    (try (have c25b2 : (t394 == t384) = false := by simpa using c25))
    (try (have c25b3 : ¬ (t394 = t384) := by simpa using c25))
    clear c25
    exact absurd H (by simp)
   ·rw [if_neg c25] at H
    have c25b0 : (t394 != t384) = false := by simpa using c25
    (try (have c25b1 : decide (t394 = t384) = true := by simpa using c25))
    (try (have c25b2 : (t394 == t384) = true := by simpa using c25))
    clear c25
    replace H := Option.bind_eq_some_iff.mp H
    obtain ⟨⟨t395, t396⟩, A260, H⟩ := H
    replace H : ((laws_eqHeap.f k t385 t386 t395 t396).bind fun t399 => (if t399 = true then (some true) else (some false))) = some true := H
    have A26 := Aside0.mk A260
    clear A260
    obtain ⟨t399, A27, H⟩ := sO H
    by_cases c28 : t399 = true
    ·subst c28
     have H1 : (some true) = some true := rfl
     clear H
     have H := H1
     clear H1
     clear H
     go_enter Try.func5, Try.ntmps5
     try go_wp2_with (first | ((with_reducible refine gate_dst (N := 2) rfl ?_); refine sV (N := 2) (cs := #[.int .i64 a0_0, .slice A0_1 l0_1.length c0_1]) (t := 38) ?_; intro gb372 hg w29 hbox hb; have n0_ := sB HB hb; have n1_ := Aside0.mk (hbox); have n2_ := sG HB hg; have n3_ := sG HB hg; clear HB; have HB := n0_; have BK372 := n1_; have GW372 := n2_; have GE372 := n3_; clear n0_ n1_ n2_ n3_; clear hb hbox hg) | ((with_reducible refine gate_dst (N := 3) rfl ?_); refine sV (N := 3) (cs := #[.int .i64 a1_0, .int .i64 a1_1, .string a1_2, .int .i64 a1_3]) (t := 24) ?_; intro gb373 hg w30 hbox hb; have n0_ := sK BK372 hb; have n1_ := sB HB hb; have n2_ := Aside0.mk (hbox); have n3_ := sG HB hg; have n4_ := sG HB hg; have n5_ := sN BK372 hg; have n6_ := sM BK372 hg; clear BK372; clear HB; have BK372 := n0_; have HB := n1_; have BK373 := n2_; have GW373 := n3_; have GE373 := n4_; have NB372_373 := n5_; have NB373_372 := n6_; clear n0_ n1_ n2_ n3_ n4_ n5_ n6_; clear hb hbox hg; have hnb31 := NB372_373.out; have hnc31 := NB373_372.out; obtain ⟨hcz32_0, hcz32_1, hfz32_0, hfz32_1⟩ := cells2 BK372.out) | ((with_reducible refine gate_callee (f := 14) rfl ?_); refine sC (some 11) Try.func14 #[.agg #[.int .i64 a0_0, .slice A0_1 l0_1.length c0_1], .int .i64 1048576] (laws_szHeap.calls k a0_0 _ _ l0_1 1048576 t374 _ ?side1 ?side2 A3.out) ?_; (case side1 => exact sD (Kd.C_below HR0_1.out HB.out)); (case side2 => exact HC0_1.out); rintro e w33 ⟨rfl, hb⟩; refine ⟨_, rfl, ?_⟩; have n0_ := sK BK372 hb; have n1_ := sK BK373 hb; have n2_ := sB HB hb; clear BK372; clear BK373; clear HB; have BK372 := n0_; have BK373 := n1_; have HB := n2_; clear n0_ n1_ n2_; (try clear hb); (try clear hb2); (try clear hk); (try clear hi); obtain ⟨hcz34_0, hcz34_1, hcz34_2, hcz34_3, hfz34_0, hfz34_1, hfz34_2, hfz34_3⟩ := cells4 BK373.out) | ((with_reducible refine gate_callee (f := 19) rfl ?_); refine sC (some 16) Try.func19 #[.agg #[.int .i64 a1_0, .int .i64 a1_1, .string a1_2, .int .i64 a1_3], .int .i64 t374] (laws_szValue.calls a1_0 a1_1 a1_2 a1_3 t374 t375 _ A10.out) ?_; rintro e w35 ⟨rfl, hb⟩; refine ⟨_, rfl, ?_⟩; have n0_ := sK BK372 hb; have n1_ := sK BK373 hb; have n2_ := sB HB hb; clear BK372; clear BK373; clear HB; have BK372 := n0_; have BK373 := n1_; have HB := n2_; clear n0_ n1_ n2_; (try clear hb); (try clear hb2); (try clear hk); (try clear hi)))
     have n0_ := Aside0.mk (blk_drew BK372.out)
     have n1_ := Aside0.mk (blk_drew BK373.out)
     have n2_ := Aside0.mk (below_drew1 HB.out)
     clear BK372
     clear BK373
     clear HB
     have BK372 := n0_
     have BK373 := n1_
     have HB := n2_
     clear n0_ n1_ n2_
     refine start_ (n := 6) (S := fun w' => w'.cell? ⟨gb372, 0, none⟩ = some (.int .i64 a0_0) ∧ w'.cell? ⟨gb372, 1, none⟩ = some (.slice A0_1 l0_1.length c0_1) ∧ w'.cell? ⟨gb373, 0, none⟩ = some (.int .i64 a1_0) ∧ w'.cell? ⟨gb373, 1, none⟩ = some (.int .i64 a1_1) ∧ w'.cell? ⟨gb373, 2, none⟩ = some (.string a1_2) ∧ w'.cell? ⟨gb373, 3, none⟩ = some (.int .i64 a1_3)) (ds := []) #[false, false, false, false, false, false] (by kernel_rfl) rfl rfl ⟨(blk_cell BK372.out 0).trans rfl, (blk_cell BK372.out 1).trans rfl, (blk_cell BK373.out 0).trans rfl, (blk_cell BK373.out 1).trans rfl, (blk_cell BK373.out 2).trans rfl, (blk_cell BK373.out 3).trans rfl⟩ (fun hHeld => ?_)
     generalize w35.drew = w36 at BK372 BK373 HB hHeld ⊢
     refine take_ (i := 0) (N := some 19) (v := ?_) (a' := ?_) #[true, false, false, false, false, false] rfl rfl (by kernel_rfl) (fun _ _ _ h => h) (Or.inl ⟨by rfl, ?_⟩) hHeld ?_ ?_
     rotate_left
     ·rintro w' ⟨s0, s1, s2, s3, s4, s5⟩
      go_simp
      with_reducible rfl
     rotate_left
     ·simp only [Act.put, List.setIfInBounds_toArray, List.set_cons_zero, List.set_cons_succ, i64_w, i32_w]
      rfl
     refine take_ (i := 2) (N := some 21) (v := ?_) (a' := ?_) #[true, false, true, false, false, false] rfl rfl (by kernel_rfl) (fun _ _ _ h => h) (Or.inl ⟨by rfl, ?_⟩) hHeld ?_ ?_
     rotate_left
     ·rintro w' ⟨s0, s1, s2, s3, s4, s5⟩
      go_simp
      with_reducible rfl
     rotate_left
     ·simp only [Act.put, List.setIfInBounds_toArray, List.set_cons_zero, List.set_cons_succ, i64_w, i32_w]
      rfl
     refine one_ (i := 1) (N := some 20) #[true, true, true, false, false, false] rfl rfl (by kernel_rfl) (by decide) (fun K hK => ?_)
     refine goes_ Try.func16 (by kernel_rfl) rfl #[.agg #[.int .i64 a0_0, .slice A0_1 l0_1.length c0_1]] (by rfl) rfl rfl (by (try simp only [List.map_toArray, List.map_cons, List.map_nil]); first | done | rfl | (simp only [List.length_drop, List.length_take]; rfl)) ?_
     with_reducible refine (laws_toHeap.calls k a0_0 _ _ l0_1 t376 t377 _ ?side1 ?side2 A19.out).mono ?_
     (case side1 => exact sD (Kd.C_below HR0_1.out HB.out))
     (case side2 => exact HC0_1.out)
     rintro e w37 ⟨v378, rfl, ho0, hb⟩
     refine ⟨_, rfl, ?_⟩
     have n0_ := Aside0.mk (Kd.S_lower ho0 (below_size (by repeat (first | (with_reducible first | exact HB.out | apply below_alloc | apply pw_below_drewN | apply below_drew1 | refine below_set ?_ GE372.out | refine below_set ?_ GE373.out) | exact HB.out))))
     have n1_ := sK BK372 hb
     have n2_ := sK BK373 hb
     have n3_ := sB HB hb
     clear BK372
     clear BK373
     clear HB
     have HO379 := n0_
     have BK372 := n1_
     have BK373 := n2_
     have HB := n3_
     clear n0_ n1_ n2_ n3_
     (try clear hb)
     (try clear hb2)
     (try clear hk)
     (try clear hi)
     (try clear ho0)
     refine hK.out _ _ ⟨(blk_cell BK372.out 0).trans rfl, (blk_cell BK372.out 1).trans rfl, (blk_cell BK373.out 0).trans rfl, (blk_cell BK373.out 1).trans rfl, (blk_cell BK373.out 2).trans rfl, (blk_cell BK373.out 3).trans rfl⟩ (fun hHeld => ?_)
     clear hK K
     refine norm_ (a' := ?_) ?_ ?_
     rotate_left
     ·show Act.put _ (some 20) _ = _
      simp only [Act.put, List.setIfInBounds_toArray, List.set_cons_zero, List.set_cons_succ, i64_w, i32_w]
      rfl
     refine one_ (i := 3) (N := some 22) #[true, true, true, true, false, false] rfl rfl (by kernel_rfl) (by decide) (fun K hK => ?_)
     refine goes_ Try.func21 (by kernel_rfl) rfl #[.agg #[.int .i64 a1_0, .int .i64 a1_1, .string a1_2, .int .i64 a1_3]] (by rfl) rfl rfl (by (try simp only [List.map_toArray, List.map_cons, List.map_nil]); first | done | rfl | (simp only [List.length_drop, List.length_take]; rfl)) ?_
     with_reducible refine (laws_toValue.calls a1_0 a1_1 a1_2 a1_3 t380 t381 t382 t383 _ A20.out).mono ?_
     rintro e w38 ⟨rfl, hb⟩
     refine ⟨_, rfl, ?_⟩
     have n0_ := Aside0.mk (Kd.S_below (sI HO379.out) hb)
     have n1_ := sK BK372 hb
     have n2_ := sK BK373 hb
     have n3_ := sB HB hb
     clear HO379
     clear BK372
     clear BK373
     clear HB
     have HO379 := n0_
     have BK372 := n1_
     have BK373 := n2_
     have HB := n3_
     clear n0_ n1_ n2_ n3_
     (try clear hb)
     (try clear hb2)
     (try clear hk)
     (try clear hi)
     obtain ⟨Ao39, co39, eo39⟩ := Kd.S_slice HO379.out
     (first | subst eo39 | (injection eo39 with f1_ f2_ f3_; have f4_ := f1_.symm; have f5_ := f3_.symm; clear f1_ f2_ f3_; subst f4_; subst f5_))
     refine hK.out _ _ ⟨(blk_cell BK372.out 0).trans rfl, (blk_cell BK372.out 1).trans rfl, (blk_cell BK373.out 0).trans rfl, (blk_cell BK373.out 1).trans rfl, (blk_cell BK373.out 2).trans rfl, (blk_cell BK373.out 3).trans rfl⟩ (fun hHeld => ?_)
     clear hK K
     refine norm_ (a' := ?_) ?_ ?_
     rotate_left
     ·show Act.put _ (some 22) _ = _
      simp only [Act.put, List.setIfInBounds_toArray, List.set_cons_zero, List.set_cons_succ, i64_w, i32_w]
      rfl
     refine one_ (i := 4) (N := some 23) #[true, true, true, true, true, false] rfl rfl (by kernel_rfl) (by decide) (fun K hK => ?_)
     refine goes_ Try.func20 (by kernel_rfl) rfl #[.agg #[.int .i64 t376, .slice Ao39 t377.length co39], .agg #[.int .i64 t380, .int .i64 t381, .string t382, .int .i64 t383]] (by rfl) rfl rfl (by (try simp only [List.map_toArray, List.map_cons, List.map_nil]); first | done | rfl | (simp only [List.length_drop, List.length_take]; rfl)) ?_
     with_reducible refine (spec_FitsHeap.calls k t376 _ _ t377 t380 t381 t382 t383 t384 _ ?side1 ?side2 A21.out).mono ?_
     (case side1 => exact sD ((Kd.S_reads' HO379.out).2.2))
     (case side2 => exact (Kd.S_reads' HO379.out).2.1)
     rintro e w40 ⟨rfl, hb⟩
     refine ⟨_, rfl, ?_⟩
     have n0_ := Aside0.mk (Kd.S_below (sI HO379.out) hb)
     have n1_ := sK BK372 hb
     have n2_ := sK BK373 hb
     have n3_ := sB HB hb
     clear HO379
     clear BK372
     clear BK373
     clear HB
     have HO379 := n0_
     have BK372 := n1_
     have BK373 := n2_
     have HB := n3_
     clear n0_ n1_ n2_ n3_
     (try clear hb)
     (try clear hb2)
     (try clear hk)
     (try clear hi)
     refine hK.out _ _ ⟨(blk_cell BK372.out 0).trans rfl, (blk_cell BK372.out 1).trans rfl, (blk_cell BK373.out 0).trans rfl, (blk_cell BK373.out 1).trans rfl, (blk_cell BK373.out 2).trans rfl, (blk_cell BK373.out 3).trans rfl⟩ (fun hHeld => ?_)
     clear hK K
     refine norm_ (a' := ?_) ?_ ?_
     rotate_left
     ·show Act.put _ (some 23) _ = _
      simp only [Act.put, List.setIfInBounds_toArray, List.set_cons_zero, List.set_cons_succ, i64_w, i32_w]
      rfl
     refine pure_ (i := 5) (N := some 6) (v := ?_) (a' := ?_) #[true, true, true, true, true, true] rfl rfl (by kernel_rfl) (fun _ _ _ h => h) (Or.inl ⟨by rfl, ?_⟩) ?_ ?_
     rotate_left
     ·intro w'
      go_simp
      with_reducible rfl
     rotate_left
     ·simp only [Act.put, List.setIfInBounds_toArray, List.set_cons_zero, List.set_cons_succ, i64_w, i32_w]
      rfl
     refine done_ (by kernel_rfl) ?_
     obtain ⟨hcz41_0, hcz41_1, hfz41_0, hfz41_1⟩ := cells2 BK372.out
     try go_wp2_with (first | ((with_reducible refine gate_callee (f := 16) rfl ?_); refine sC (some 25) Try.func16 #[.agg #[.int .i64 a0_0, .slice A0_1 l0_1.length c0_1]] (laws_toHeap.calls k a0_0 _ _ l0_1 t385 t386 _ ?side1 ?side2 A22.out) ?_; (case side1 => exact sD (Kd.C_below HR0_1.out HB.out)); (case side2 => exact HC0_1.out); rintro e w42 ⟨v387, rfl, ho0, hb⟩; refine ⟨_, rfl, ?_⟩; have n0_ := Aside0.mk (Kd.S_elder' (sI HO379.out) (Kd.S_base ho0) hb); have n1_ := Aside0.mk (Kd.S_lower (Kd.S_new' ho0 (Kd.S_lt (sI HO379.out))) (below_size (by repeat (first | (with_reducible first | exact HB.out | apply below_alloc | apply pw_below_drewN | apply below_drew1 | refine below_set ?_ GE372.out | refine below_set ?_ GE373.out) | exact HB.out)))); have n2_ := sK BK372 hb; have n3_ := sK BK373 hb; have n4_ := sB HB hb; clear HO379; clear BK372; clear BK373; clear HB; have HO379 := n0_; have HO388 := n1_; have BK372 := n2_; have BK373 := n3_; have HB := n4_; clear n0_ n1_ n2_ n3_ n4_; (try clear hb); (try clear hb2); (try clear hk); (try clear hi); (try clear ho0)) | ((with_reducible refine gate_dst (N := 7) rfl ?_); refine sV (N := 7) (cs := #[.int .i64 0, .slice none 0 0]) (t := 43) ?_; intro gb389 hg w43 hbox hb; have n0_ := Aside0.mk (Kd.S_below (sI HO379.out) hb); have n1_ := Aside0.mk (Kd.S_below (sI HO388.out) hb); have n2_ := sK BK372 hb; have n3_ := sK BK373 hb; have n4_ := sB HB hb; have n5_ := Aside0.mk (hbox); have n6_ := sG HB hg; have n7_ := sG HB hg; have n8_ := sN BK372 hg; have n9_ := sM BK372 hg; have n10_ := sN BK373 hg; have n11_ := sM BK373 hg; clear HO379; clear HO388; clear BK372; clear BK373; clear HB; have HO379 := n0_; have HO388 := n1_; have BK372 := n2_; have BK373 := n3_; have HB := n4_; have BK389 := n5_; have GW389 := n6_; have GE389 := n7_; have NB372_389 := n8_; have NB389_372 := n9_; have NB373_389 := n10_; have NB389_373 := n11_; clear n0_ n1_ n2_ n3_ n4_ n5_ n6_ n7_ n8_ n9_ n10_ n11_; clear hb hbox hg; have hnb44 := NB389_372.out; have hnc44 := NB372_389.out; have hnb45 := NB389_373.out; have hnc45 := NB373_389.out; obtain ⟨hcz46_0, hcz46_1, hfz46_0, hfz46_1⟩ := cells2 BK389.out; obtain ⟨Ao47, co47, eo47⟩ := Kd.S_slice HO388.out; subst eo47))
     have n0_ : Aside0 (Kd.S k32 32 ((w43.setCell ⟨gb389, 0, none⟩ (.int .i64 t385)).setCell ⟨gb389, 1, none⟩ (.slice Ao47 t386.length co47)) w.heap.size (fun k_ => some k_ ≠ (.slice Ao47 t386.length co47 : Value).ownBlock) (.slice Ao39 t377.length co39) t377) := ⟨by (with_reducible repeat (first | apply Kd.S_alloc | apply Kd.S_drewN | apply Kd.S_drew)); exact Kd.S_mono (Kd.S_far (p := ⟨gb389, 1, none⟩) (Kd.S_far (p := ⟨gb389, 0, none⟩) (Kd.S_types HO379.out BK389.out (by decide)) (fun _ hk => hk.2) (.int .i64 t385)) (fun _ hk => hk.2) (.slice Ao47 t386.length co47)) (fun _ hk => hk.1.2)⟩
     have n1_ : Aside0 (Kd.S k32 32 ((w43.setCell ⟨gb389, 0, none⟩ (.int .i64 t385)).setCell ⟨gb389, 1, none⟩ (.slice Ao47 t386.length co47)) w.heap.size (fun k_ => some k_ ≠ (.slice Ao39 t377.length co39 : Value).ownBlock) (.slice Ao47 t386.length co47) t386) := ⟨by (with_reducible repeat (first | apply Kd.S_alloc | apply Kd.S_drewN | apply Kd.S_drew)); exact Kd.S_mono (Kd.S_far (p := ⟨gb389, 1, none⟩) (Kd.S_far (p := ⟨gb389, 0, none⟩) (Kd.S_types HO388.out BK389.out (by decide)) (fun _ hk => hk.2) (.int .i64 t385)) (fun _ hk => hk.2) (.slice Ao47 t386.length co47)) (fun _ hk => hk.1.2)⟩
     have n2_ : Aside0 (((w43.setCell ⟨gb389, 0, none⟩ (.int .i64 t385)).setCell ⟨gb389, 1, none⟩ (.slice Ao47 t386.length co47)).heap[gb372]? = some (.cells #[.int .i64 a0_0, .slice A0_1 l0_1.length c0_1] 38 (0, 0))) := ⟨by (with_reducible repeat (first | refine blk_drewN ?_ _ | refine blk_drew ?_ | refine blk_alloc ?_ _)); refine blk_far ?_ NB372_389.out _; (with_reducible repeat (first | refine blk_drewN ?_ _ | refine blk_drew ?_ | refine blk_alloc ?_ _)); refine blk_far ?_ NB372_389.out _; exact sT BK372.out⟩
     have n3_ : Aside0 (((w43.setCell ⟨gb389, 0, none⟩ (.int .i64 t385)).setCell ⟨gb389, 1, none⟩ (.slice Ao47 t386.length co47)).heap[gb373]? = some (.cells #[.int .i64 a1_0, .int .i64 a1_1, .string a1_2, .int .i64 a1_3] 24 (0, 0))) := ⟨by (with_reducible repeat (first | refine blk_drewN ?_ _ | refine blk_drew ?_ | refine blk_alloc ?_ _)); refine blk_far ?_ NB373_389.out _; (with_reducible repeat (first | refine blk_drewN ?_ _ | refine blk_drew ?_ | refine blk_alloc ?_ _)); refine blk_far ?_ NB373_389.out _; exact sT BK373.out⟩
     have n4_ : Aside0 (((w43.setCell ⟨gb389, 0, none⟩ (.int .i64 t385)).setCell ⟨gb389, 1, none⟩ (.slice Ao47 t386.length co47)).heap[gb389]? = some (.cells #[.int .i64 t385, .slice Ao47 t386.length co47] 43 (0, 0))) := ⟨sP2 (sT BK389.out)⟩
     have n5_ : Aside0 (Below w.heap.size w ((w43.setCell ⟨gb389, 0, none⟩ (.int .i64 t385)).setCell ⟨gb389, 1, none⟩ (.slice Ao47 t386.length co47))) := ⟨sb⟩
     (try clear HO379)
     (try clear HO388)
     (try clear BK372)
     (try clear BK373)
     (try clear BK389)
     (try clear HB)
     generalize ((w43.setCell ⟨gb389, 0, none⟩ (.int .i64 t385)).setCell ⟨gb389, 1, none⟩ (.slice Ao47 t386.length co47)) = w48 at n0_ n1_ n2_ n3_ n4_ n5_ ⊢
     have HO379 := n0_
     have HO388 := n1_
     have BK372 := n2_
     have BK373 := n3_
     have BK389 := n4_
     have HB := n5_
     clear n0_ n1_ n2_ n3_ n4_ n5_
     have n0_ := Aside0.mk (Kd.S_drew HO379.out)
     have n1_ := Aside0.mk (Kd.S_drew HO388.out)
     have n2_ := Aside0.mk (blk_drew BK372.out)
     have n3_ := Aside0.mk (blk_drew BK373.out)
     have n4_ := Aside0.mk (blk_drew BK389.out)
     have n5_ := Aside0.mk (below_drew1 HB.out)
     clear HO379
     clear HO388
     clear BK372
     clear BK373
     clear BK389
     clear HB
     have HO379 := n0_
     have HO388 := n1_
     have BK372 := n2_
     have BK373 := n3_
     have BK389 := n4_
     have HB := n5_
     clear n0_ n1_ n2_ n3_ n4_ n5_
     refine start_ (n := 5) (S := fun w' => w'.cell? ⟨gb389, 0, none⟩ = some (.int .i64 t385) ∧ w'.cell? ⟨gb389, 1, none⟩ = some (.slice Ao47 t386.length co47) ∧ w'.cell? ⟨gb373, 0, none⟩ = some (.int .i64 a1_0) ∧ w'.cell? ⟨gb373, 1, none⟩ = some (.int .i64 a1_1) ∧ w'.cell? ⟨gb373, 2, none⟩ = some (.string a1_2) ∧ w'.cell? ⟨gb373, 3, none⟩ = some (.int .i64 a1_3)) (ds := []) #[false, false, false, false, false] (by kernel_rfl) rfl rfl ⟨(blk_cell BK389.out 0).trans rfl, (blk_cell BK389.out 1).trans rfl, (blk_cell BK373.out 0).trans rfl, (blk_cell BK373.out 1).trans rfl, (blk_cell BK373.out 2).trans rfl, (blk_cell BK373.out 3).trans rfl⟩ (fun hHeld => ?_)
     generalize w48.drew = w49 at HO379 HO388 BK372 BK373 BK389 HB hHeld ⊢
     refine take_ (i := 0) (N := some 26) (v := ?_) (a' := ?_) #[true, false, false, false, false] rfl rfl (by kernel_rfl) (fun _ _ _ h => h) (Or.inl ⟨by rfl, ?_⟩) hHeld ?_ ?_
     rotate_left
     ·rintro w' ⟨s0, s1, s2, s3, s4, s5⟩
      go_simp
      with_reducible rfl
     rotate_left
     ·simp only [Act.put, List.setIfInBounds_toArray, List.set_cons_zero, List.set_cons_succ, i64_w, i32_w]
      rfl
     refine take_ (i := 1) (N := some 27) (v := ?_) (a' := ?_) #[true, true, false, false, false] rfl rfl (by kernel_rfl) (fun _ _ _ h => h) (Or.inl ⟨by rfl, ?_⟩) hHeld ?_ ?_
     rotate_left
     ·rintro w' ⟨s0, s1, s2, s3, s4, s5⟩
      go_simp
      with_reducible rfl
     rotate_left
     ·simp only [Act.put, List.setIfInBounds_toArray, List.set_cons_zero, List.set_cons_succ, i64_w, i32_w]
      rfl
     refine one_ (i := 2) (N := some 28) #[true, true, true, false, false] rfl rfl (by kernel_rfl) (by decide) (fun K hK => ?_)
     refine goes_ Try.func21 (by kernel_rfl) rfl #[.agg #[.int .i64 a1_0, .int .i64 a1_1, .string a1_2, .int .i64 a1_3]] (by rfl) rfl rfl (by (try simp only [List.map_toArray, List.map_cons, List.map_nil]); first | done | rfl | (simp only [List.length_drop, List.length_take]; rfl)) ?_
     with_reducible refine (laws_toValue.calls a1_0 a1_1 a1_2 a1_3 t390 t391 t392 t393 _ A23.out).mono ?_
     rintro e w50 ⟨rfl, hb⟩
     refine ⟨_, rfl, ?_⟩
     have n0_ := Aside0.mk (Kd.S_below (sI HO379.out) hb)
     have n1_ := Aside0.mk (Kd.S_below (sI HO388.out) hb)
     have n2_ := sK BK372 hb
     have n3_ := sK BK373 hb
     have n4_ := sK BK389 hb
     have n5_ := sB HB hb
     clear HO379
     clear HO388
     clear BK372
     clear BK373
     clear BK389
     clear HB
     have HO379 := n0_
     have HO388 := n1_
     have BK372 := n2_
     have BK373 := n3_
     have BK389 := n4_
     have HB := n5_
     clear n0_ n1_ n2_ n3_ n4_ n5_
     (try clear hb)
     (try clear hb2)
     (try clear hk)
     (try clear hi)
     refine hK.out _ _ ⟨(blk_cell BK389.out 0).trans rfl, (blk_cell BK389.out 1).trans rfl, (blk_cell BK373.out 0).trans rfl, (blk_cell BK373.out 1).trans rfl, (blk_cell BK373.out 2).trans rfl, (blk_cell BK373.out 3).trans rfl⟩ (fun hHeld => ?_)
     clear hK K
     refine norm_ (a' := ?_) ?_ ?_
     rotate_left
     ·show Act.put _ (some 28) _ = _
      simp only [Act.put, List.setIfInBounds_toArray, List.set_cons_zero, List.set_cons_succ, i64_w, i32_w]
      rfl
     refine one_ (i := 3) (N := some 29) #[true, true, true, true, false] rfl rfl (by kernel_rfl) (by decide) (fun K hK => ?_)
     refine goes_ Try.func22 (by kernel_rfl) rfl #[.agg #[.int .i64 t385, .slice Ao47 t386.length co47], .agg #[.int .i64 t390, .int .i64 t391, .string t392, .int .i64 t393]] (by rfl) rfl rfl (by (try simp only [List.map_toArray, List.map_cons, List.map_nil]); first | done | rfl | (simp only [List.length_drop, List.length_take]; rfl)) ?_
     with_reducible refine (impl_FitsHeap.calls k t385 _ _ t386 t390 t391 t392 t393 t394 _ ?side1 ?side2 A24.out).mono ?_
     (case side1 => exact sD ((Kd.S_reads' HO388.out).2.2))
     (case side2 => exact (Kd.S_reads' HO388.out).2.1)
     rintro e w51 ⟨rfl, hb⟩
     refine ⟨_, rfl, ?_⟩
     have n0_ := Aside0.mk (Kd.S_below (sI HO379.out) hb)
     have n1_ := Aside0.mk (Kd.S_below (sI HO388.out) hb)
     have n2_ := sK BK372 hb
     have n3_ := sK BK373 hb
     have n4_ := sK BK389 hb
     have n5_ := sB HB hb
     clear HO379
     clear HO388
     clear BK372
     clear BK373
     clear BK389
     clear HB
     have HO379 := n0_
     have HO388 := n1_
     have BK372 := n2_
     have BK373 := n3_
     have BK389 := n4_
     have HB := n5_
     clear n0_ n1_ n2_ n3_ n4_ n5_
     (try clear hb)
     (try clear hb2)
     (try clear hk)
     (try clear hi)
     refine hK.out _ _ ⟨(blk_cell BK389.out 0).trans rfl, (blk_cell BK389.out 1).trans rfl, (blk_cell BK373.out 0).trans rfl, (blk_cell BK373.out 1).trans rfl, (blk_cell BK373.out 2).trans rfl, (blk_cell BK373.out 3).trans rfl⟩ (fun hHeld => ?_)
     clear hK K
     refine norm_ (a' := ?_) ?_ ?_
     rotate_left
     ·show Act.put _ (some 29) _ = _
      simp only [Act.put, List.setIfInBounds_toArray, List.set_cons_zero, List.set_cons_succ, i64_w, i32_w]
      rfl
     refine pure_ (i := 4) (N := some 8) (v := ?_) (a' := ?_) #[true, true, true, true, true] rfl rfl (by kernel_rfl) (fun _ _ _ h => h) (Or.inl ⟨by rfl, ?_⟩) ?_ ?_
     rotate_left
     ·intro w'
      go_simp
      with_reducible rfl
     rotate_left
     ·simp only [Act.put, List.setIfInBounds_toArray, List.set_cons_zero, List.set_cons_succ, i64_w, i32_w]
      rfl
     refine done_ (by kernel_rfl) ?_
     try go_wp2
     have n0_ := Aside0.mk (Kd.S_drew HO379.out)
     have n1_ := Aside0.mk (Kd.S_drew HO388.out)
     have n2_ := Aside0.mk (blk_drew BK372.out)
     have n3_ := Aside0.mk (blk_drew BK373.out)
     have n4_ := Aside0.mk (blk_drew BK389.out)
     have n5_ := Aside0.mk (below_drew1 HB.out)
     clear HO379
     clear HO388
     clear BK372
     clear BK373
     clear BK389
     clear HB
     have HO379 := n0_
     have HO388 := n1_
     have BK372 := n2_
     have BK373 := n3_
     have BK389 := n4_
     have HB := n5_
     clear n0_ n1_ n2_ n3_ n4_ n5_
     refine start_ (n := 5) (S := fun w' => w'.cell? ⟨gb389, 0, none⟩ = some (.int .i64 t385) ∧ w'.cell? ⟨gb389, 1, none⟩ = some (.slice Ao47 t386.length co47) ∧ w'.cell? ⟨gb372, 0, none⟩ = some (.int .i64 a0_0) ∧ w'.cell? ⟨gb372, 1, none⟩ = some (.slice A0_1 l0_1.length c0_1)) (ds := []) #[false, false, false, false, false] (by kernel_rfl) rfl rfl ⟨(blk_cell BK389.out 0).trans rfl, (blk_cell BK389.out 1).trans rfl, (blk_cell BK372.out 0).trans rfl, (blk_cell BK372.out 1).trans rfl⟩ (fun hHeld => ?_)
     generalize w51.drew = w52 at HO379 HO388 BK372 BK373 BK389 HB hHeld ⊢
     refine take_ (i := 0) (N := some 33) (v := ?_) (a' := ?_) #[true, false, false, false, false] rfl rfl (by kernel_rfl) (fun _ _ _ h => h) (Or.inl ⟨by rfl, ?_⟩) hHeld ?_ ?_
     rotate_left
     ·rintro w' ⟨s0, s1, s2, s3⟩
      go_simp
      with_reducible rfl
     rotate_left
     ·simp only [Act.put, List.setIfInBounds_toArray, List.set_cons_zero, List.set_cons_succ, i64_w, i32_w]
      rfl
     refine take_ (i := 1) (N := some 34) (v := ?_) (a' := ?_) #[true, true, false, false, false] rfl rfl (by kernel_rfl) (fun _ _ _ h => h) (Or.inl ⟨by rfl, ?_⟩) hHeld ?_ ?_
     rotate_left
     ·rintro w' ⟨s0, s1, s2, s3⟩
      go_simp
      with_reducible rfl
     rotate_left
     ·simp only [Act.put, List.setIfInBounds_toArray, List.set_cons_zero, List.set_cons_succ, i64_w, i32_w]
      rfl
     refine one_ (i := 2) (N := some 35) #[true, true, true, false, false] rfl rfl (by kernel_rfl) (by decide) (fun K hK => ?_)
     refine goes_ Try.func16 (by kernel_rfl) rfl #[.agg #[.int .i64 a0_0, .slice A0_1 l0_1.length c0_1]] (by rfl) rfl rfl (by (try simp only [List.map_toArray, List.map_cons, List.map_nil]); first | done | rfl | (simp only [List.length_drop, List.length_take]; rfl)) ?_
     with_reducible refine (laws_toHeap.calls k a0_0 _ _ l0_1 t395 t396 _ ?side1 ?side2 A26.out).mono ?_
     (case side1 => exact sD (Kd.C_below HR0_1.out HB.out))
     (case side2 => exact HC0_1.out)
     rintro e w53 ⟨v397, rfl, ho0, hb⟩
     refine ⟨_, rfl, ?_⟩
     have n0_ := Aside0.mk (Kd.S_elder' (sI HO379.out) (Kd.S_base ho0) hb)
     have n1_ := Aside0.mk (Kd.S_elder' (sI HO388.out) (Kd.S_base ho0) hb)
     have n2_ := Aside0.mk (Kd.S_lower (Kd.S_new' (Kd.S_new' ho0 (Kd.S_lt (sI HO379.out))) (Kd.S_lt (sI HO388.out))) (below_size (by repeat (first | (with_reducible first | exact HB.out | apply below_alloc | apply pw_below_drewN | apply below_drew1 | refine below_set ?_ GE372.out | refine below_set ?_ GE373.out | refine below_set ?_ GE389.out) | exact HB.out))))
     have n3_ := sK BK372 hb
     have n4_ := sK BK373 hb
     have n5_ := sK BK389 hb
     have n6_ := sB HB hb
     clear HO379
     clear HO388
     clear BK372
     clear BK373
     clear BK389
     clear HB
     have HO379 := n0_
     have HO388 := n1_
     have HO398 := n2_
     have BK372 := n3_
     have BK373 := n4_
     have BK389 := n5_
     have HB := n6_
     clear n0_ n1_ n2_ n3_ n4_ n5_ n6_
     (try clear hb)
     (try clear hb2)
     (try clear hk)
     (try clear hi)
     (try clear ho0)
     obtain ⟨Ao54, co54, eo54⟩ := Kd.S_slice HO398.out
     (first | subst eo54 | (injection eo54 with f1_ f2_ f3_; have f4_ := f1_.symm; have f5_ := f3_.symm; clear f1_ f2_ f3_; subst f4_; subst f5_))
     refine hK.out _ _ ⟨(blk_cell BK389.out 0).trans rfl, (blk_cell BK389.out 1).trans rfl, (blk_cell BK372.out 0).trans rfl, (blk_cell BK372.out 1).trans rfl⟩ (fun hHeld => ?_)
     clear hK K
     refine norm_ (a' := ?_) ?_ ?_
     rotate_left
     ·show Act.put _ (some 35) _ = _
      simp only [Act.put, List.setIfInBounds_toArray, List.set_cons_zero, List.set_cons_succ, i64_w, i32_w]
      rfl
     refine one_ (i := 3) (N := some 36) #[true, true, true, true, false] rfl rfl (by kernel_rfl) (by decide) (fun K hK => ?_)
     refine goes_ Try.func18 (by kernel_rfl) rfl #[.agg #[.int .i64 t385, .slice Ao47 t386.length co47], .agg #[.int .i64 t395, .slice Ao54 t396.length co54]] (by rfl) rfl rfl (by (try simp only [List.map_toArray, List.map_cons, List.map_nil]); first | done | rfl | (simp only [List.length_drop, List.length_take]; rfl)) ?_
     with_reducible refine (laws_eqHeap.calls k t385 _ _ t386 t395 _ _ t396 true _ ?side1 ?side2 ?side3 ?side4 A27.out).mono ?_
     (case side1 => exact sD ((Kd.S_reads' HO388.out).2.2))
     (case side2 => exact (Kd.S_reads' HO388.out).2.1)
     (case side3 => exact sD ((Kd.S_reads' HO398.out).2.2))
     (case side4 => exact (Kd.S_reads' HO398.out).2.1)
     rintro e w55 ⟨rfl, hb⟩
     refine ⟨_, rfl, ?_⟩
     have n0_ := Aside0.mk (Kd.S_below (sI HO379.out) hb)
     have n1_ := Aside0.mk (Kd.S_below (sI HO388.out) hb)
     have n2_ := Aside0.mk (Kd.S_below (sI HO398.out) hb)
     have n3_ := sK BK372 hb
     have n4_ := sK BK373 hb
     have n5_ := sK BK389 hb
     have n6_ := sB HB hb
     clear HO379
     clear HO388
     clear HO398
     clear BK372
     clear BK373
     clear BK389
     clear HB
     have HO379 := n0_
     have HO388 := n1_
     have HO398 := n2_
     have BK372 := n3_
     have BK373 := n4_
     have BK389 := n5_
     have HB := n6_
     clear n0_ n1_ n2_ n3_ n4_ n5_ n6_
     (try clear hb)
     (try clear hb2)
     (try clear hk)
     (try clear hi)
     refine hK.out _ _ ⟨(blk_cell BK389.out 0).trans rfl, (blk_cell BK389.out 1).trans rfl, (blk_cell BK372.out 0).trans rfl, (blk_cell BK372.out 1).trans rfl⟩ (fun hHeld => ?_)
     clear hK K
     refine norm_ (a' := ?_) ?_ ?_
     rotate_left
     ·show Act.put _ (some 36) _ = _
      simp only [Act.put, List.setIfInBounds_toArray, List.set_cons_zero, List.set_cons_succ, i64_w, i32_w]
      rfl
     refine pure_ (i := 4) (N := some 37) (v := ?_) (a' := ?_) #[true, true, true, true, true] rfl rfl (by kernel_rfl) (fun _ _ _ h => h) (Or.inl ⟨by rfl, ?_⟩) ?_ ?_
     rotate_left
     ·intro w'
      go_simp
      with_reducible rfl
     rotate_left
     ·simp only [Act.put, List.setIfInBounds_toArray, List.set_cons_zero, List.set_cons_succ, i64_w, i32_w]
      rfl
     refine done_ (by kernel_rfl) ?_
     try go_wp2
     go_ret
     exact ⟨sq, sb⟩
    ·replace c28 := Bool.eq_false_iff.mpr c28
     subst c28
     rewrite [if_neg (show ¬ (false = true) by decide)] at H
     exact absurd H (by simp)
end Go.Proofs.Ytamegncijkfbhaa.PFnExactFitsHeap
