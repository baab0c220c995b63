/- Printed functions: laws_FnExactGetField. -/
import Derived.Test.YtnjkhdhaiicefaaYGfP0
import Derived.Test.YtnjkhdhaiicefaaYGfP1
import Derived.Test.YtnjkhdhaiicefaaYGfP2
import Derived.Test.YtnjkhdhaiicefaaYGfP3
import Derived.Test.YtnjkhdhaiicefaaYGfP14
import Derived.Test.YtnjkhdhaiicefaaYGfP26
import Derived.Test.YtnjkhdhaiicefaaYGfP27
import Derived.Test.YtnjkhdhaiicefaaYGfP29
namespace Go.Proofs.Ytnjkhdhaiicefaa.PFnExactGetField
open Go.RowKit Go.Proofs.YtnjkhdhaiicefaaG Go.Proofs.YtnjkhdhaiicefaaW.PrintWords Go.Proofs.YtnjkhdhaiicefaaW.PrintLast Go.Proofs.YtnjkhdhaiicefaaW.PrintMore
attribute [local go_sem] max2_int min2_int max_two min_two max_three min_three max_four min_four   -- for this text's walks alone
set_option linter.unusedVariables false
set_option linter.unusedSimpArgs false
/-! ### laws_FnExactGetField: function 3 -/
def laws_FnExactGetField.j0 : Nat → Bool → Int → List (S51) → Int → List (S56) → Option (Bool)
 | 0, _, _, _, _, _ => none
 | k + 1, x53, x415000, x415001, x437000, x437001 => if x53 = true then (some false) else ((laws_toHeap.f k x415000 x415001).bind fun bt448 => ((laws_eqHeap.f k x437000 x437001 bt448.1 bt448.2).bind fun t452 => (if t452 = true then (some true) else (some false))))
def laws_FnExactGetField.f (k : Nat) (a0_0 : Int) (l0_1 : List (S51)) (a1_0 : Int) (a1_1 : Int) (a1_2 : ByteArray) (a1_3 : Int) (a2 : ByteArray) : Option (Bool) := if (a2.size : Int) > 1048576 then (some true) else ((laws_szHeap.f k a0_0 l0_1 1048576).bind fun t416 => (if t416 < 0 then (some true) else ((laws_szValue.f a1_0 a1_1 a1_2 a1_3 t416).bind fun t417 => (if t417 < 0 then (some true) else ((laws_toHeap.f k a0_0 l0_1).bind fun bt418 => ((laws_toValue.f a1_0 a1_1 a1_2 a1_3).bind fun bt422 => ((spec_GetField.f k bt418.1 bt418.2 bt422.1 bt422.2.1 bt422.2.2.1 bt422.2.2.2 a2).bind fun bt426 => ((laws_toHeap.f k a0_0 l0_1).bind fun bt432 => ((laws_toValue.f a1_0 a1_1 a1_2 a1_3).bind fun bt437 => ((impl_GetField.f k bt432.1 bt432.2 bt437.1 bt437.2.1 bt437.2.2.1 bt437.2.2.2 a2).bind fun bt441 => ((laws_eqValue.f bt441.1 bt441.2.1 bt441.2.2.1 bt441.2.2.2.1 bt426.1 bt426.2.1 bt426.2.2.1 bt426.2.2.2.1).bind fun t447 => (if t447 = true then (laws_FnExactGetField.j0 k (bt441.2.2.2.2 != bt426.2.2.2.2) a0_0 l0_1 bt432.1 bt432.2) else (laws_FnExactGetField.j0 k true a0_0 l0_1 bt432.1 bt432.2)))))))))))))
def laws_FnExactGetField.T10 : Bool × List (List Nat × List Nat) := (true, [([], []), ([0], [0]), ([], []), ([2, 1], [2]), ([], []), ([1, 3, 4, 3], [1, 3, 4]), ([5], [5]), ([6], [6]), ([6], [6]), ([], []), ([9, 7, 5, 0, 1, 2, 3, 4, 5, 6, 7, 9], [7, 9]), ([8, 10, 0, 1, 2, 3, 4, 5, 6, 7, 8, 9, 10], [8])])
def laws_FnExactGetField.B10 : List Nat := [0, 1, 0, 7, 0, 31, 63, 127, 127, 0, 767, 2047]
theorem laws_FnExactGetField.tab10 : rtab .any (opsOf Try.f3 10) = laws_FnExactGetField.T10 := by kernel_rfl
theorem laws_FnExactGetField.bits10 : waitsOk laws_FnExactGetField.T10.2 laws_FnExactGetField.B10 = true := by kernel_rfl
def laws_FnExactGetField.T12 : Bool × List (List Nat × List Nat) := (true, [([], []), ([], []), ([1], [1]), ([], []), ([0, 2, 3, 2], [0, 2, 3]), ([4], [4]), ([5], [5]), ([5], [5]), ([], []), ([8, 6, 4, 0, 1, 2, 3, 4, 5, 6, 8], [6, 8]), ([7, 9, 0, 1, 2, 3, 4, 5, 6, 7, 8, 9], [7])])
def laws_FnExactGetField.B12 : List Nat := [0, 0, 2, 0, 15, 31, 63, 63, 0, 383, 1023]
theorem laws_FnExactGetField.tab12 : rtab .any (opsOf Try.f3 12) = laws_FnExactGetField.T12 := by kernel_rfl
theorem laws_FnExactGetField.bits12 : waitsOk laws_FnExactGetField.T12.2 laws_FnExactGetField.B12 = true := by kernel_rfl
set_option maxHeartbeats 8000000 in
set_option maxRecDepth 100000 in
theorem laws_FnExactGetField.calls (k : Nat) (a0_0 : Int) (A0_1 : Option Addr) (c0_1 : Nat) (l0_1 : List (S51)) (a1_0 : Int) (a1_1 : Int) (a1_2 : ByteArray) (a1_3 : Int) (a2 : ByteArray) (w : World) (hr0_1 : Kd.C k51 w A0_1 l0_1.length l0_1) (hc0_1 : l0_1.length ≤ c0_1) (h : laws_FnExactGetField.f k a0_0 l0_1 a1_0 a1_1 a1_2 a1_3 a2 = some true) :
  Calls Try.prog 3 #[.agg #[.int .i64 a0_0, .slice A0_1 l0_1.length c0_1], .agg #[.int .i64 a1_0, .int .i64 a1_1, .string a1_2, .int .i64 a1_3], .string a2] w fun e w' => e = .returned (.bool true) ∧ Below w.heap.size w w' := by
 have hu24 := Try.underlying24
 have hu26 := Try.underlying26
 have hu29 := Try.underlying29
 have hu34 := Try.underlying34
 have HR0_1 := Aside0.mk hr0_1
 have HC0_1 := Aside0.mk hc0_1
 clear hr0_1 hc0_1
 have HB := Aside0.mk (Below.refl w.heap.size w)
 have H : (if (a2.size : Int) > 1048576 then (some true) else ((laws_szHeap.f k a0_0 l0_1 1048576).bind fun t416 => (if t416 < 0 then (some true) else ((laws_szValue.f a1_0 a1_1 a1_2 a1_3 t416).bind fun t417 => (if t417 < 0 then (some true) else ((laws_toHeap.f k a0_0 l0_1).bind fun bt418 => ((laws_toValue.f a1_0 a1_1 a1_2 a1_3).bind fun bt422 => ((spec_GetField.f k bt418.1 bt418.2 bt422.1 bt422.2.1 bt422.2.2.1 bt422.2.2.2 a2).bind fun bt426 => ((laws_toHeap.f k a0_0 l0_1).bind fun bt432 => ((laws_toValue.f a1_0 a1_1 a1_2 a1_3).bind fun bt437 => ((impl_GetField.f k bt432.1 bt432.2 bt437.1 bt437.2.1 bt437.2.2.1 bt437.2.2.2 a2).bind fun bt441 => ((laws_eqValue.f bt441.1 bt441.2.1 bt441.2.2.1 bt441.2.2.2.1 bt426.1 bt426.2.1 bt426.2.2.1 bt426.2.2.2.1).bind fun t447 => (if t447 = true then (laws_FnExactGetField.j0 k (bt441.2.2.2.2 != bt426.2.2.2.2) a0_0 l0_1 bt432.1 bt432.2) else (laws_FnExactGetField.j0 k true a0_0 l0_1 bt432.1 bt432.2)))))))))))))) = some true := h
 clear h
 by_cases c4 : (a2.size : Int) > 1048576
 ·rw [if_pos c4] at H
  have c4b0 : decide (1048576 < (a2.size : Int)) = true := decide_eq_true c4
  have c4b1 : decide (1048576 < a2.size) = true := decide_eq_true (by omega)
  clear c4
  clear H
  go_enter Try.func3, Try.ntmps3
  go_wp2_with (first | ((with_reducible refine gate_dst (N := 3) rfl ?_); refine sV (N := 3) (cs := #[.int .i64 a0_0, .slice A0_1 l0_1.length c0_1]) (t := 24) ?_; intro gb414 hg w5 hbox hb; have n0_ := sB HB hb; have n1_ := Aside0.mk (hbox); have n2_ := sG HB hg; have n3_ := sG HB hg; clear HB; have HB := n0_; have BK414 := n1_; have GW414 := n2_; have GE414 := n3_; clear n0_ n1_ n2_ n3_; clear hb hbox hg) | ((with_reducible refine gate_dst (N := 4) rfl ?_); refine sV (N := 4) (cs := #[.int .i64 a1_0, .int .i64 a1_1, .string a1_2, .int .i64 a1_3]) (t := 26) ?_; intro gb415 hg w6 hbox hb; have n0_ := sK BK414 hb; have n1_ := sB HB hb; have n2_ := Aside0.mk (hbox); have n3_ := sG HB hg; have n4_ := sG HB hg; have n5_ := sN BK414 hg; have n6_ := sM BK414 hg; clear BK414; clear HB; have BK414 := n0_; have HB := n1_; have BK415 := n2_; have GW415 := n3_; have GE415 := n4_; have NB414_415 := n5_; have NB415_414 := n6_; clear n0_ n1_ n2_ n3_ n4_ n5_ n6_; clear hb hbox hg))
  go_ret
  exact ⟨sq, sb⟩
 rw [if_neg c4] at H
 have c4b0 : decide (1048576 < (a2.size : Int)) = false := decide_eq_false c4
 have c4b1 : decide (1048576 < a2.size) = false := decide_eq_false (by omega)
 clear c4
 obtain ⟨t416, A7, H⟩ := sO H
 by_cases c8 : t416 < 0
 ·rw [if_pos c8] at H
  have c8b0 := decide_eq_true c8
  clear c8
  clear H
  go_enter Try.func3, Try.ntmps3
  go_wp2_with (first | ((with_reducible refine gate_dst (N := 3) rfl ?_); refine sV (N := 3) (cs := #[.int .i64 a0_0, .slice A0_1 l0_1.length c0_1]) (t := 24) ?_; intro gb414 hg w9 hbox hb; have n0_ := sB HB hb; have n1_ := Aside0.mk (hbox); have n2_ := sG HB hg; have n3_ := sG HB hg; clear HB; have HB := n0_; have BK414 := n1_; have GW414 := n2_; have GE414 := n3_; clear n0_ n1_ n2_ n3_; clear hb hbox hg) | ((with_reducible refine gate_dst (N := 4) rfl ?_); refine sV (N := 4) (cs := #[.int .i64 a1_0, .int .i64 a1_1, .string a1_2, .int .i64 a1_3]) (t := 26) ?_; intro gb415 hg w10 hbox hb; have n0_ := sK BK414 hb; have n1_ := sB HB hb; have n2_ := Aside0.mk (hbox); have n3_ := sG HB hg; have n4_ := sG HB hg; have n5_ := sN BK414 hg; have n6_ := sM BK414 hg; clear BK414; clear HB; have BK414 := n0_; have HB := n1_; have BK415 := n2_; have GW415 := n3_; have GE415 := n4_; have NB414_415 := n5_; have NB415_414 := n6_; clear n0_ n1_ n2_ n3_ n4_ n5_ n6_; clear hb hbox hg; have hnb11 := NB414_415.out; have hnc11 := NB415_414.out; obtain ⟨hcz12_0, hcz12_1, hfz12_0, hfz12_1⟩ := cells2 BK414.out) | ((with_reducible refine gate_callee (f := 14) rfl ?_); refine sC (some 18) Try.func14 #[.agg #[.int .i64 a0_0, .slice A0_1 l0_1.length c0_1], .int .i64 1048576] (laws_szHeap.calls k a0_0 _ _ l0_1 1048576 t416 _ ?side1 ?side2 A7.out) ?_; (case side1 => exact sD (Kd.C_below HR0_1.out HB.out)); (case side2 => exact HC0_1.out); rintro e w13 ⟨rfl, hb⟩; refine ⟨_, rfl, ?_⟩; have n0_ := sK BK414 hb; have n1_ := sK BK415 hb; have n2_ := sB HB hb; clear BK414; clear BK415; clear HB; have BK414 := n0_; have BK415 := n1_; have HB := n2_; clear n0_ n1_ n2_; (try clear hb); (try clear hb2); (try clear hk); (try clear hi)))
  go_ret
  exact ⟨sq, sb⟩
 rw [if_neg c8] at H
 have c8b0 := decide_eq_false c8
 clear c8
 obtain ⟨t417, A14, H⟩ := sO H
 by_cases c15 : t417 < 0
 ·rw [if_pos c15] at H
  have c15b0 := decide_eq_true c15
  clear c15
  clear H
  go_enter Try.func3, Try.ntmps3
  go_wp2_with (first | ((with_reducible refine gate_dst (N := 3) rfl ?_); refine sV (N := 3) (cs := #[.int .i64 a0_0, .slice A0_1 l0_1.length c0_1]) (t := 24) ?_; intro gb414 hg w16 hbox hb; have n0_ := sB HB hb; have n1_ := Aside0.mk (hbox); have n2_ := sG HB hg; have n3_ := sG HB hg; clear HB; have HB := n0_; have BK414 := n1_; have GW414 := n2_; have GE414 := n3_; clear n0_ n1_ n2_ n3_; clear hb hbox hg) | ((with_reducible refine gate_dst (N := 4) rfl ?_); refine sV (N := 4) (cs := #[.int .i64 a1_0, .int .i64 a1_1, .string a1_2, .int .i64 a1_3]) (t := 26) ?_; intro gb415 hg w17 hbox hb; have n0_ := sK BK414 hb; have n1_ := sB HB hb; have n2_ := Aside0.mk (hbox); have n3_ := sG HB hg; have n4_ := sG HB hg; have n5_ := sN BK414 hg; have n6_ := sM BK414 hg; clear BK414; clear HB; have BK414 := n0_; have HB := n1_; have BK415 := n2_; have GW415 := n3_; have GE415 := n4_; have NB414_415 := n5_; have NB415_414 := n6_; clear n0_ n1_ n2_ n3_ n4_ n5_ n6_; clear hb hbox hg; have hnb18 := NB414_415.out; have hnc18 := NB415_414.out; obtain ⟨hcz19_0, hcz19_1, hfz19_0, hfz19_1⟩ := cells2 BK414.out) | ((with_reducible refine gate_callee (f := 14) rfl ?_); refine sC (some 18) Try.func14 #[.agg #[.int .i64 a0_0, .slice A0_1 l0_1.length c0_1], .int .i64 1048576] (laws_szHeap.calls k a0_0 _ _ l0_1 1048576 t416 _ ?side1 ?side2 A7.out) ?_; (case side1 => exact sD (Kd.C_below HR0_1.out HB.out)); (case side2 => exact HC0_1.out); rintro e w20 ⟨rfl, hb⟩; refine ⟨_, rfl, ?_⟩; have n0_ := sK BK414 hb; have n1_ := sK BK415 hb; have n2_ := sB HB hb; clear BK414; clear BK415; clear HB; have BK414 := n0_; have BK415 := n1_; have HB := n2_; clear n0_ n1_ n2_; (try clear hb); (try clear hb2); (try clear hk); (try clear hi); obtain ⟨hcz21_0, hcz21_1, hcz21_2, hcz21_3, hfz21_0, hfz21_1, hfz21_2, hfz21_3⟩ := cells4 BK415.out) | ((with_reducible refine gate_callee (f := 15) rfl ?_); refine sC (some 23) Try.func15 #[.agg #[.int .i64 a1_0, .int .i64 a1_1, .string a1_2, .int .i64 a1_3], .int .i64 t416] (laws_szValue.calls a1_0 a1_1 a1_2 a1_3 t416 t417 _ A14.out) ?_; rintro e w22 ⟨rfl, hb⟩; refine ⟨_, rfl, ?_⟩; have n0_ := sK BK414 hb; have n1_ := sK BK415 hb; have n2_ := sB HB hb; clear BK414; clear BK415; clear HB; have BK414 := n0_; have BK415 := n1_; have HB := n2_; clear n0_ n1_ n2_; (try clear hb); (try clear hb2); (try clear hk); (try clear hi)))
  go_ret
  exact ⟨sq, sb⟩
 rw [if_neg c15] at H
 have c15b0 := decide_eq_false c15
 clear c15
 replace H := Option.bind_eq_some_iff.mp H
 obtain ⟨⟨t418, t419⟩, A230, H⟩ := H
 replace H : ((laws_toValue.f a1_0 a1_1 a1_2 a1_3).bind fun bt422 => ((spec_GetField.f k t418 t419 bt422.1 bt422.2.1 bt422.2.2.1 bt422.2.2.2 a2).bind fun bt426 => ((laws_toHeap.f k a0_0 l0_1).bind fun bt432 => ((laws_toValue.f a1_0 a1_1 a1_2 a1_3).bind fun bt437 => ((impl_GetField.f k bt432.1 bt432.2 bt437.1 bt437.2.1 bt437.2.2.1 bt437.2.2.2 a2).bind fun bt441 => ((laws_eqValue.f bt441.1 bt441.2.1 bt441.2.2.1 bt441.2.2.2.1 bt426.1 bt426.2.1 bt426.2.2.1 bt426.2.2.2.1).bind fun t447 => (if t447 = true then (laws_FnExactGetField.j0 k (bt441.2.2.2.2 != bt426.2.2.2.2) a0_0 l0_1 bt432.1 bt432.2) else (laws_FnExactGetField.j0 k true a0_0 l0_1 bt432.1 bt432.2)))))))) = some true := H
 have A23 := Aside0.mk A230
 clear A230
 replace H := Option.bind_eq_some_iff.mp H
 obtain ⟨⟨t422, t423, t424, t425⟩, A240, H⟩ := H
 replace H : ((spec_GetField.f k t418 t419 t422 t423 t424 t425 a2).bind fun bt426 => ((laws_toHeap.f k a0_0 l0_1).bind fun bt432 => ((laws_toValue.f a1_0 a1_1 a1_2 a1_3).bind fun bt437 => ((impl_GetField.f k bt432.1 bt432.2 bt437.1 bt437.2.1 bt437.2.2.1 bt437.2.2.2 a2).bind fun bt441 => ((laws_eqValue.f bt441.1 bt441.2.1 bt441.2.2.1 bt441.2.2.2.1 bt426.1 bt426.2.1 bt426.2.2.1 bt426.2.2.2.1).bind fun t447 => (if t447 = true then (laws_FnExactGetField.j0 k (bt441.2.2.2.2 != bt426.2.2.2.2) a0_0 l0_1 bt432.1 bt432.2) else (laws_FnExactGetField.j0 k true a0_0 l0_1 bt432.1 bt432.2))))))) = some true := H
 have A24 := Aside0.mk A240
 clear A240
 replace H := Option.bind_eq_some_iff.mp H
 obtain ⟨⟨t426, t427, t428, t429, t430⟩, A250, H⟩ := H
 replace H : ((laws_toHeap.f k a0_0 l0_1).bind fun bt432 => ((laws_toValue.f a1_0 a1_1 a1_2 a1_3).bind fun bt437 => ((impl_GetField.f k bt432.1 bt432.2 bt437.1 bt437.2.1 bt437.2.2.1 bt437.2.2.2 a2).bind fun bt441 => ((laws_eqValue.f bt441.1 bt441.2.1 bt441.2.2.1 bt441.2.2.2.1 t426 t427 t428 t429).bind fun t447 => (if t447 = true then (laws_FnExactGetField.j0 k (bt441.2.2.2.2 != t430) a0_0 l0_1 bt432.1 bt432.2) else (laws_FnExactGetField.j0 k true a0_0 l0_1 bt432.1 bt432.2)))))) = some true := H
 have A25 := Aside0.mk A250
 clear A250
 replace H := Option.bind_eq_some_iff.mp H
 obtain ⟨⟨t432, t433⟩, A260, H⟩ := H
 replace H : ((laws_toValue.f a1_0 a1_1 a1_2 a1_3).bind fun bt437 => ((impl_GetField.f k t432 t433 bt437.1 bt437.2.1 bt437.2.2.1 bt437.2.2.2 a2).bind fun bt441 => ((laws_eqValue.f bt441.1 bt441.2.1 bt441.2.2.1 bt441.2.2.2.1 t426 t427 t428 t429).bind fun t447 => (if t447 = true then (laws_FnExactGetField.j0 k (bt441.2.2.2.2 != t430) a0_0 l0_1 t432 t433) else (laws_FnExactGetField.j0 k true a0_0 l0_1 t432 t433))))) = some true := H
 have A26 := Aside0.mk A260
 clear A260
 replace H := Option.bind_eq_some_iff.mp H
 obtain ⟨⟨t437, t438, t439, t440⟩, A270, H⟩ := H
 replace H : ((impl_GetField.f k t432 t433 t437 t438 t439 t440 a2).bind fun bt441 => ((laws_eqValue.f bt441.1 bt441.2.1 bt441.2.2.1 bt441.2.2.2.1 t426 t427 t428 t429).bind fun t447 => (if t447 = true then (laws_FnExactGetField.j0 k (bt441.2.2.2.2 != t430) a0_0 l0_1 t432 t433) else (laws_FnExactGetField.j0 k true a0_0 l0_1 t432 t433)))) = some true := H
 have A27 := Aside0.mk A270
 clear A270
 replace H := Option.bind_eq_some_iff.mp H
 obtain ⟨⟨t441, t442, t443, t444, t445⟩, A280, H⟩ := H
 replace H : ((laws_eqValue.f t441 t442 t443 t444 t426 t427 t428 t429).bind fun t447 => (if t447 = true then (laws_FnExactGetField.j0 k (t445 != t430) a0_0 l0_1 t432 t433) else (laws_FnExactGetField.j0 k true a0_0 l0_1 t432 t433))) = some true := H
 have A28 := Aside0.mk A280
 clear A280
 have HC29 := Aside0.mk H
 clear H
 go_enter Try.func3, Try.ntmps3
 try go_wp2_with (first | ((with_reducible refine gate_dst (N := 3) rfl ?_); refine sV (N := 3) (cs := #[.int .i64 a0_0, .slice A0_1 l0_1.length c0_1]) (t := 24) ?_; intro gb414 hg w30 hbox hb; have n0_ := sB HB hb; have n1_ := Aside0.mk (hbox); have n2_ := sG HB hg; have n3_ := sG HB hg; clear HB; have HB := n0_; have BK414 := n1_; have GW414 := n2_; have GE414 := n3_; clear n0_ n1_ n2_ n3_; clear hb hbox hg) | ((with_reducible refine gate_dst (N := 4) rfl ?_); refine sV (N := 4) (cs := #[.int .i64 a1_0, .int .i64 a1_1, .string a1_2, .int .i64 a1_3]) (t := 26) ?_; intro gb415 hg w31 hbox hb; have n0_ := sK BK414 hb; have n1_ := sB HB hb; have n2_ := Aside0.mk (hbox); have n3_ := sG HB hg; have n4_ := sG HB hg; have n5_ := sN BK414 hg; have n6_ := sM BK414 hg; clear BK414; clear HB; have BK414 := n0_; have HB := n1_; have BK415 := n2_; have GW415 := n3_; have GE415 := n4_; have NB414_415 := n5_; have NB415_414 := n6_; clear n0_ n1_ n2_ n3_ n4_ n5_ n6_; clear hb hbox hg; have hnb32 := NB414_415.out; have hnc32 := NB415_414.out; obtain ⟨hcz33_0, hcz33_1, hfz33_0, hfz33_1⟩ := cells2 BK414.out) | ((with_reducible refine gate_callee (f := 14) rfl ?_); refine sC (some 18) Try.func14 #[.agg #[.int .i64 a0_0, .slice A0_1 l0_1.length c0_1], .int .i64 1048576] (laws_szHeap.calls k a0_0 _ _ l0_1 1048576 t416 _ ?side1 ?side2 A7.out) ?_; (case side1 => exact sD (Kd.C_below HR0_1.out HB.out)); (case side2 => exact HC0_1.out); rintro e w34 ⟨rfl, hb⟩; refine ⟨_, rfl, ?_⟩; have n0_ := sK BK414 hb; have n1_ := sK BK415 hb; have n2_ := sB HB hb; clear BK414; clear BK415; clear HB; have BK414 := n0_; have BK415 := n1_; have HB := n2_; clear n0_ n1_ n2_; (try clear hb); (try clear hb2); (try clear hk); (try clear hi); obtain ⟨hcz35_0, hcz35_1, hcz35_2, hcz35_3, hfz35_0, hfz35_1, hfz35_2, hfz35_3⟩ := cells4 BK415.out) | ((with_reducible refine gate_callee (f := 15) rfl ?_); refine sC (some 23) Try.func15 #[.agg #[.int .i64 a1_0, .int .i64 a1_1, .string a1_2, .int .i64 a1_3], .int .i64 t416] (laws_szValue.calls a1_0 a1_1 a1_2 a1_3 t416 t417 _ A14.out) ?_; rintro e w36 ⟨rfl, hb⟩; refine ⟨_, rfl, ?_⟩; have n0_ := sK BK414 hb; have n1_ := sK BK415 hb; have n2_ := sB HB hb; clear BK414; clear BK415; clear HB; have BK414 := n0_; have BK415 := n1_; have HB := n2_; clear n0_ n1_ n2_; (try clear hb); (try clear hb2); (try clear hk); (try clear hi)))
 have n0_ := Aside0.mk (blk_drew BK414.out)
 have n1_ := Aside0.mk (blk_drew BK415.out)
 have n2_ := Aside0.mk (below_drew1 HB.out)
 clear BK414
 clear BK415
 clear HB
 have BK414 := n0_
 have BK415 := n1_
 have HB := n2_
 clear n0_ n1_ n2_
 refine start_ (n := 12) (S := fun w' => w'.cell? ⟨gb414, 0, none⟩ = some (.int .i64 a0_0) ∧ w'.cell? ⟨gb414, 1, none⟩ = some (.slice A0_1 l0_1.length c0_1) ∧ w'.cell? ⟨gb415, 0, none⟩ = some (.int .i64 a1_0) ∧ w'.cell? ⟨gb415, 1, none⟩ = some (.int .i64 a1_1) ∧ w'.cell? ⟨gb415, 2, none⟩ = some (.string a1_2) ∧ w'.cell? ⟨gb415, 3, none⟩ = some (.int .i64 a1_3)) (ds := []) #[false, false, false, false, false, false, false, false, false, false, false, false] (by kernel_rfl) rfl rfl ⟨(blk_cell BK414.out 0).trans rfl, (blk_cell BK414.out 1).trans rfl, (blk_cell BK415.out 0).trans rfl, (blk_cell BK415.out 1).trans rfl, (blk_cell BK415.out 2).trans rfl, (blk_cell BK415.out 3).trans rfl⟩ (fun hHeld => ?_); refine with_tabW laws_FnExactGetField.tab10 laws_FnExactGetField.bits10 (fun HT_ HW_ => ?_)
 generalize w36.drew = w37 at BK414 BK415 HB hHeld ⊢
 refine pure_ (i := 4) (N := some 31) (v := ?_) (a' := ?_) (bN 12 16) rfl rfl (any_of HT_.out (by kernel_rfl)) (fun _ _ _ h => h) (Or.inl ⟨by rfl, ?_⟩) ?_ ?_
 rotate_left
 ·intro w'
  go_simp
  with_reducible rfl
 rotate_left
 ·simp only [Act.put, List.setIfInBounds_toArray, List.set_cons_zero, List.set_cons_succ, i64_w, i32_w]
  rfl
 refine take_ (i := 0) (N := some 27) (v := ?_) (a' := ?_) (bN 12 17) rfl rfl (take_ofW HT_.out HW_.out (by kernel_rfl)) (fun _ _ _ h => h) (Or.inl ⟨by rfl, ?_⟩) hHeld ?_ ?_
 rotate_left
 ·rintro w' ⟨s0, s1, s2, s3, s4, s5⟩
  go_simp
  with_reducible rfl
 rotate_left
 ·simp only [Act.put, List.setIfInBounds_toArray, List.set_cons_zero, List.set_cons_succ, i64_w, i32_w]
  rfl
 refine take_ (i := 2) (N := some 29) (v := ?_) (a' := ?_) (bN 12 21) rfl rfl (take_ofW HT_.out HW_.out (by kernel_rfl)) (fun _ _ _ h => h) (Or.inl ⟨by rfl, ?_⟩) hHeld ?_ ?_
 rotate_left
 ·rintro w' ⟨s0, s1, s2, s3, s4, s5⟩
  go_simp
  with_reducible rfl
 rotate_left
 ·simp only [Act.put, List.setIfInBounds_toArray, List.set_cons_zero, List.set_cons_succ, i64_w, i32_w]
  rfl
 refine join_ (σ := Value × Nat) 2 (bN 12 1023) (fun s_ => [(28, .agg #[.int .i64 t418, s_.1]), (30, .agg #[.int .i64 t422, .int .i64 t423, .string t424, .int .i64 t425]), (32, .tuple #[.agg #[.int .i64 t426, .int .i64 t427, .string t428, .int .i64 t429], .int .i64 t430]), (8, .pointer (some ⟨s_.2, 0, none⟩)), (26, .tuple #[.agg #[.int .i64 t426, .int .i64 t427, .string t428, .int .i64 t429], .int .i64 t430]), (33, .agg #[.int .i64 t426, .int .i64 t427, .string t428, .int .i64 t429]), (34, .int .i64 t430)]) (fun s_ w' => (w'.cell? ⟨gb414, 0, none⟩ = some (.int .i64 a0_0) ∧ w'.cell? ⟨gb414, 1, none⟩ = some (.slice A0_1 l0_1.length c0_1) ∧ w'.cell? ⟨gb415, 0, none⟩ = some (.int .i64 a1_0) ∧ w'.cell? ⟨gb415, 1, none⟩ = some (.int .i64 a1_1) ∧ w'.cell? ⟨gb415, 2, none⟩ = some (.string a1_2) ∧ w'.cell? ⟨gb415, 3, none⟩ = some (.int .i64 a1_3)) ∧ (Kd.S k56 56 w' w.heap.size (fun k_ => k_ ≠ s_.2) s_.1 t419) ∧ (w'.heap[gb414]? = some (.cells #[.int .i64 a0_0, .slice A0_1 l0_1.length c0_1] 24 (0, 0))) ∧ (w'.heap[gb415]? = some (.cells #[.int .i64 a1_0, .int .i64 a1_1, .string a1_2, .int .i64 a1_3] 26 (0, 0))) ∧ (w'.heap[s_.2]? = some (.cells #[.int .i64 0, .int .i64 0, .string (⟨#[]⟩ : ByteArray), .int .i64 0] 29 (0, 0))) ∧ (w.heap.size ≤ s_.2) ∧ (w.heap.size ≤ s_.2) ∧ (gb414 ≠ s_.2) ∧ (s_.2 ≠ gb414) ∧ (gb415 ≠ s_.2) ∧ (s_.2 ≠ gb415) ∧ (Below w.heap.size w w')) ?_ ?_
 rotate_left
 ·intro hCont
  refine two_ (i := 1) (j := 9) (Ni := some 28) (Nj := some 8) (bN 12 23) (bN 12 533) rfl rfl rfl rfl (two_of HT_.out (by kernel_rfl)) (by decide) (by decide) (fun K hK => ?_) (fun K hK => ?_)
  ·skip
   refine goes_ Try.func17 (by kernel_rfl) rfl #[.agg #[.int .i64 a0_0, .slice A0_1 l0_1.length c0_1]] (by rfl) rfl rfl (by (try simp only [List.map_toArray, List.map_cons, List.map_nil]); first | done | rfl | (simp only [List.length_drop, List.length_take]; rfl)) ?_
   with_reducible refine (laws_toHeap.calls k a0_0 _ _ l0_1 t418 t419 _ ?side1 ?side2 A23.out).mono ?_
   (case side1 => exact sD (Kd.C_below HR0_1.out HB.out))
   (case side2 => exact HC0_1.out)
   rintro e w38 ⟨v420, rfl, ho0, hb⟩
   refine ⟨_, rfl, ?_⟩
   have n0_ := Aside0.mk (Kd.S_lower ho0 (below_size (by repeat (first | (with_reducible first | exact HB.out | apply below_alloc | apply pw_below_drewN | apply below_drew1 | refine below_set ?_ GE414.out | refine below_set ?_ GE415.out) | exact HB.out))))
   have n1_ := sK BK414 hb
   have n2_ := sK BK415 hb
   have n3_ := sB HB hb
   clear BK414
   clear BK415
   clear HB
   have HO421 := n0_
   have BK414 := n1_
   have BK415 := n2_
   have HB := n3_
   clear n0_ n1_ n2_ n3_
   (try clear hb)
   (try clear hb2)
   (try clear hk)
   (try clear hi)
   (try clear ho0)
   refine hK.out _ _ ⟨(blk_cell BK414.out 0).trans rfl, (blk_cell BK414.out 1).trans rfl, (blk_cell BK415.out 0).trans rfl, (blk_cell BK415.out 1).trans rfl, (blk_cell BK415.out 2).trans rfl, (blk_cell BK415.out 3).trans rfl⟩ (fun hHeld => ?_)
   clear hK K
   refine norm_ (a' := ?_) ?_ ?_
   rotate_left
   ·show Act.put _ (some 28) _ = _
    simp only [Act.put, List.setIfInBounds_toArray, List.set_cons_zero, List.set_cons_succ, i64_w, i32_w]
    rfl
   refine two_ (i := 3) (j := 9) (Ni := some 30) (Nj := some 8) (bN 12 31) (bN 12 535) rfl rfl rfl rfl (two_of HT_.out (by kernel_rfl)) (by decide) (by decide) (fun K hK => ?_) (fun K hK => ?_)
   ·skip
    refine goes_ Try.func18 (by kernel_rfl) rfl #[.agg #[.int .i64 a1_0, .int .i64 a1_1, .string a1_2, .int .i64 a1_3]] (by rfl) rfl rfl (by (try simp only [List.map_toArray, List.map_cons, List.map_nil]); first | done | rfl | (simp only [List.length_drop, List.length_take]; rfl)) ?_
    with_reducible refine (laws_toValue.calls a1_0 a1_1 a1_2 a1_3 t422 t423 t424 t425 _ A24.out).mono ?_
    rintro e w39 ⟨rfl, hb⟩
    refine ⟨_, rfl, ?_⟩
    have n0_ := Aside0.mk (Kd.S_below (sI HO421.out) hb)
    have n1_ := sK BK414 hb
    have n2_ := sK BK415 hb
    have n3_ := sB HB hb
    clear HO421
    clear BK414
    clear BK415
    clear HB
    have HO421 := n0_
    have BK414 := n1_
    have BK415 := n2_
    have HB := n3_
    clear n0_ n1_ n2_ n3_
    (try clear hb)
    (try clear hb2)
    (try clear hk)
    (try clear hi)
    obtain ⟨Ao40, co40, eo40⟩ := Kd.S_slice HO421.out
    (first | subst eo40 | (injection eo40 with f1_ f2_ f3_; have f4_ := f1_.symm; have f5_ := f3_.symm; clear f1_ f2_ f3_; subst f4_; subst f5_))
    refine hK.out _ _ ⟨(blk_cell BK414.out 0).trans rfl, (blk_cell BK414.out 1).trans rfl, (blk_cell BK415.out 0).trans rfl, (blk_cell BK415.out 1).trans rfl, (blk_cell BK415.out 2).trans rfl, (blk_cell BK415.out 3).trans rfl⟩ (fun hHeld => ?_)
    clear hK K
    refine norm_ (a' := ?_) ?_ ?_
    rotate_left
    ·show Act.put _ (some 30) _ = _
     simp only [Act.put, List.setIfInBounds_toArray, List.set_cons_zero, List.set_cons_succ, i64_w, i32_w]
     rfl
    refine two_ (i := 5) (j := 9) (Ni := some 32) (Nj := some 8) (bN 12 63) (bN 12 543) rfl rfl rfl rfl (two_of HT_.out (by kernel_rfl)) (by decide) (by decide) (fun K hK => ?_) (fun K hK => ?_)
    ·skip
     refine goes_ Try.func16 (by kernel_rfl) rfl #[.agg #[.int .i64 t418, .slice Ao40 t419.length co40], .agg #[.int .i64 t422, .int .i64 t423, .string t424, .int .i64 t425], .string a2] (by rfl) rfl rfl (by (try simp only [List.map_toArray, List.map_cons, List.map_nil]); first | done | rfl | (simp only [List.length_drop, List.length_take]; rfl)) ?_
     with_reducible refine (spec_GetField.calls k t418 _ _ t419 t422 t423 t424 t425 a2 t426 t427 t428 t429 t430 _ ?side1 ?side2 A25.out).mono ?_
     (case side1 => exact sD ((Kd.S_reads' HO421.out).2.2))
     (case side2 => exact (Kd.S_reads' HO421.out).2.1)
     rintro e w41 ⟨rfl, hb⟩
     refine ⟨_, rfl, ?_⟩
     have n0_ := Aside0.mk (Kd.S_below (sI HO421.out) hb)
     have n1_ := sK BK414 hb
     have n2_ := sK BK415 hb
     have n3_ := sB HB hb
     clear HO421
     clear BK414
     clear BK415
     clear HB
     have HO421 := n0_
     have BK414 := n1_
     have BK415 := n2_
     have HB := n3_
     clear n0_ n1_ n2_ n3_
     (try clear hb)
     (try clear hb2)
     (try clear hk)
     (try clear hi)
     refine hK.out _ _ ⟨(blk_cell BK414.out 0).trans rfl, (blk_cell BK414.out 1).trans rfl, (blk_cell BK415.out 0).trans rfl, (blk_cell BK415.out 1).trans rfl, (blk_cell BK415.out 2).trans rfl, (blk_cell BK415.out 3).trans rfl⟩ (fun hHeld => ?_)
     clear hK K
     refine norm_ (a' := ?_) ?_ ?_
     rotate_left
     ·show Act.put _ (some 32) _ = _
      simp only [Act.put, List.setIfInBounds_toArray, List.set_cons_zero, List.set_cons_succ, i64_w, i32_w]
      rfl
     refine pure_ (i := 6) (N := some 26) (v := ?_) (a' := ?_) (bN 12 127) rfl rfl (any_of HT_.out (by kernel_rfl)) (fun _ _ _ h => h) (Or.inl ⟨by rfl, ?_⟩) ?_ ?_
     rotate_left
     ·intro w'
      go_simp
      with_reducible rfl
     rotate_left
     ·simp only [Act.put, List.setIfInBounds_toArray, List.set_cons_zero, List.set_cons_succ, i64_w, i32_w]
      rfl
     refine pure_ (i := 7) (N := some 33) (v := ?_) (a' := ?_) (bN 12 255) rfl rfl (any_of HT_.out (by kernel_rfl)) (fun _ _ _ h => h) (Or.inl ⟨by rfl, ?_⟩) ?_ ?_
     rotate_left
     ·intro w'
      go_simp
      with_reducible rfl
     rotate_left
     ·simp only [Act.put, List.setIfInBounds_toArray, List.set_cons_zero, List.set_cons_succ, i64_w, i32_w]
      rfl
     refine pure_ (i := 8) (N := some 34) (v := ?_) (a' := ?_) (bN 12 511) rfl rfl (any_of HT_.out (by kernel_rfl)) (fun _ _ _ h => h) (Or.inl ⟨by rfl, ?_⟩) ?_ ?_
     rotate_left
     ·intro w'
      go_simp
      with_reducible rfl
     rotate_left
     ·simp only [Act.put, List.setIfInBounds_toArray, List.set_cons_zero, List.set_cons_succ, i64_w, i32_w]
      rfl
     refine one_ (i := 9) (N := some 8) (bN 12 1023) rfl rfl (one_of HT_.out (by kernel_rfl)) (by decide) (fun K hK => ?_)
     refine box_step ?hg (N := 8) ?hd (cs := #[.int .i64 0, .int .i64 0, .string (⟨#[]⟩ : ByteArray), .int .i64 0]) (t := 29) ?hr ?_; (case hd => rfl); (case hg => rfl); (case hr => first | (go_simp; done) | (go_simp; rfl))
     intro gb431 hg w42 hbox hb
     have n0_ := Aside0.mk (Kd.S_below (Kd.S_elderB (sI HO421.out) gb431 (Nat.le_of_eq hg.symm)) hb)
     have n1_ := sK BK414 hb
     have n2_ := sK BK415 hb
     have n3_ := sB HB hb
     have n4_ := Aside0.mk (hbox)
     have n5_ := sG HB hg
     have n6_ := sG HB hg
     have n7_ := sN BK414 hg
     have n8_ := sM BK414 hg
     have n9_ := sN BK415 hg
     have n10_ := sM BK415 hg
     clear HO421
     clear BK414
     clear BK415
     clear HB
     have HO421 := n0_
     have BK414 := n1_
     have BK415 := n2_
     have HB := n3_
     have BK431 := n4_
     have GW431 := n5_
     have GE431 := n6_
     have NB414_431 := n7_
     have NB431_414 := n8_
     have NB415_431 := n9_
     have NB431_415 := n10_
     clear n0_ n1_ n2_ n3_ n4_ n5_ n6_ n7_ n8_ n9_ n10_
     clear hb hbox hg
     refine hK.out _ _ ⟨(blk_cell BK414.out 0).trans rfl, (blk_cell BK414.out 1).trans rfl, (blk_cell BK415.out 0).trans rfl, (blk_cell BK415.out 1).trans rfl, (blk_cell BK415.out 2).trans rfl, (blk_cell BK415.out 3).trans rfl⟩ (fun hHeld => ?_)
     clear hK K
     refine norm_ (a' := ?_) ?_ ?_
     rotate_left
     ·show Act.put _ (some 8) _ = _
      simp only [Act.put, List.setIfInBounds_toArray, List.set_cons_zero, List.set_cons_succ, i64_w, i32_w]
      rfl
     exact norm_ (by simp only [putAll, Act.put, List.setIfInBounds_toArray, List.set_cons_zero, List.set_cons_succ]) (hCont (.slice Ao40 t419.length co40, gb431) _ ⟨hHeld, (by (with_reducible repeat (first | apply Kd.S_alloc | apply Kd.S_drewN | apply Kd.S_drew)); exact Kd.S_mono HO421.out (fun _ hk => hk.2)), (sT BK414.out), (sT BK415.out), (sT BK431.out), GW431.out, GE431.out, NB414_431.out, NB431_414.out, NB415_431.out, NB431_415.out, (by repeat (first | (with_reducible first | exact HB.out | apply below_alloc | apply pw_below_drewN | apply below_drew1 | refine below_set ?_ GE414.out | refine below_set ?_ GE415.out | refine below_set ?_ GE431.out) | exact HB.out))⟩)
    ·skip
     refine box_step ?hg (N := 8) ?hd (cs := #[.int .i64 0, .int .i64 0, .string (⟨#[]⟩ : ByteArray), .int .i64 0]) (t := 29) ?hr ?_; (case hd => rfl); (case hg => rfl); (case hr => first | (go_simp; done) | (go_simp; rfl))
     intro gb431 hg w40 hbox hb
     have n0_ := Aside0.mk (Kd.S_below (Kd.S_elderB (sI HO421.out) gb431 (Nat.le_of_eq hg.symm)) hb)
     have n1_ := sK BK414 hb
     have n2_ := sK BK415 hb
     have n3_ := sB HB hb
     have n4_ := Aside0.mk (hbox)
     have n5_ := sG HB hg
     have n6_ := sG HB hg
     have n7_ := sN BK414 hg
     have n8_ := sM BK414 hg
     have n9_ := sN BK415 hg
     have n10_ := sM BK415 hg
     clear HO421
     clear BK414
     clear BK415
     clear HB
     have HO421 := n0_
     have BK414 := n1_
     have BK415 := n2_
     have HB := n3_
     have BK431 := n4_
     have GW431 := n5_
     have GE431 := n6_
     have NB414_431 := n7_
     have NB431_414 := n8_
     have NB415_431 := n9_
     have NB431_415 := n10_
     clear n0_ n1_ n2_ n3_ n4_ n5_ n6_ n7_ n8_ n9_ n10_
     clear hb hbox hg
     obtain ⟨Ao41, co41, eo41⟩ := Kd.S_slice HO421.out
     (first | subst eo41 | (injection eo41 with f1_ f2_ f3_; have f4_ := f1_.symm; have f5_ := f3_.symm; clear f1_ f2_ f3_; subst f4_; subst f5_))
     refine hK.out _ _ ⟨(blk_cell BK414.out 0).trans rfl, (blk_cell BK414.out 1).trans rfl, (blk_cell BK415.out 0).trans rfl, (blk_cell BK415.out 1).trans rfl, (blk_cell BK415.out 2).trans rfl, (blk_cell BK415.out 3).trans rfl⟩ (fun hHeld => ?_)
     clear hK K
     refine norm_ (a' := ?_) ?_ ?_
     rotate_left
     ·show Act.put _ (some 8) _ = _
      simp only [Act.put, List.setIfInBounds_toArray, List.set_cons_zero, List.set_cons_succ, i64_w, i32_w]
      rfl
     refine one_ (i := 5) (N := some 32) (bN 12 575) rfl rfl (one_of HT_.out (by kernel_rfl)) (by decide) (fun K hK => ?_)
     refine goes_ Try.func16 (by kernel_rfl) rfl #[.agg #[.int .i64 t418, .slice Ao41 t419.length co41], .agg #[.int .i64 t422, .int .i64 t423, .string t424, .int .i64 t425], .string a2] (by rfl) rfl rfl (by (try simp only [List.map_toArray, List.map_cons, List.map_nil]); first | done | rfl | (simp only [List.length_drop, List.length_take]; rfl)) ?_
     with_reducible refine (spec_GetField.calls k t418 _ _ t419 t422 t423 t424 t425 a2 t426 t427 t428 t429 t430 _ ?side1 ?side2 A25.out).mono ?_
     (case side1 => exact sD ((Kd.S_reads' HO421.out).2.2))
     (case side2 => exact (Kd.S_reads' HO421.out).2.1)
     rintro e w42 ⟨rfl, hb⟩
     refine ⟨_, rfl, ?_⟩
     have n0_ := Aside0.mk (Kd.S_below (sI HO421.out) hb)
     have n1_ := sK BK414 hb
     have n2_ := sK BK415 hb
     have n3_ := sK BK431 hb
     have n4_ := sB HB hb
     clear HO421
     clear BK414
     clear BK415
     clear BK431
     clear HB
     have HO421 := n0_
     have BK414 := n1_
     have BK415 := n2_
     have BK431 := n3_
     have HB := n4_
     clear n0_ n1_ n2_ n3_ n4_
     (try clear hb)
     (try clear hb2)
     (try clear hk)
     (try clear hi)
     refine hK.out _ _ ⟨(blk_cell BK414.out 0).trans rfl, (blk_cell BK414.out 1).trans rfl, (blk_cell BK415.out 0).trans rfl, (blk_cell BK415.out 1).trans rfl, (blk_cell BK415.out 2).trans rfl, (blk_cell BK415.out 3).trans rfl⟩ (fun hHeld => ?_)
     clear hK K
     refine norm_ (a' := ?_) ?_ ?_
     rotate_left
     ·show Act.put _ (some 32) _ = _
      simp only [Act.put, List.setIfInBounds_toArray, List.set_cons_zero, List.set_cons_succ, i64_w, i32_w]
      rfl
     refine pure_ (i := 6) (N := some 26) (v := ?_) (a' := ?_) (bN 12 639) rfl rfl (any_of HT_.out (by kernel_rfl)) (fun _ _ _ h => h) (Or.inl ⟨by rfl, ?_⟩) ?_ ?_
     rotate_left
     ·intro w'
      go_simp
      with_reducible rfl
     rotate_left
     ·simp only [Act.put, List.setIfInBounds_toArray, List.set_cons_zero, List.set_cons_succ, i64_w, i32_w]
      rfl
     refine pure_ (i := 7) (N := some 33) (v := ?_) (a' := ?_) (bN 12 767) rfl rfl (any_of HT_.out (by kernel_rfl)) (fun _ _ _ h => h) (Or.inl ⟨by rfl, ?_⟩) ?_ ?_
     rotate_left
     ·intro w'
      go_simp
      with_reducible rfl
     rotate_left
     ·simp only [Act.put, List.setIfInBounds_toArray, List.set_cons_zero, List.set_cons_succ, i64_w, i32_w]
      rfl
     refine pure_ (i := 8) (N := some 34) (v := ?_) (a' := ?_) (bN 12 1023) rfl rfl (any_of HT_.out (by kernel_rfl)) (fun _ _ _ h => h) (Or.inl ⟨by rfl, ?_⟩) ?_ ?_
     rotate_left
     ·intro w'
      go_simp
      with_reducible rfl
     rotate_left
     ·simp only [Act.put, List.setIfInBounds_toArray, List.set_cons_zero, List.set_cons_succ, i64_w, i32_w]
      rfl
     exact norm_ (by simp only [putAll, Act.put, List.setIfInBounds_toArray, List.set_cons_zero, List.set_cons_succ]) (hCont (.slice Ao41 t419.length co41, gb431) _ ⟨hHeld, (by (with_reducible repeat (first | apply Kd.S_alloc | apply Kd.S_drewN | apply Kd.S_drew)); exact Kd.S_mono HO421.out (fun _ hk => hk.2)), (sT BK414.out), (sT BK415.out), (sT BK431.out), GW431.out, GE431.out, NB414_431.out, NB431_414.out, NB415_431.out, NB431_415.out, (by repeat (first | (with_reducible first | exact HB.out | apply below_alloc | apply pw_below_drewN | apply below_drew1 | refine below_set ?_ GE414.out | refine below_set ?_ GE415.out | refine below_set ?_ GE431.out) | exact HB.out))⟩)
   ·skip
    refine box_step ?hg (N := 8) ?hd (cs := #[.int .i64 0, .int .i64 0, .string (⟨#[]⟩ : ByteArray), .int .i64 0]) (t := 29) ?hr ?_; (case hd => rfl); (case hg => rfl); (case hr => first | (go_simp; done) | (go_simp; rfl))
    intro gb431 hg w39 hbox hb
    have n0_ := Aside0.mk (Kd.S_below (Kd.S_elderB (sI HO421.out) gb431 (Nat.le_of_eq hg.symm)) hb)
    have n1_ := sK BK414 hb
    have n2_ := sK BK415 hb
    have n3_ := sB HB hb
    have n4_ := Aside0.mk (hbox)
    have n5_ := sG HB hg
    have n6_ := sG HB hg
    have n7_ := sN BK414 hg
    have n8_ := sM BK414 hg
    have n9_ := sN BK415 hg
    have n10_ := sM BK415 hg
    clear HO421
    clear BK414
    clear BK415
    clear HB
    have HO421 := n0_
    have BK414 := n1_
    have BK415 := n2_
    have HB := n3_
    have BK431 := n4_
    have GW431 := n5_
    have GE431 := n6_
    have NB414_431 := n7_
    have NB431_414 := n8_
    have NB415_431 := n9_
    have NB431_415 := n10_
    clear n0_ n1_ n2_ n3_ n4_ n5_ n6_ n7_ n8_ n9_ n10_
    clear hb hbox hg
    refine hK.out _ _ ⟨(blk_cell BK414.out 0).trans rfl, (blk_cell BK414.out 1).trans rfl, (blk_cell BK415.out 0).trans rfl, (blk_cell BK415.out 1).trans rfl, (blk_cell BK415.out 2).trans rfl, (blk_cell BK415.out 3).trans rfl⟩ (fun hHeld => ?_)
    clear hK K
    refine norm_ (a' := ?_) ?_ ?_
    rotate_left
    ·show Act.put _ (some 8) _ = _
     simp only [Act.put, List.setIfInBounds_toArray, List.set_cons_zero, List.set_cons_succ, i64_w, i32_w]
     rfl
    refine one_ (i := 3) (N := some 30) (bN 12 543) rfl rfl (one_of HT_.out (by kernel_rfl)) (by decide) (fun K hK => ?_)
    refine goes_ Try.func18 (by kernel_rfl) rfl #[.agg #[.int .i64 a1_0, .int .i64 a1_1, .string a1_2, .int .i64 a1_3]] (by rfl) rfl rfl (by (try simp only [List.map_toArray, List.map_cons, List.map_nil]); first | done | rfl | (simp only [List.length_drop, List.length_take]; rfl)) ?_
    with_reducible refine (laws_toValue.calls a1_0 a1_1 a1_2 a1_3 t422 t423 t424 t425 _ A24.out).mono ?_
    rintro e w40 ⟨rfl, hb⟩
    refine ⟨_, rfl, ?_⟩
    have n0_ := Aside0.mk (Kd.S_below (sI HO421.out) hb)
    have n1_ := sK BK414 hb
    have n2_ := sK BK415 hb
    have n3_ := sK BK431 hb
    have n4_ := sB HB hb
    clear HO421
    clear BK414
    clear BK415
    clear BK431
    clear HB
    have HO421 := n0_
    have BK414 := n1_
    have BK415 := n2_
    have BK431 := n3_
    have HB := n4_
    clear n0_ n1_ n2_ n3_ n4_
    (try clear hb)
    (try clear hb2)
    (try clear hk)
    (try clear hi)
    obtain ⟨Ao41, co41, eo41⟩ := Kd.S_slice HO421.out
    (first | subst eo41 | (injection eo41 with f1_ f2_ f3_; have f4_ := f1_.symm; have f5_ := f3_.symm; clear f1_ f2_ f3_; subst f4_; subst f5_))
    refine hK.out _ _ ⟨(blk_cell BK414.out 0).trans rfl, (blk_cell BK414.out 1).trans rfl, (blk_cell BK415.out 0).trans rfl, (blk_cell BK415.out 1).trans rfl, (blk_cell BK415.out 2).trans rfl, (blk_cell BK415.out 3).trans rfl⟩ (fun hHeld => ?_)
    clear hK K
    refine norm_ (a' := ?_) ?_ ?_
    rotate_left
    ·show Act.put _ (some 30) _ = _
     simp only [Act.put, List.setIfInBounds_toArray, List.set_cons_zero, List.set_cons_succ, i64_w, i32_w]
     rfl
    refine one_ (i := 5) (N := some 32) (bN 12 575) rfl rfl (one_of HT_.out (by kernel_rfl)) (by decide) (fun K hK => ?_)
    refine goes_ Try.func16 (by kernel_rfl) rfl #[.agg #[.int .i64 t418, .slice Ao41 t419.length co41], .agg #[.int .i64 t422, .int .i64 t423, .string t424, .int .i64 t425], .string a2] (by rfl) rfl rfl (by (try simp only [List.map_toArray, List.map_cons, List.map_nil]); first | done | rfl | (simp only [List.length_drop, List.length_take]; rfl)) ?_
    with_reducible refine (spec_GetField.calls k t418 _ _ t419 t422 t423 t424 t425 a2 t426 t427 t428 t429 t430 _ ?side1 ?side2 A25.out).mono ?_
    (case side1 => exact sD ((Kd.S_reads' HO421.out).2.2))
    (case side2 => exact (Kd.S_reads' HO421.out).2.1)
    rintro e w42 ⟨rfl, hb⟩
    refine ⟨_, rfl, ?_⟩
    have n0_ := Aside0.mk (Kd.S_below (sI HO421.out) hb)
    have n1_ := sK BK414 hb
    have n2_ := sK BK415 hb
    have n3_ := sK BK431 hb
    have n4_ := sB HB hb
    clear HO421
    clear BK414
    clear BK415
    clear BK431
    clear HB
    have HO421 := n0_
    have BK414 := n1_
    have BK415 := n2_
    have BK431 := n3_
    have HB := n4_
    clear n0_ n1_ n2_ n3_ n4_
    (try clear hb)
    (try clear hb2)
    (try clear hk)
    (try clear hi)
    refine hK.out _ _ ⟨(blk_cell BK414.out 0).trans rfl, (blk_cell BK414.out 1).trans rfl, (blk_cell BK415.out 0).trans rfl, (blk_cell BK415.out 1).trans rfl, (blk_cell BK415.out 2).trans rfl, (blk_cell BK415.out 3).trans rfl⟩ (fun hHeld => ?_)
    clear hK K
    refine norm_ (a' := ?_) ?_ ?_
    rotate_left
    ·show Act.put _ (some 32) _ = _
     simp only [Act.put, List.setIfInBounds_toArray, List.set_cons_zero, List.set_cons_succ, i64_w, i32_w]
     rfl
    refine pure_ (i := 6) (N := some 26) (v := ?_) (a' := ?_) (bN 12 639) rfl rfl (any_of HT_.out (by kernel_rfl)) (fun _ _ _ h => h) (Or.inl ⟨by rfl, ?_⟩) ?_ ?_
    rotate_left
    ·intro w'
     go_simp
     with_reducible rfl
    rotate_left
    ·simp only [Act.put, List.setIfInBounds_toArray, List.set_cons_zero, List.set_cons_succ, i64_w, i32_w]
     rfl
    refine pure_ (i := 7) (N := some 33) (v := ?_) (a' := ?_) (bN 12 767) rfl rfl (any_of HT_.out (by kernel_rfl)) (fun _ _ _ h => h) (Or.inl ⟨by rfl, ?_⟩) ?_ ?_
    rotate_left
    ·intro w'
     go_simp
     with_reducible rfl
    rotate_left
    ·simp only [Act.put, List.setIfInBounds_toArray, List.set_cons_zero, List.set_cons_succ, i64_w, i32_w]
     rfl
    refine pure_ (i := 8) (N := some 34) (v := ?_) (a' := ?_) (bN 12 1023) rfl rfl (any_of HT_.out (by kernel_rfl)) (fun _ _ _ h => h) (Or.inl ⟨by rfl, ?_⟩) ?_ ?_
    rotate_left
    ·intro w'
     go_simp
     with_reducible rfl
    rotate_left
    ·simp only [Act.put, List.setIfInBounds_toArray, List.set_cons_zero, List.set_cons_succ, i64_w, i32_w]
     rfl
    exact norm_ (by simp only [putAll, Act.put, List.setIfInBounds_toArray, List.set_cons_zero, List.set_cons_succ]) (hCont (.slice Ao41 t419.length co41, gb431) _ ⟨hHeld, (by (with_reducible repeat (first | apply Kd.S_alloc | apply Kd.S_drewN | apply Kd.S_drew)); exact Kd.S_mono HO421.out (fun _ hk => hk.2)), (sT BK414.out), (sT BK415.out), (sT BK431.out), GW431.out, GE431.out, NB414_431.out, NB431_414.out, NB415_431.out, NB431_415.out, (by repeat (first | (with_reducible first | exact HB.out | apply below_alloc | apply pw_below_drewN | apply below_drew1 | refine below_set ?_ GE414.out | refine below_set ?_ GE415.out | refine below_set ?_ GE431.out) | exact HB.out))⟩)
  ·skip
   refine box_step ?hg (N := 8) ?hd (cs := #[.int .i64 0, .int .i64 0, .string (⟨#[]⟩ : ByteArray), .int .i64 0]) (t := 29) ?hr ?_; (case hd => rfl); (case hg => rfl); (case hr => first | (go_simp; done) | (go_simp; rfl))
   intro gb431 hg w38 hbox hb
   have n0_ := sK BK414 hb
   have n1_ := sK BK415 hb
   have n2_ := sB HB hb
   have n3_ := Aside0.mk (hbox)
   have n4_ := sG HB hg
   have n5_ := sG HB hg
   have n6_ := sN BK414 hg
   have n7_ := sM BK414 hg
   have n8_ := sN BK415 hg
   have n9_ := sM BK415 hg
   clear BK414
   clear BK415
   clear HB
   have BK414 := n0_
   have BK415 := n1_
   have HB := n2_
   have BK431 := n3_
   have GW431 := n4_
   have GE431 := n5_
   have NB414_431 := n6_
   have NB431_414 := n7_
   have NB415_431 := n8_
   have NB431_415 := n9_
   clear n0_ n1_ n2_ n3_ n4_ n5_ n6_ n7_ n8_ n9_
   clear hb hbox hg
   refine hK.out _ _ ⟨(blk_cell BK414.out 0).trans rfl, (blk_cell BK414.out 1).trans rfl, (blk_cell BK415.out 0).trans rfl, (blk_cell BK415.out 1).trans rfl, (blk_cell BK415.out 2).trans rfl, (blk_cell BK415.out 3).trans rfl⟩ (fun hHeld => ?_)
   clear hK K
   refine norm_ (a' := ?_) ?_ ?_
   rotate_left
   ·show Act.put _ (some 8) _ = _
    simp only [Act.put, List.setIfInBounds_toArray, List.set_cons_zero, List.set_cons_succ, i64_w, i32_w]
    rfl
   refine one_ (i := 1) (N := some 28) (bN 12 535) rfl rfl (one_of HT_.out (by kernel_rfl)) (by decide) (fun K hK => ?_)
   refine goes_ Try.func17 (by kernel_rfl) rfl #[.agg #[.int .i64 a0_0, .slice A0_1 l0_1.length c0_1]] (by rfl) rfl rfl (by (try simp only [List.map_toArray, List.map_cons, List.map_nil]); first | done | rfl | (simp only [List.length_drop, List.length_take]; rfl)) ?_
   with_reducible refine (laws_toHeap.calls k a0_0 _ _ l0_1 t418 t419 _ ?side1 ?side2 A23.out).mono ?_
   (case side1 => exact sD (Kd.C_below HR0_1.out HB.out))
   (case side2 => exact HC0_1.out)
   rintro e w39 ⟨v420, rfl, ho0, hb⟩
   refine ⟨_, rfl, ?_⟩
   have n0_ := Aside0.mk (Kd.S_lower (Kd.S_newB ho0 (g := gb431) (o := .cells #[.int .i64 0, .int .i64 0, .string (⟨#[]⟩ : ByteArray), .int .i64 0] 29 (0, 0)) (sT BK431.out)) (below_size (by repeat (first | (with_reducible first | exact HB.out | apply below_alloc | apply pw_below_drewN | apply below_drew1 | refine below_set ?_ GE414.out | refine below_set ?_ GE415.out | refine below_set ?_ GE431.out) | exact HB.out))))
   have n1_ := sK BK414 hb
   have n2_ := sK BK415 hb
   have n3_ := sK BK431 hb
   have n4_ := sB HB hb
   clear BK414
   clear BK415
   clear BK431
   clear HB
   have HO421 := n0_
   have BK414 := n1_
   have BK415 := n2_
   have BK431 := n3_
   have HB := n4_
   clear n0_ n1_ n2_ n3_ n4_
   (try clear hb)
   (try clear hb2)
   (try clear hk)
   (try clear hi)
   (try clear ho0)
   refine hK.out _ _ ⟨(blk_cell BK414.out 0).trans rfl, (blk_cell BK414.out 1).trans rfl, (blk_cell BK415.out 0).trans rfl, (blk_cell BK415.out 1).trans rfl, (blk_cell BK415.out 2).trans rfl, (blk_cell BK415.out 3).trans rfl⟩ (fun hHeld => ?_)
   clear hK K
   refine norm_ (a' := ?_) ?_ ?_
   rotate_left
   ·show Act.put _ (some 28) _ = _
    simp only [Act.put, List.setIfInBounds_toArray, List.set_cons_zero, List.set_cons_succ, i64_w, i32_w]
    rfl
   refine one_ (i := 3) (N := some 30) (bN 12 543) rfl rfl (one_of HT_.out (by kernel_rfl)) (by decide) (fun K hK => ?_)
   refine goes_ Try.func18 (by kernel_rfl) rfl #[.agg #[.int .i64 a1_0, .int .i64 a1_1, .string a1_2, .int .i64 a1_3]] (by rfl) rfl rfl (by (try simp only [List.map_toArray, List.map_cons, List.map_nil]); first | done | rfl | (simp only [List.length_drop, List.length_take]; rfl)) ?_
   with_reducible refine (laws_toValue.calls a1_0 a1_1 a1_2 a1_3 t422 t423 t424 t425 _ A24.out).mono ?_
   rintro e w40 ⟨rfl, hb⟩
   refine ⟨_, rfl, ?_⟩
   have n0_ := Aside0.mk (Kd.S_below (sI HO421.out) hb)
   have n1_ := sK BK414 hb
   have n2_ := sK BK415 hb
   have n3_ := sK BK431 hb
   have n4_ := sB HB hb
   clear HO421
   clear BK414
   clear BK415
   clear BK431
   clear HB
   have HO421 := n0_
   have BK414 := n1_
   have BK415 := n2_
   have BK431 := n3_
   have HB := n4_
   clear n0_ n1_ n2_ n3_ n4_
   (try clear hb)
   (try clear hb2)
   (try clear hk)
   (try clear hi)
   obtain ⟨Ao41, co41, eo41⟩ := Kd.S_slice HO421.out
   (first | subst eo41 | (injection eo41 with f1_ f2_ f3_; have f4_ := f1_.symm; have f5_ := f3_.symm; clear f1_ f2_ f3_; subst f4_; subst f5_))
   refine hK.out _ _ ⟨(blk_cell BK414.out 0).trans rfl, (blk_cell BK414.out 1).trans rfl, (blk_cell BK415.out 0).trans rfl, (blk_cell BK415.out 1).trans rfl, (blk_cell BK415.out 2).trans rfl, (blk_cell BK415.out 3).trans rfl⟩ (fun hHeld => ?_)
   clear hK K
   refine norm_ (a' := ?_) ?_ ?_
   rotate_left
   ·show Act.put _ (some 30) _ = _
    simp only [Act.put, List.setIfInBounds_toArray, List.set_cons_zero, List.set_cons_succ, i64_w, i32_w]
    rfl
   refine one_ (i := 5) (N := some 32) (bN 12 575) rfl rfl (one_of HT_.out (by kernel_rfl)) (by decide) (fun K hK => ?_)
   refine goes_ Try.func16 (by kernel_rfl) rfl #[.agg #[.int .i64 t418, .slice Ao41 t419.length co41], .agg #[.int .i64 t422, .int .i64 t423, .string t424, .int .i64 t425], .string a2] (by rfl) rfl rfl (by (try simp only [List.map_toArray, List.map_cons, List.map_nil]); first | done | rfl | (simp only [List.length_drop, List.length_take]; rfl)) ?_
   with_reducible refine (spec_GetField.calls k t418 _ _ t419 t422 t423 t424 t425 a2 t426 t427 t428 t429 t430 _ ?side1 ?side2 A25.out).mono ?_
   (case side1 => exact sD ((Kd.S_reads' HO421.out).2.2))
   (case side2 => exact (Kd.S_reads' HO421.out).2.1)
   rintro e w42 ⟨rfl, hb⟩
   refine ⟨_, rfl, ?_⟩
   have n0_ := Aside0.mk (Kd.S_below (sI HO421.out) hb)
   have n1_ := sK BK414 hb
   have n2_ := sK BK415 hb
   have n3_ := sK BK431 hb
   have n4_ := sB HB hb
   clear HO421
   clear BK414
   clear BK415
   clear BK431
   clear HB
   have HO421 := n0_
   have BK414 := n1_
   have BK415 := n2_
   have BK431 := n3_
   have HB := n4_
   clear n0_ n1_ n2_ n3_ n4_
   (try clear hb)
   (try clear hb2)
   (try clear hk)
   (try clear hi)
   refine hK.out _ _ ⟨(blk_cell BK414.out 0).trans rfl, (blk_cell BK414.out 1).trans rfl, (blk_cell BK415.out 0).trans rfl, (blk_cell BK415.out 1).trans rfl, (blk_cell BK415.out 2).trans rfl, (blk_cell BK415.out 3).trans rfl⟩ (fun hHeld => ?_)
   clear hK K
   refine norm_ (a' := ?_) ?_ ?_
   rotate_left
   ·show Act.put _ (some 32) _ = _
    simp only [Act.put, List.setIfInBounds_toArray, List.set_cons_zero, List.set_cons_succ, i64_w, i32_w]
    rfl
   refine pure_ (i := 6) (N := some 26) (v := ?_) (a' := ?_) (bN 12 639) rfl rfl (any_of HT_.out (by kernel_rfl)) (fun _ _ _ h => h) (Or.inl ⟨by rfl, ?_⟩) ?_ ?_
   rotate_left
   ·intro w'
    go_simp
    with_reducible rfl
   rotate_left
   ·simp only [Act.put, List.setIfInBounds_toArray, List.set_cons_zero, List.set_cons_succ, i64_w, i32_w]
    rfl
   refine pure_ (i := 7) (N := some 33) (v := ?_) (a' := ?_) (bN 12 767) rfl rfl (any_of HT_.out (by kernel_rfl)) (fun _ _ _ h => h) (Or.inl ⟨by rfl, ?_⟩) ?_ ?_
   rotate_left
   ·intro w'
    go_simp
    with_reducible rfl
   rotate_left
   ·simp only [Act.put, List.setIfInBounds_toArray, List.set_cons_zero, List.set_cons_succ, i64_w, i32_w]
    rfl
   refine pure_ (i := 8) (N := some 34) (v := ?_) (a' := ?_) (bN 12 1023) rfl rfl (any_of HT_.out (by kernel_rfl)) (fun _ _ _ h => h) (Or.inl ⟨by rfl, ?_⟩) ?_ ?_
   rotate_left
   ·intro w'
    go_simp
    with_reducible rfl
   rotate_left
   ·simp only [Act.put, List.setIfInBounds_toArray, List.set_cons_zero, List.set_cons_succ, i64_w, i32_w]
    rfl
   exact norm_ (by simp only [putAll, Act.put, List.setIfInBounds_toArray, List.set_cons_zero, List.set_cons_succ]) (hCont (.slice Ao41 t419.length co41, gb431) _ ⟨hHeld, (by (with_reducible repeat (first | apply Kd.S_alloc | apply Kd.S_drewN | apply Kd.S_drew)); exact Kd.S_mono HO421.out (fun _ hk => hk.2)), (sT BK414.out), (sT BK415.out), (sT BK431.out), GW431.out, GE431.out, NB414_431.out, NB431_414.out, NB415_431.out, NB431_415.out, (by repeat (first | (with_reducible first | exact HB.out | apply below_alloc | apply pw_below_drewN | apply below_drew1 | refine below_set ?_ GE414.out | refine below_set ?_ GE415.out | refine below_set ?_ GE431.out) | exact HB.out))⟩)
 rintro ⟨v420, gb431⟩ w43 ⟨hS_, h0_, h1_, h2_, h3_, h4_, h5_, h6_, h7_, h8_, h9_, h10_⟩
 have n0_ : Aside0 (Kd.S k56 56 w43 w.heap.size (fun k_ => k_ ≠ gb431) v420 t419) := ⟨h0_⟩
 have n1_ : Aside0 (w43.heap[gb414]? = some (.cells #[.int .i64 a0_0, .slice A0_1 l0_1.length c0_1] 24 (0, 0))) := ⟨h1_⟩
 have n2_ : Aside0 (w43.heap[gb415]? = some (.cells #[.int .i64 a1_0, .int .i64 a1_1, .string a1_2, .int .i64 a1_3] 26 (0, 0))) := ⟨h2_⟩
 have n3_ : Aside0 (w43.heap[gb431]? = some (.cells #[.int .i64 0, .int .i64 0, .string (⟨#[]⟩ : ByteArray), .int .i64 0] 29 (0, 0))) := ⟨h3_⟩
 have n4_ : Aside0 (w.heap.size ≤ gb431) := ⟨h4_⟩
 have n5_ : Aside0 (w.heap.size ≤ gb431) := ⟨h5_⟩
 have n6_ : Aside0 (gb414 ≠ gb431) := ⟨h6_⟩
 have n7_ : Aside0 (gb431 ≠ gb414) := ⟨h7_⟩
 have n8_ : Aside0 (gb415 ≠ gb431) := ⟨h8_⟩
 have n9_ : Aside0 (gb431 ≠ gb415) := ⟨h9_⟩
 have n10_ : Aside0 (Below w.heap.size w w43) := ⟨h10_⟩
 clear BK414
 clear BK415
 clear HB
 clear h0_ h1_ h2_ h3_ h4_ h5_ h6_ h7_ h8_ h9_ h10_
 have HO421 := n0_
 have BK414 := n1_
 have BK415 := n2_
 have BK431 := n3_
 have GW431 := n4_
 have GE431 := n5_
 have NB414_431 := n6_
 have NB431_414 := n7_
 have NB415_431 := n8_
 have NB431_415 := n9_
 have HB := n10_
 clear n0_ n1_ n2_ n3_ n4_ n5_ n6_ n7_ n8_ n9_ n10_
 have hHeld : w43.cell? ⟨gb414, 0, none⟩ = some (.int .i64 a0_0) ∧ w43.cell? ⟨gb414, 1, none⟩ = some (.slice A0_1 l0_1.length c0_1) ∧ w43.cell? ⟨gb415, 0, none⟩ = some (.int .i64 a1_0) ∧ w43.cell? ⟨gb415, 1, none⟩ = some (.int .i64 a1_1) ∧ w43.cell? ⟨gb415, 2, none⟩ = some (.string a1_2) ∧ w43.cell? ⟨gb415, 3, none⟩ = some (.int .i64 a1_3) := hS_
 refine norm_ (a' := ?_) ?_ ?_
 rotate_left
 ·simp only [putAll, Act.put, List.setIfInBounds_toArray, List.set_cons_zero, List.set_cons_succ]
  rfl
 refine one_ (i := 10) (N := none) (bN 12 2047) rfl rfl (one_of HT_.out (by kernel_rfl)) (by decide) (fun K hK => ?_)
 have hs44 : w43.cell? ⟨gb431, 0, none⟩ = some (.int .i64 0) := (blk_cell BK431.out 0).trans rfl
 have hfs44 := blk_frozen BK431.out 0
 have hns44_0 := NB414_431.out
 have hns44_1 := NB415_431.out
 have hms44_0 := NB431_414.out
 have hms44_1 := NB431_415.out
 have hs45 : w43.cell? ⟨gb431, 1, none⟩ = some (.int .i64 0) := (blk_cell BK431.out 1).trans rfl
 have hfs45 := blk_frozen BK431.out 1
 have hns45_0 := NB414_431.out
 have hns45_1 := NB415_431.out
 have hms45_0 := NB431_414.out
 have hms45_1 := NB431_415.out
 have hs46 : w43.cell? ⟨gb431, 2, none⟩ = some (.string (⟨#[]⟩ : ByteArray)) := (blk_cell BK431.out 2).trans rfl
 have hfs46 := blk_frozen BK431.out 2
 have hns46_0 := NB414_431.out
 have hns46_1 := NB415_431.out
 have hms46_0 := NB431_414.out
 have hms46_1 := NB431_415.out
 have hs47 : w43.cell? ⟨gb431, 3, none⟩ = some (.int .i64 0) := (blk_cell BK431.out 3).trans rfl
 have hfs47 := blk_frozen BK431.out 3
 have hns47_0 := NB414_431.out
 have hns47_1 := NB415_431.out
 have hms47_0 := NB431_414.out
 have hms47_1 := NB431_415.out
 refine skip_ (w1 := ?_) (by rfl) rfl ?_ ?_
 rotate_left
 ·go_simp
  rfl
 refine hK.out _ _ ⟨(sQ4 (g := gb431) NB414_431.out (hHeld.1)), (sQ4 (g := gb431) NB414_431.out (hHeld.2.1)), (sQ4 (g := gb431) NB415_431.out (hHeld.2.2.1)), (sQ4 (g := gb431) NB415_431.out (hHeld.2.2.2.1)), (sQ4 (g := gb431) NB415_431.out (hHeld.2.2.2.2.1)), (sQ4 (g := gb431) NB415_431.out (hHeld.2.2.2.2.2))⟩ (fun hHeld => ?_)
 clear hK K
 refine pure_ (i := 11) (N := some 9) (v := ?_) (a' := ?_) (bN 12 4095) rfl rfl (any_of HT_.out (by kernel_rfl)) (fun _ _ _ h => h) (Or.inl ⟨by rfl, ?_⟩) ?_ ?_
 rotate_left
 ·intro w'
  go_simp
  with_reducible rfl
 rotate_left
 ·simp only [Act.put, List.setIfInBounds_toArray, List.set_cons_zero, List.set_cons_succ, i64_w, i32_w]
  rfl
 refine done_ (done_of HT_.out (by kernel_rfl)) ?_
 have hnb48 := NB414_431.out
 have hnc48 := NB431_414.out
 obtain ⟨hcz49_0, hcz49_1, hfz49_0, hfz49_1⟩ := cells2 BK414.out
 try go_wp2_with (first | ((with_reducible refine gate_callee (f := 17) rfl ?_); refine sC (some 36) Try.func17 #[.agg #[.int .i64 a0_0, .slice A0_1 l0_1.length c0_1]] (laws_toHeap.calls k a0_0 _ _ l0_1 t432 t433 _ ?side1 ?side2 A26.out) ?_; (case side1 => exact Kd.C_below HR0_1.out (by repeat (first | (with_reducible first | exact HB.out | apply below_alloc | apply pw_below_drewN | apply below_drew1 | refine below_set ?_ GE414.out | refine below_set ?_ GE415.out | refine below_set ?_ GE431.out) | exact HB.out))); (case side2 => exact HC0_1.out); rintro e w50 ⟨v434, rfl, ho0, hb⟩; refine ⟨_, rfl, ?_⟩; have n0_ := Aside0.mk (Kd.S_elder' (by (with_reducible repeat (first | apply Kd.S_alloc | apply Kd.S_drewN | apply Kd.S_drew)); exact (Kd.S_mono (Kd.S_far (p := ⟨gb431, 3, none⟩) (Kd.S_far (p := ⟨gb431, 2, none⟩) (Kd.S_far (p := ⟨gb431, 1, none⟩) (Kd.S_far (p := ⟨gb431, 0, none⟩) (Kd.S_mono HO421.out (fun k_ hk => (⟨hk, hk⟩ : _ ∧ k_ ≠ gb431))) (fun _ hk => hk.2) (.int .i64 t426)) (fun _ hk => hk.2) (.int .i64 t427)) (fun _ hk => hk.2) (.string t428)) (fun _ hk => hk.2) (.int .i64 t429)) (fun _ h_ => h_.1))) (Kd.S_base ho0) hb); have n1_ := Aside0.mk (Kd.S_lower (Kd.S_newB (Kd.S_new' ho0 (Kd.S_lt (by (with_reducible repeat (first | apply Kd.S_alloc | apply Kd.S_drewN | apply Kd.S_drew)); exact (Kd.S_mono (Kd.S_far (p := ⟨gb431, 3, none⟩) (Kd.S_far (p := ⟨gb431, 2, none⟩) (Kd.S_far (p := ⟨gb431, 1, none⟩) (Kd.S_far (p := ⟨gb431, 0, none⟩) (Kd.S_mono HO421.out (fun k_ hk => (⟨hk, hk⟩ : _ ∧ k_ ≠ gb431))) (fun _ hk => hk.2) (.int .i64 t426)) (fun _ hk => hk.2) (.int .i64 t427)) (fun _ hk => hk.2) (.string t428)) (fun _ hk => hk.2) (.int .i64 t429)) (fun _ h_ => h_.1))))) (g := gb431) (o := .cells #[.int .i64 t426, .int .i64 t427, .string t428, .int .i64 t429] 29 (0, 0)) (by exact sP4 (sT BK431.out))) (below_size (by repeat (first | (with_reducible first | exact HB.out | apply below_alloc | apply pw_below_drewN | apply below_drew1 | refine below_set ?_ GE414.out | refine below_set ?_ GE415.out | refine below_set ?_ GE431.out) | exact HB.out)))); have n2_ := Aside0.mk (blk_below (g := gb414) (o := .cells #[.int .i64 a0_0, .slice A0_1 l0_1.length c0_1] 24 (0, 0)) (by (with_reducible repeat (first | refine blk_drewN ?_ _ | refine blk_drew ?_ | refine blk_alloc ?_ _)); refine blk_far ?_ NB414_431.out _; (with_reducible repeat (first | refine blk_drewN ?_ _ | refine blk_drew ?_ | refine blk_alloc ?_ _)); refine blk_far ?_ NB414_431.out _; (with_reducible repeat (first | refine blk_drewN ?_ _ | refine blk_drew ?_ | refine blk_alloc ?_ _)); refine blk_far ?_ NB414_431.out _; (with_reducible repeat (first | refine blk_drewN ?_ _ | refine blk_drew ?_ | refine blk_alloc ?_ _)); refine blk_far ?_ NB414_431.out _; exact sT BK414.out) hb); have n3_ := Aside0.mk (blk_below (g := gb415) (o := .cells #[.int .i64 a1_0, .int .i64 a1_1, .string a1_2, .int .i64 a1_3] 26 (0, 0)) (by (with_reducible repeat (first | refine blk_drewN ?_ _ | refine blk_drew ?_ | refine blk_alloc ?_ _)); refine blk_far ?_ NB415_431.out _; (with_reducible repeat (first | refine blk_drewN ?_ _ | refine blk_drew ?_ | refine blk_alloc ?_ _)); refine blk_far ?_ NB415_431.out _; (with_reducible repeat (first | refine blk_drewN ?_ _ | refine blk_drew ?_ | refine blk_alloc ?_ _)); refine blk_far ?_ NB415_431.out _; (with_reducible repeat (first | refine blk_drewN ?_ _ | refine blk_drew ?_ | refine blk_alloc ?_ _)); refine blk_far ?_ NB415_431.out _; exact sT BK415.out) hb); have n4_ := Aside0.mk (blk_below (g := gb431) (o := .cells #[.int .i64 t426, .int .i64 t427, .string t428, .int .i64 t429] 29 (0, 0)) (by exact sP4 (sT BK431.out)) hb); have n5_ := sB HB hb; clear HO421; clear BK414; clear BK415; clear BK431; clear HB; have HO421 := n0_; have HO435 := n1_; have BK414 := n2_; have BK415 := n3_; have BK431 := n4_; have HB := n5_; clear n0_ n1_ n2_ n3_ n4_ n5_; (try clear hb); (try clear hb2); (try clear hk); (try clear hi); (try clear ho0)) | ((with_reducible refine gate_dst (N := 10) rfl ?_); refine sV (N := 10) (cs := #[.int .i64 0, .slice none 0 0]) (t := 34) ?_; intro gb436 hg w51 hbox hb; have n0_ := Aside0.mk (Kd.S_below (sI HO421.out) hb); have n1_ := Aside0.mk (Kd.S_below (sI HO435.out) hb); have n2_ := sK BK414 hb; have n3_ := sK BK415 hb; have n4_ := sK BK431 hb; have n5_ := sB HB hb; have n6_ := Aside0.mk (hbox); have n7_ := sG HB hg; have n8_ := sG HB hg; have n9_ := sN BK414 hg; have n10_ := sM BK414 hg; have n11_ := sN BK415 hg; have n12_ := sM BK415 hg; have n13_ := sN BK431 hg; have n14_ := sM BK431 hg; clear HO421; clear HO435; clear BK414; clear BK415; clear BK431; clear HB; have HO421 := n0_; have HO435 := n1_; have BK414 := n2_; have BK415 := n3_; have BK431 := n4_; have HB := n5_; have BK436 := n6_; have GW436 := n7_; have GE436 := n8_; have NB414_436 := n9_; have NB436_414 := n10_; have NB415_436 := n11_; have NB436_415 := n12_; have NB431_436 := n13_; have NB436_431 := n14_; clear n0_ n1_ n2_ n3_ n4_ n5_ n6_ n7_ n8_ n9_ n10_ n11_ n12_ n13_ n14_; clear hb hbox hg; have hnb52 := NB436_414.out; have hnc52 := NB414_436.out; have hnb53 := NB436_415.out; have hnc53 := NB415_436.out; have hnb54 := NB436_431.out; have hnc54 := NB431_436.out; obtain ⟨hcz55_0, hcz55_1, hfz55_0, hfz55_1⟩ := cells2 BK436.out; obtain ⟨Ao56, co56, eo56⟩ := Kd.S_slice HO435.out; subst eo56))
 have n0_ : Aside0 (Kd.S k56 56 ((w51.setCell ⟨gb436, 0, none⟩ (.int .i64 t432)).setCell ⟨gb436, 1, none⟩ (.slice Ao56 t433.length co56)) w.heap.size (fun k_ => some k_ ≠ (.slice Ao56 t433.length co56 : Value).ownBlock ∧ k_ ≠ gb431) v420 t419) := ⟨by (with_reducible repeat (first | apply Kd.S_alloc | apply Kd.S_drewN | apply Kd.S_drew)); exact Kd.S_mono (Kd.S_far (p := ⟨gb436, 1, none⟩) (Kd.S_far (p := ⟨gb436, 0, none⟩) (Kd.S_types HO421.out BK436.out (by decide)) (fun _ hk => hk.2) (.int .i64 t432)) (fun _ hk => hk.2) (.slice Ao56 t433.length co56)) (fun _ hk => ⟨hk.1.2, hk.1.1⟩)⟩
 have n1_ : Aside0 (Kd.S k56 56 ((w51.setCell ⟨gb436, 0, none⟩ (.int .i64 t432)).setCell ⟨gb436, 1, none⟩ (.slice Ao56 t433.length co56)) w.heap.size (fun k_ => some k_ ≠ (v420 : Value).ownBlock ∧ k_ ≠ gb431) (.slice Ao56 t433.length co56) t433) := ⟨by (with_reducible repeat (first | apply Kd.S_alloc | apply Kd.S_drewN | apply Kd.S_drew)); exact Kd.S_mono (Kd.S_far (p := ⟨gb436, 1, none⟩) (Kd.S_far (p := ⟨gb436, 0, none⟩) (Kd.S_types HO435.out BK436.out (by decide)) (fun _ hk => hk.2) (.int .i64 t432)) (fun _ hk => hk.2) (.slice Ao56 t433.length co56)) (fun _ hk => ⟨hk.1.1.2, hk.1.2⟩)⟩
 have n2_ : Aside0 (((w51.setCell ⟨gb436, 0, none⟩ (.int .i64 t432)).setCell ⟨gb436, 1, none⟩ (.slice Ao56 t433.length co56)).heap[gb414]? = some (.cells #[.int .i64 a0_0, .slice A0_1 l0_1.length c0_1] 24 (0, 0))) := ⟨by (with_reducible repeat (first | refine blk_drewN ?_ _ | refine blk_drew ?_ | refine blk_alloc ?_ _)); refine blk_far ?_ NB414_436.out _; (with_reducible repeat (first | refine blk_drewN ?_ _ | refine blk_drew ?_ | refine blk_alloc ?_ _)); refine blk_far ?_ NB414_436.out _; exact sT BK414.out⟩
 have n3_ : Aside0 (((w51.setCell ⟨gb436, 0, none⟩ (.int .i64 t432)).setCell ⟨gb436, 1, none⟩ (.slice Ao56 t433.length co56)).heap[gb415]? = some (.cells #[.int .i64 a1_0, .int .i64 a1_1, .string a1_2, .int .i64 a1_3] 26 (0, 0))) := ⟨by (with_reducible repeat (first | refine blk_drewN ?_ _ | refine blk_drew ?_ | refine blk_alloc ?_ _)); refine blk_far ?_ NB415_436.out _; (with_reducible repeat (first | refine blk_drewN ?_ _ | refine blk_drew ?_ | refine blk_alloc ?_ _)); refine blk_far ?_ NB415_436.out _; exact sT BK415.out⟩
 have n4_ : Aside0 (((w51.setCell ⟨gb436, 0, none⟩ (.int .i64 t432)).setCell ⟨gb436, 1, none⟩ (.slice Ao56 t433.length co56)).heap[gb431]? = some (.cells #[.int .i64 t426, .int .i64 t427, .string t428, .int .i64 t429] 29 (0, 0))) := ⟨by (with_reducible repeat (first | refine blk_drewN ?_ _ | refine blk_drew ?_ | refine blk_alloc ?_ _)); refine blk_far ?_ NB431_436.out _; (with_reducible repeat (first | refine blk_drewN ?_ _ | refine blk_drew ?_ | refine blk_alloc ?_ _)); refine blk_far ?_ NB431_436.out _; exact sT BK431.out⟩
 have n5_ : Aside0 (((w51.setCell ⟨gb436, 0, none⟩ (.int .i64 t432)).setCell ⟨gb436, 1, none⟩ (.slice Ao56 t433.length co56)).heap[gb436]? = some (.cells #[.int .i64 t432, .slice Ao56 t433.length co56] 34 (0, 0))) := ⟨sP2 (sT BK436.out)⟩
 have n6_ : Aside0 (Below w.heap.size w ((w51.setCell ⟨gb436, 0, none⟩ (.int .i64 t432)).setCell ⟨gb436, 1, none⟩ (.slice Ao56 t433.length co56))) := ⟨sb⟩
 (try clear HO421)
 (try clear HO435)
 (try clear BK414)
 (try clear BK415)
 (try clear BK431)
 (try clear BK436)
 (try clear HB)
 generalize ((w51.setCell ⟨gb436, 0, none⟩ (.int .i64 t432)).setCell ⟨gb436, 1, none⟩ (.slice Ao56 t433.length co56)) = w57 at n0_ n1_ n2_ n3_ n4_ n5_ n6_ ⊢
 have HO421 := n0_
 have HO435 := n1_
 have BK414 := n2_
 have BK415 := n3_
 have BK431 := n4_
 have BK436 := n5_
 have HB := n6_
 clear n0_ n1_ n2_ n3_ n4_ n5_ n6_
 have n0_ := Aside0.mk (Kd.S_drew HO421.out)
 have n1_ := Aside0.mk (Kd.S_drew HO435.out)
 have n2_ := Aside0.mk (blk_drew BK414.out)
 have n3_ := Aside0.mk (blk_drew BK415.out)
 have n4_ := Aside0.mk (blk_drew BK431.out)
 have n5_ := Aside0.mk (blk_drew BK436.out)
 have n6_ := Aside0.mk (below_drew1 HB.out)
 clear HO421
 clear HO435
 clear BK414
 clear BK415
 clear BK431
 clear BK436
 clear HB
 have HO421 := n0_
 have HO435 := n1_
 have BK414 := n2_
 have BK415 := n3_
 have BK431 := n4_
 have BK436 := n5_
 have HB := n6_
 clear n0_ n1_ n2_ n3_ n4_ n5_ n6_
 refine start_ (n := 11) (S := fun w' => w'.cell? ⟨gb436, 0, none⟩ = some (.int .i64 t432) ∧ w'.cell? ⟨gb436, 1, none⟩ = some (.slice Ao56 t433.length co56) ∧ w'.cell? ⟨gb415, 0, none⟩ = some (.int .i64 a1_0) ∧ w'.cell? ⟨gb415, 1, none⟩ = some (.int .i64 a1_1) ∧ w'.cell? ⟨gb415, 2, none⟩ = some (.string a1_2) ∧ w'.cell? ⟨gb415, 3, none⟩ = some (.int .i64 a1_3)) (ds := []) #[false, false, false, false, false, false, false, false, false, false, false] (by kernel_rfl) rfl rfl ⟨(blk_cell BK436.out 0).trans rfl, (blk_cell BK436.out 1).trans rfl, (blk_cell BK415.out 0).trans rfl, (blk_cell BK415.out 1).trans rfl, (blk_cell BK415.out 2).trans rfl, (blk_cell BK415.out 3).trans rfl⟩ (fun hHeld => ?_); refine with_tabW laws_FnExactGetField.tab12 laws_FnExactGetField.bits12 (fun HT_ HW_ => ?_)
 generalize w57.drew = w58 at HO421 HO435 BK414 BK415 BK431 BK436 HB hHeld ⊢
 refine pure_ (i := 3) (N := some 41) (v := ?_) (a' := ?_) (bN 11 8) rfl rfl (any_of HT_.out (by kernel_rfl)) (fun _ _ _ h => h) (Or.inl ⟨by rfl, ?_⟩) ?_ ?_
 rotate_left
 ·intro w'
  go_simp
  with_reducible rfl
 rotate_left
 ·simp only [Act.put, List.setIfInBounds_toArray, List.set_cons_zero, List.set_cons_succ, i64_w, i32_w]
  rfl
 refine take_ (i := 0) (N := some 38) (v := ?_) (a' := ?_) (bN 11 9) rfl rfl (take_ofW HT_.out HW_.out (by kernel_rfl)) (fun _ _ _ h => h) (Or.inl ⟨by rfl, ?_⟩) hHeld ?_ ?_
 rotate_left
 ·rintro w' ⟨s0, s1, s2, s3, s4, s5⟩
  go_simp
  with_reducible rfl
 rotate_left
 ·simp only [Act.put, List.setIfInBounds_toArray, List.set_cons_zero, List.set_cons_succ, i64_w, i32_w]
  rfl
 refine take_ (i := 1) (N := some 39) (v := ?_) (a' := ?_) (bN 11 11) rfl rfl (take_ofW HT_.out HW_.out (by kernel_rfl)) (fun _ _ _ h => h) (Or.inl ⟨by rfl, ?_⟩) hHeld ?_ ?_
 rotate_left
 ·rintro w' ⟨s0, s1, s2, s3, s4, s5⟩
  go_simp
  with_reducible rfl
 rotate_left
 ·simp only [Act.put, List.setIfInBounds_toArray, List.set_cons_zero, List.set_cons_succ, i64_w, i32_w]
  rfl
 refine join_ (σ := Nat) 2 (bN 11 511) (fun s_ => [(40, .agg #[.int .i64 t437, .int .i64 t438, .string t439, .int .i64 t440]), (42, .tuple #[.agg #[.int .i64 t441, .int .i64 t442, .string t443, .int .i64 t444], .int .i64 t445]), (11, .pointer (some ⟨s_, 0, none⟩)), (37, .tuple #[.agg #[.int .i64 t441, .int .i64 t442, .string t443, .int .i64 t444], .int .i64 t445]), (43, .agg #[.int .i64 t441, .int .i64 t442, .string t443, .int .i64 t444]), (44, .int .i64 t445)]) (fun s_ w' => (w'.cell? ⟨gb436, 0, none⟩ = some (.int .i64 t432) ∧ w'.cell? ⟨gb436, 1, none⟩ = some (.slice Ao56 t433.length co56) ∧ w'.cell? ⟨gb415, 0, none⟩ = some (.int .i64 a1_0) ∧ w'.cell? ⟨gb415, 1, none⟩ = some (.int .i64 a1_1) ∧ w'.cell? ⟨gb415, 2, none⟩ = some (.string a1_2) ∧ w'.cell? ⟨gb415, 3, none⟩ = some (.int .i64 a1_3)) ∧ (Kd.S k56 56 w' w.heap.size (fun k_ => some k_ ≠ (.slice Ao56 t433.length co56 : Value).ownBlock ∧ k_ ≠ gb431 ∧ k_ ≠ s_) v420 t419) ∧ (Kd.S k56 56 w' w.heap.size (fun k_ => some k_ ≠ (v420 : Value).ownBlock ∧ k_ ≠ gb431 ∧ k_ ≠ s_) (.slice Ao56 t433.length co56) t433) ∧ (w'.heap[gb414]? = some (.cells #[.int .i64 a0_0, .slice A0_1 l0_1.length c0_1] 24 (0, 0))) ∧ (w'.heap[gb415]? = some (.cells #[.int .i64 a1_0, .int .i64 a1_1, .string a1_2, .int .i64 a1_3] 26 (0, 0))) ∧ (w'.heap[gb431]? = some (.cells #[.int .i64 t426, .int .i64 t427, .string t428, .int .i64 t429] 29 (0, 0))) ∧ (w'.heap[gb436]? = some (.cells #[.int .i64 t432, .slice Ao56 t433.length co56] 34 (0, 0))) ∧ (w'.heap[s_]? = some (.cells #[.int .i64 0, .int .i64 0, .string (⟨#[]⟩ : ByteArray), .int .i64 0] 29 (0, 0))) ∧ (w.heap.size ≤ s_) ∧ (w.heap.size ≤ s_) ∧ (gb414 ≠ s_) ∧ (s_ ≠ gb414) ∧ (gb415 ≠ s_) ∧ (s_ ≠ gb415) ∧ (gb431 ≠ s_) ∧ (s_ ≠ gb431) ∧ (gb436 ≠ s_) ∧ (s_ ≠ gb436) ∧ (Below w.heap.size w w')) ?_ ?_
 rotate_left
 ·intro hCont
  refine two_ (i := 2) (j := 8) (Ni := some 40) (Nj := some 11) (bN 11 15) (bN 11 267) rfl rfl rfl rfl (two_of HT_.out (by kernel_rfl)) (by decide) (by decide) (fun K hK => ?_) (fun K hK => ?_)
  ·skip
   refine goes_ Try.func18 (by kernel_rfl) rfl #[.agg #[.int .i64 a1_0, .int .i64 a1_1, .string a1_2, .int .i64 a1_3]] (by rfl) rfl rfl (by (try simp only [List.map_toArray, List.map_cons, List.map_nil]); first | done | rfl | (simp only [List.length_drop, List.length_take]; rfl)) ?_
   with_reducible refine (laws_toValue.calls a1_0 a1_1 a1_2 a1_3 t437 t438 t439 t440 _ A27.out).mono ?_
   rintro e w59 ⟨rfl, hb⟩
   refine ⟨_, rfl, ?_⟩
   have n0_ := Aside0.mk (Kd.S_below (sI HO421.out) hb)
   have n1_ := Aside0.mk (Kd.S_below (sI HO435.out) hb)
   have n2_ := sK BK414 hb
   have n3_ := sK BK415 hb
   have n4_ := sK BK431 hb
   have n5_ := sK BK436 hb
   have n6_ := sB HB hb
   clear HO421
   clear HO435
   clear BK414
   clear BK415
   clear BK431
   clear BK436
   clear HB
   have HO421 := n0_
   have HO435 := n1_
   have BK414 := n2_
   have BK415 := n3_
   have BK431 := n4_
   have BK436 := n5_
   have HB := n6_
   clear n0_ n1_ n2_ n3_ n4_ n5_ n6_
   (try clear hb)
   (try clear hb2)
   (try clear hk)
   (try clear hi)
   refine hK.out _ _ ⟨(blk_cell BK436.out 0).trans rfl, (blk_cell BK436.out 1).trans rfl, (blk_cell BK415.out 0).trans rfl, (blk_cell BK415.out 1).trans rfl, (blk_cell BK415.out 2).trans rfl, (blk_cell BK415.out 3).trans rfl⟩ (fun hHeld => ?_)
   clear hK K
   refine norm_ (a' := ?_) ?_ ?_
   rotate_left
   ·show Act.put _ (some 40) _ = _
    simp only [Act.put, List.setIfInBounds_toArray, List.set_cons_zero, List.set_cons_succ, i64_w, i32_w]
    rfl
   refine two_ (i := 4) (j := 8) (Ni := some 42) (Nj := some 11) (bN 11 31) (bN 11 271) rfl rfl rfl rfl (two_of HT_.out (by kernel_rfl)) (by decide) (by decide) (fun K hK => ?_) (fun K hK => ?_)
   ·skip
    refine goes_ Try.func19 (by kernel_rfl) rfl #[.agg #[.int .i64 t432, .slice Ao56 t433.length co56], .agg #[.int .i64 t437, .int .i64 t438, .string t439, .int .i64 t440], .string a2] (by rfl) rfl rfl (by (try simp only [List.map_toArray, List.map_cons, List.map_nil]); first | done | rfl | (simp only [List.length_drop, List.length_take]; rfl)) ?_
    with_reducible refine (impl_GetField.calls k t432 _ _ t433 t437 t438 t439 t440 a2 t441 t442 t443 t444 t445 _ ?side1 ?side2 A28.out).mono ?_
    (case side1 => exact sD ((Kd.S_reads' HO435.out).2.2))
    (case side2 => exact (Kd.S_reads' HO435.out).2.1)
    rintro e w60 ⟨rfl, hb⟩
    refine ⟨_, rfl, ?_⟩
    have n0_ := Aside0.mk (Kd.S_below (sI HO421.out) hb)
    have n1_ := Aside0.mk (Kd.S_below (sI HO435.out) hb)
    have n2_ := sK BK414 hb
    have n3_ := sK BK415 hb
    have n4_ := sK BK431 hb
    have n5_ := sK BK436 hb
    have n6_ := sB HB hb
    clear HO421
    clear HO435
    clear BK414
    clear BK415
    clear BK431
    clear BK436
    clear HB
    have HO421 := n0_
    have HO435 := n1_
    have BK414 := n2_
    have BK415 := n3_
    have BK431 := n4_
    have BK436 := n5_
    have HB := n6_
    clear n0_ n1_ n2_ n3_ n4_ n5_ n6_
    (try clear hb)
    (try clear hb2)
    (try clear hk)
    (try clear hi)
    refine hK.out _ _ ⟨(blk_cell BK436.out 0).trans rfl, (blk_cell BK436.out 1).trans rfl, (blk_cell BK415.out 0).trans rfl, (blk_cell BK415.out 1).trans rfl, (blk_cell BK415.out 2).trans rfl, (blk_cell BK415.out 3).trans rfl⟩ (fun hHeld => ?_)
    clear hK K
    refine norm_ (a' := ?_) ?_ ?_
    rotate_left
    ·show Act.put _ (some 42) _ = _
     simp only [Act.put, List.setIfInBounds_toArray, List.set_cons_zero, List.set_cons_succ, i64_w, i32_w]
     rfl
    refine pure_ (i := 5) (N := some 37) (v := ?_) (a' := ?_) (bN 11 63) rfl rfl (any_of HT_.out (by kernel_rfl)) (fun _ _ _ h => h) (Or.inl ⟨by rfl, ?_⟩) ?_ ?_
    rotate_left
    ·intro w'
     go_simp
     with_reducible rfl
    rotate_left
    ·simp only [Act.put, List.setIfInBounds_toArray, List.set_cons_zero, List.set_cons_succ, i64_w, i32_w]
     rfl
    refine pure_ (i := 6) (N := some 43) (v := ?_) (a' := ?_) (bN 11 127) rfl rfl (any_of HT_.out (by kernel_rfl)) (fun _ _ _ h => h) (Or.inl ⟨by rfl, ?_⟩) ?_ ?_
    rotate_left
    ·intro w'
     go_simp
     with_reducible rfl
    rotate_left
    ·simp only [Act.put, List.setIfInBounds_toArray, List.set_cons_zero, List.set_cons_succ, i64_w, i32_w]
     rfl
    refine pure_ (i := 7) (N := some 44) (v := ?_) (a' := ?_) (bN 11 255) rfl rfl (any_of HT_.out (by kernel_rfl)) (fun _ _ _ h => h) (Or.inl ⟨by rfl, ?_⟩) ?_ ?_
    rotate_left
    ·intro w'
     go_simp
     with_reducible rfl
    rotate_left
    ·simp only [Act.put, List.setIfInBounds_toArray, List.set_cons_zero, List.set_cons_succ, i64_w, i32_w]
     rfl
    refine one_ (i := 8) (N := some 11) (bN 11 511) rfl rfl (one_of HT_.out (by kernel_rfl)) (by decide) (fun K hK => ?_)
    refine box_step ?hg (N := 11) ?hd (cs := #[.int .i64 0, .int .i64 0, .string (⟨#[]⟩ : ByteArray), .int .i64 0]) (t := 29) ?hr ?_; (case hd => rfl); (case hg => rfl); (case hr => first | (go_simp; done) | (go_simp; rfl))
    intro gb446 hg w61 hbox hb
    have n0_ := Aside0.mk (Kd.S_below (Kd.S_elderB (sI HO421.out) gb446 (Nat.le_of_eq hg.symm)) hb)
    have n1_ := Aside0.mk (Kd.S_below (Kd.S_elderB (sI HO435.out) gb446 (Nat.le_of_eq hg.symm)) hb)
    have n2_ := sK BK414 hb
    have n3_ := sK BK415 hb
    have n4_ := sK BK431 hb
    have n5_ := sK BK436 hb
    have n6_ := sB HB hb
    have n7_ := Aside0.mk (hbox)
    have n8_ := sG HB hg
    have n9_ := sG HB hg
    have n10_ := sN BK414 hg
    have n11_ := sM BK414 hg
    have n12_ := sN BK415 hg
    have n13_ := sM BK415 hg
    have n14_ := sN BK431 hg
    have n15_ := sM BK431 hg
    have n16_ := sN BK436 hg
    have n17_ := sM BK436 hg
    clear HO421
    clear HO435
    clear BK414
    clear BK415
    clear BK431
    clear BK436
    clear HB
    have HO421 := n0_
    have HO435 := n1_
    have BK414 := n2_
    have BK415 := n3_
    have BK431 := n4_
    have BK436 := n5_
    have HB := n6_
    have BK446 := n7_
    have GW446 := n8_
    have GE446 := n9_
    have NB414_446 := n10_
    have NB446_414 := n11_
    have NB415_446 := n12_
    have NB446_415 := n13_
    have NB431_446 := n14_
    have NB446_431 := n15_
    have NB436_446 := n16_
    have NB446_436 := n17_
    clear n0_ n1_ n2_ n3_ n4_ n5_ n6_ n7_ n8_ n9_ n10_ n11_ n12_ n13_ n14_ n15_ n16_ n17_
    clear hb hbox hg
    refine hK.out _ _ ⟨(blk_cell BK436.out 0).trans rfl, (blk_cell BK436.out 1).trans rfl, (blk_cell BK415.out 0).trans rfl, (blk_cell BK415.out 1).trans rfl, (blk_cell BK415.out 2).trans rfl, (blk_cell BK415.out 3).trans rfl⟩ (fun hHeld => ?_)
    clear hK K
    refine norm_ (a' := ?_) ?_ ?_
    rotate_left
    ·show Act.put _ (some 11) _ = _
     simp only [Act.put, List.setIfInBounds_toArray, List.set_cons_zero, List.set_cons_succ, i64_w, i32_w]
     rfl
    exact norm_ (by simp only [putAll, Act.put, List.setIfInBounds_toArray, List.set_cons_zero, List.set_cons_succ]) (hCont (gb446) _ ⟨hHeld, (by (with_reducible repeat (first | apply Kd.S_alloc | apply Kd.S_drewN | apply Kd.S_drew)); exact Kd.S_mono HO421.out (fun _ hk => ⟨hk.1.1, ⟨hk.1.2, hk.2⟩⟩)), (by (with_reducible repeat (first | apply Kd.S_alloc | apply Kd.S_drewN | apply Kd.S_drew)); exact Kd.S_mono HO435.out (fun _ hk => ⟨hk.1.1, ⟨hk.1.2, hk.2⟩⟩)), (sT BK414.out), (sT BK415.out), (sT BK431.out), (sT BK436.out), (sT BK446.out), GW446.out, GE446.out, NB414_446.out, NB446_414.out, NB415_446.out, NB446_415.out, NB431_446.out, NB446_431.out, NB436_446.out, NB446_436.out, (by repeat (first | (with_reducible first | exact HB.out | apply below_alloc | apply pw_below_drewN | apply below_drew1 | refine below_set ?_ GE414.out | refine below_set ?_ GE415.out | refine below_set ?_ GE431.out | refine below_set ?_ GE436.out | refine below_set ?_ GE446.out) | exact HB.out))⟩)
   ·skip
    refine box_step ?hg (N := 11) ?hd (cs := #[.int .i64 0, .int .i64 0, .string (⟨#[]⟩ : ByteArray), .int .i64 0]) (t := 29) ?hr ?_; (case hd => rfl); (case hg => rfl); (case hr => first | (go_simp; done) | (go_simp; rfl))
    intro gb446 hg w60 hbox hb
    have n0_ := Aside0.mk (Kd.S_below (Kd.S_elderB (sI HO421.out) gb446 (Nat.le_of_eq hg.symm)) hb)
    have n1_ := Aside0.mk (Kd.S_below (Kd.S_elderB (sI HO435.out) gb446 (Nat.le_of_eq hg.symm)) hb)
    have n2_ := sK BK414 hb
    have n3_ := sK BK415 hb
    have n4_ := sK BK431 hb
    have n5_ := sK BK436 hb
    have n6_ := sB HB hb
    have n7_ := Aside0.mk (hbox)
    have n8_ := sG HB hg
    have n9_ := sG HB hg
    have n10_ := sN BK414 hg
    have n11_ := sM BK414 hg
    have n12_ := sN BK415 hg
    have n13_ := sM BK415 hg
    have n14_ := sN BK431 hg
    have n15_ := sM BK431 hg
    have n16_ := sN BK436 hg
    have n17_ := sM BK436 hg
    clear HO421
    clear HO435
    clear BK414
    clear BK415
    clear BK431
    clear BK436
    clear HB
    have HO421 := n0_
    have HO435 := n1_
    have BK414 := n2_
    have BK415 := n3_
    have BK431 := n4_
    have BK436 := n5_
    have HB := n6_
    have BK446 := n7_
    have GW446 := n8_
    have GE446 := n9_
    have NB414_446 := n10_
    have NB446_414 := n11_
    have NB415_446 := n12_
    have NB446_415 := n13_
    have NB431_446 := n14_
    have NB446_431 := n15_
    have NB436_446 := n16_
    have NB446_436 := n17_
    clear n0_ n1_ n2_ n3_ n4_ n5_ n6_ n7_ n8_ n9_ n10_ n11_ n12_ n13_ n14_ n15_ n16_ n17_
    clear hb hbox hg
    refine hK.out _ _ ⟨(blk_cell BK436.out 0).trans rfl, (blk_cell BK436.out 1).trans rfl, (blk_cell BK415.out 0).trans rfl, (blk_cell BK415.out 1).trans rfl, (blk_cell BK415.out 2).trans rfl, (blk_cell BK415.out 3).trans rfl⟩ (fun hHeld => ?_)
    clear hK K
    refine norm_ (a' := ?_) ?_ ?_
    rotate_left
    ·show Act.put _ (some 11) _ = _
     simp only [Act.put, List.setIfInBounds_toArray, List.set_cons_zero, List.set_cons_succ, i64_w, i32_w]
     rfl
    refine one_ (i := 4) (N := some 42) (bN 11 287) rfl rfl (one_of HT_.out (by kernel_rfl)) (by decide) (fun K hK => ?_)
    refine goes_ Try.func19 (by kernel_rfl) rfl #[.agg #[.int .i64 t432, .slice Ao56 t433.length co56], .agg #[.int .i64 t437, .int .i64 t438, .string t439, .int .i64 t440], .string a2] (by rfl) rfl rfl (by (try simp only [List.map_toArray, List.map_cons, List.map_nil]); first | done | rfl | (simp only [List.length_drop, List.length_take]; rfl)) ?_
    with_reducible refine (impl_GetField.calls k t432 _ _ t433 t437 t438 t439 t440 a2 t441 t442 t443 t444 t445 _ ?side1 ?side2 A28.out).mono ?_
    (case side1 => exact sD ((Kd.S_reads' HO435.out).2.2))
    (case side2 => exact (Kd.S_reads' HO435.out).2.1)
    rintro e w61 ⟨rfl, hb⟩
    refine ⟨_, rfl, ?_⟩
    have n0_ := Aside0.mk (Kd.S_below (sI HO421.out) hb)
    have n1_ := Aside0.mk (Kd.S_below (sI HO435.out) hb)
    have n2_ := sK BK414 hb
    have n3_ := sK BK415 hb
    have n4_ := sK BK431 hb
    have n5_ := sK BK436 hb
    have n6_ := sK BK446 hb
    have n7_ := sB HB hb
    clear HO421
    clear HO435
    clear BK414
    clear BK415
    clear BK431
    clear BK436
    clear BK446
    clear HB
    have HO421 := n0_
    have HO435 := n1_
    have BK414 := n2_
    have BK415 := n3_
    have BK431 := n4_
    have BK436 := n5_
    have BK446 := n6_
    have HB := n7_
    clear n0_ n1_ n2_ n3_ n4_ n5_ n6_ n7_
    (try clear hb)
    (try clear hb2)
    (try clear hk)
    (try clear hi)
    refine hK.out _ _ ⟨(blk_cell BK436.out 0).trans rfl, (blk_cell BK436.out 1).trans rfl, (blk_cell BK415.out 0).trans rfl, (blk_cell BK415.out 1).trans rfl, (blk_cell BK415.out 2).trans rfl, (blk_cell BK415.out 3).trans rfl⟩ (fun hHeld => ?_)
    clear hK K
    refine norm_ (a' := ?_) ?_ ?_
    rotate_left
    ·show Act.put _ (some 42) _ = _
     simp only [Act.put, List.setIfInBounds_toArray, List.set_cons_zero, List.set_cons_succ, i64_w, i32_w]
     rfl
    refine pure_ (i := 5) (N := some 37) (v := ?_) (a' := ?_) (bN 11 319) rfl rfl (any_of HT_.out (by kernel_rfl)) (fun _ _ _ h => h) (Or.inl ⟨by rfl, ?_⟩) ?_ ?_
    rotate_left
    ·intro w'
     go_simp
     with_reducible rfl
    rotate_left
    ·simp only [Act.put, List.setIfInBounds_toArray, List.set_cons_zero, List.set_cons_succ, i64_w, i32_w]
     rfl
    refine pure_ (i := 6) (N := some 43) (v := ?_) (a' := ?_) (bN 11 383) rfl rfl (any_of HT_.out (by kernel_rfl)) (fun _ _ _ h => h) (Or.inl ⟨by rfl, ?_⟩) ?_ ?_
    rotate_left
    ·intro w'
     go_simp
     with_reducible rfl
    rotate_left
    ·simp only [Act.put, List.setIfInBounds_toArray, List.set_cons_zero, List.set_cons_succ, i64_w, i32_w]
     rfl
    refine pure_ (i := 7) (N := some 44) (v := ?_) (a' := ?_) (bN 11 511) rfl rfl (any_of HT_.out (by kernel_rfl)) (fun _ _ _ h => h) (Or.inl ⟨by rfl, ?_⟩) ?_ ?_
    rotate_left
    ·intro w'
     go_simp
     with_reducible rfl
    rotate_left
    ·simp only [Act.put, List.setIfInBounds_toArray, List.set_cons_zero, List.set_cons_succ, i64_w, i32_w]
     rfl
    exact norm_ (by simp only [putAll, Act.put, List.setIfInBounds_toArray, List.set_cons_zero, List.set_cons_succ]) (hCont (gb446) _ ⟨hHeld, (by (with_reducible repeat (first | apply Kd.S_alloc | apply Kd.S_drewN | apply Kd.S_drew)); exact Kd.S_mono HO421.out (fun _ hk => ⟨hk.1.1, ⟨hk.1.2, hk.2⟩⟩)), (by (with_reducible repeat (first | apply Kd.S_alloc | apply Kd.S_drewN | apply Kd.S_drew)); exact Kd.S_mono HO435.out (fun _ hk => ⟨hk.1.1, ⟨hk.1.2, hk.2⟩⟩)), (sT BK414.out), (sT BK415.out), (sT BK431.out), (sT BK436.out), (sT BK446.out), GW446.out, GE446.out, NB414_446.out, NB446_414.out, NB415_446.out, NB446_415.out, NB431_446.out, NB446_431.out, NB436_446.out, NB446_436.out, (by repeat (first | (with_reducible first | exact HB.out | apply below_alloc | apply pw_below_drewN | apply below_drew1 | refine below_set ?_ GE414.out | refine below_set ?_ GE415.out | refine below_set ?_ GE431.out | refine below_set ?_ GE436.out | refine below_set ?_ GE446.out) | exact HB.out))⟩)
  ·skip
   refine box_step ?hg (N := 11) ?hd (cs := #[.int .i64 0, .int .i64 0, .string (⟨#[]⟩ : ByteArray), .int .i64 0]) (t := 29) ?hr ?_; (case hd => rfl); (case hg => rfl); (case hr => first | (go_simp; done) | (go_simp; rfl))
   intro gb446 hg w59 hbox hb
   have n0_ := Aside0.mk (Kd.S_below (Kd.S_elderB (sI HO421.out) gb446 (Nat.le_of_eq hg.symm)) hb)
   have n1_ := Aside0.mk (Kd.S_below (Kd.S_elderB (sI HO435.out) gb446 (Nat.le_of_eq hg.symm)) hb)
   have n2_ := sK BK414 hb
   have n3_ := sK BK415 hb
   have n4_ := sK BK431 hb
   have n5_ := sK BK436 hb
   have n6_ := sB HB hb
   have n7_ := Aside0.mk (hbox)
   have n8_ := sG HB hg
   have n9_ := sG HB hg
   have n10_ := sN BK414 hg
   have n11_ := sM BK414 hg
   have n12_ := sN BK415 hg
   have n13_ := sM BK415 hg
   have n14_ := sN BK431 hg
   have n15_ := sM BK431 hg
   have n16_ := sN BK436 hg
   have n17_ := sM BK436 hg
   clear HO421
   clear HO435
   clear BK414
   clear BK415
   clear BK431
   clear BK436
   clear HB
   have HO421 := n0_
   have HO435 := n1_
   have BK414 := n2_
   have BK415 := n3_
   have BK431 := n4_
   have BK436 := n5_
   have HB := n6_
   have BK446 := n7_
   have GW446 := n8_
   have GE446 := n9_
   have NB414_446 := n10_
   have NB446_414 := n11_
   have NB415_446 := n12_
   have NB446_415 := n13_
   have NB431_446 := n14_
   have NB446_431 := n15_
   have NB436_446 := n16_
   have NB446_436 := n17_
   clear n0_ n1_ n2_ n3_ n4_ n5_ n6_ n7_ n8_ n9_ n10_ n11_ n12_ n13_ n14_ n15_ n16_ n17_
   clear hb hbox hg
   refine hK.out _ _ ⟨(blk_cell BK436.out 0).trans rfl, (blk_cell BK436.out 1).trans rfl, (blk_cell BK415.out 0).trans rfl, (blk_cell BK415.out 1).trans rfl, (blk_cell BK415.out 2).trans rfl, (blk_cell BK415.out 3).trans rfl⟩ (fun hHeld => ?_)
   clear hK K
   refine norm_ (a' := ?_) ?_ ?_
   rotate_left
   ·show Act.put _ (some 11) _ = _
    simp only [Act.put, List.setIfInBounds_toArray, List.set_cons_zero, List.set_cons_succ, i64_w, i32_w]
    rfl
   refine one_ (i := 2) (N := some 40) (bN 11 271) rfl rfl (one_of HT_.out (by kernel_rfl)) (by decide) (fun K hK => ?_)
   refine goes_ Try.func18 (by kernel_rfl) rfl #[.agg #[.int .i64 a1_0, .int .i64 a1_1, .string a1_2, .int .i64 a1_3]] (by rfl) rfl rfl (by (try simp only [List.map_toArray, List.map_cons, List.map_nil]); first | done | rfl | (simp only [List.length_drop, List.length_take]; rfl)) ?_
   with_reducible refine (laws_toValue.calls a1_0 a1_1 a1_2 a1_3 t437 t438 t439 t440 _ A27.out).mono ?_
   rintro e w60 ⟨rfl, hb⟩
   refine ⟨_, rfl, ?_⟩
   have n0_ := Aside0.mk (Kd.S_below (sI HO421.out) hb)
   have n1_ := Aside0.mk (Kd.S_below (sI HO435.out) hb)
   have n2_ := sK BK414 hb
   have n3_ := sK BK415 hb
   have n4_ := sK BK431 hb
   have n5_ := sK BK436 hb
   have n6_ := sK BK446 hb
   have n7_ := sB HB hb
   clear HO421
   clear HO435
   clear BK414
   clear BK415
   clear BK431
   clear BK436
   clear BK446
   clear HB
   have HO421 := n0_
   have HO435 := n1_
   have BK414 := n2_
   have BK415 := n3_
   have BK431 := n4_
   have BK436 := n5_
   have BK446 := n6_
   have HB := n7_
   clear n0_ n1_ n2_ n3_ n4_ n5_ n6_ n7_
   (try clear hb)
   (try clear hb2)
   (try clear hk)
   (try clear hi)
   refine hK.out _ _ ⟨(blk_cell BK436.out 0).trans rfl, (blk_cell BK436.out 1).trans rfl, (blk_cell BK415.out 0).trans rfl, (blk_cell BK415.out 1).trans rfl, (blk_cell BK415.out 2).trans rfl, (blk_cell BK415.out 3).trans rfl⟩ (fun hHeld => ?_)
   clear hK K
   refine norm_ (a' := ?_) ?_ ?_
   rotate_left
   ·show Act.put _ (some 40) _ = _
    simp only [Act.put, List.setIfInBounds_toArray, List.set_cons_zero, List.set_cons_succ, i64_w, i32_w]
    rfl
   refine one_ (i := 4) (N := some 42) (bN 11 287) rfl rfl (one_of HT_.out (by kernel_rfl)) (by decide) (fun K hK => ?_)
   refine goes_ Try.func19 (by kernel_rfl) rfl #[.agg #[.int .i64 t432, .slice Ao56 t433.length co56], .agg #[.int .i64 t437, .int .i64 t438, .string t439, .int .i64 t440], .string a2] (by rfl) rfl rfl (by (try simp only [List.map_toArray, List.map_cons, List.map_nil]); first | done | rfl | (simp only [List.length_drop, List.length_take]; rfl)) ?_
   with_reducible refine (impl_GetField.calls k t432 _ _ t433 t437 t438 t439 t440 a2 t441 t442 t443 t444 t445 _ ?side1 ?side2 A28.out).mono ?_
   (case side1 => exact sD ((Kd.S_reads' HO435.out).2.2))
   (case side2 => exact (Kd.S_reads' HO435.out).2.1)
   rintro e w61 ⟨rfl, hb⟩
   refine ⟨_, rfl, ?_⟩
   have n0_ := Aside0.mk (Kd.S_below (sI HO421.out) hb)
   have n1_ := Aside0.mk (Kd.S_below (sI HO435.out) hb)
   have n2_ := sK BK414 hb
   have n3_ := sK BK415 hb
   have n4_ := sK BK431 hb
   have n5_ := sK BK436 hb
   have n6_ := sK BK446 hb
   have n7_ := sB HB hb
   clear HO421
   clear HO435
   clear BK414
   clear BK415
   clear BK431
   clear BK436
   clear BK446
   clear HB
   have HO421 := n0_
   have HO435 := n1_
   have BK414 := n2_
   have BK415 := n3_
   have BK431 := n4_
   have BK436 := n5_
   have BK446 := n6_
   have HB := n7_
   clear n0_ n1_ n2_ n3_ n4_ n5_ n6_ n7_
   (try clear hb)
   (try clear hb2)
   (try clear hk)
   (try clear hi)
   refine hK.out _ _ ⟨(blk_cell BK436.out 0).trans rfl, (blk_cell BK436.out 1).trans rfl, (blk_cell BK415.out 0).trans rfl, (blk_cell BK415.out 1).trans rfl, (blk_cell BK415.out 2).trans rfl, (blk_cell BK415.out 3).trans rfl⟩ (fun hHeld => ?_)
   clear hK K
   refine norm_ (a' := ?_) ?_ ?_
   rotate_left
   ·show Act.put _ (some 42) _ = _
    simp only [Act.put, List.setIfInBounds_toArray, List.set_cons_zero, List.set_cons_succ, i64_w, i32_w]
    rfl
   refine pure_ (i := 5) (N := some 37) (v := ?_) (a' := ?_) (bN 11 319) rfl rfl (any_of HT_.out (by kernel_rfl)) (fun _ _ _ h => h) (Or.inl ⟨by rfl, ?_⟩) ?_ ?_
   rotate_left
   ·intro w'
    go_simp
    with_reducible rfl
   rotate_left
   ·simp only [Act.put, List.setIfInBounds_toArray, List.set_cons_zero, List.set_cons_succ, i64_w, i32_w]
    rfl
   refine pure_ (i := 6) (N := some 43) (v := ?_) (a' := ?_) (bN 11 383) rfl rfl (any_of HT_.out (by kernel_rfl)) (fun _ _ _ h => h) (Or.inl ⟨by rfl, ?_⟩) ?_ ?_
   rotate_left
   ·intro w'
    go_simp
    with_reducible rfl
   rotate_left
   ·simp only [Act.put, List.setIfInBounds_toArray, List.set_cons_zero, List.set_cons_succ, i64_w, i32_w]
    rfl
   refine pure_ (i := 7) (N := some 44) (v := ?_) (a' := ?_) (bN 11 511) rfl rfl (any_of HT_.out (by kernel_rfl)) (fun _ _ _ h => h) (Or.inl ⟨by rfl, ?_⟩) ?_ ?_
   rotate_left
   ·intro w'
    go_simp
    with_reducible rfl
   rotate_left
   ·simp only [Act.put, List.setIfInBounds_toArray, List.set_cons_zero, List.set_cons_succ, i64_w, i32_w]
    rfl
   exact norm_ (by simp only [putAll, Act.put, List.setIfInBounds_toArray, List.set_cons_zero, List.set_cons_succ]) (hCont (gb446) _ ⟨hHeld, (by (with_reducible repeat (first | apply Kd.S_alloc | apply Kd.S_drewN | apply Kd.S_drew)); exact Kd.S_mono HO421.out (fun _ hk => ⟨hk.1.1, ⟨hk.1.2, hk.2⟩⟩)), (by (with_reducible repeat (first | apply Kd.S_alloc | apply Kd.S_drewN | apply Kd.S_drew)); exact Kd.S_mono HO435.out (fun _ hk => ⟨hk.1.1, ⟨hk.1.2, hk.2⟩⟩)), (sT BK414.out), (sT BK415.out), (sT BK431.out), (sT BK436.out), (sT BK446.out), GW446.out, GE446.out, NB414_446.out, NB446_414.out, NB415_446.out, NB446_415.out, NB431_446.out, NB446_431.out, NB436_446.out, NB446_436.out, (by repeat (first | (with_reducible first | exact HB.out | apply below_alloc | apply pw_below_drewN | apply below_drew1 | refine below_set ?_ GE414.out | refine below_set ?_ GE415.out | refine below_set ?_ GE431.out | refine below_set ?_ GE436.out | refine below_set ?_ GE446.out) | exact HB.out))⟩)
 rintro gb446 w62 ⟨hS_, h0_, h1_, h2_, h3_, h4_, h5_, h6_, h7_, h8_, h9_, h10_, h11_, h12_, h13_, h14_, h15_, h16_, h17_⟩
 have n0_ : Aside0 (Kd.S k56 56 w62 w.heap.size (fun k_ => some k_ ≠ (.slice Ao56 t433.length co56 : Value).ownBlock ∧ k_ ≠ gb431 ∧ k_ ≠ gb446) v420 t419) := ⟨h0_⟩
 have n1_ : Aside0 (Kd.S k56 56 w62 w.heap.size (fun k_ => some k_ ≠ (v420 : Value).ownBlock ∧ k_ ≠ gb431 ∧ k_ ≠ gb446) (.slice Ao56 t433.length co56) t433) := ⟨h1_⟩
 have n2_ : Aside0 (w62.heap[gb414]? = some (.cells #[.int .i64 a0_0, .slice A0_1 l0_1.length c0_1] 24 (0, 0))) := ⟨h2_⟩
 have n3_ : Aside0 (w62.heap[gb415]? = some (.cells #[.int .i64 a1_0, .int .i64 a1_1, .string a1_2, .int .i64 a1_3] 26 (0, 0))) := ⟨h3_⟩
 have n4_ : Aside0 (w62.heap[gb431]? = some (.cells #[.int .i64 t426, .int .i64 t427, .string t428, .int .i64 t429] 29 (0, 0))) := ⟨h4_⟩
 have n5_ : Aside0 (w62.heap[gb436]? = some (.cells #[.int .i64 t432, .slice Ao56 t433.length co56] 34 (0, 0))) := ⟨h5_⟩
 have n6_ : Aside0 (w62.heap[gb446]? = some (.cells #[.int .i64 0, .int .i64 0, .string (⟨#[]⟩ : ByteArray), .int .i64 0] 29 (0, 0))) := ⟨h6_⟩
 have n7_ : Aside0 (w.heap.size ≤ gb446) := ⟨h7_⟩
 have n8_ : Aside0 (w.heap.size ≤ gb446) := ⟨h8_⟩
 have n9_ : Aside0 (gb414 ≠ gb446) := ⟨h9_⟩
 have n10_ : Aside0 (gb446 ≠ gb414) := ⟨h10_⟩
 have n11_ : Aside0 (gb415 ≠ gb446) := ⟨h11_⟩
 have n12_ : Aside0 (gb446 ≠ gb415) := ⟨h12_⟩
 have n13_ : Aside0 (gb431 ≠ gb446) := ⟨h13_⟩
 have n14_ : Aside0 (gb446 ≠ gb431) := ⟨h14_⟩
 have n15_ : Aside0 (gb436 ≠ gb446) := ⟨h15_⟩
 have n16_ : Aside0 (gb446 ≠ gb436) := ⟨h16_⟩
 have n17_ : Aside0 (Below w.heap.size w w62) := ⟨h17_⟩
 clear HO421
 clear HO435
 clear BK414
 clear BK415
 clear BK431
 clear BK436
 clear HB
 clear h0_ h1_ h2_ h3_ h4_ h5_ h6_ h7_ h8_ h9_ h10_ h11_ h12_ h13_ h14_ h15_ h16_ h17_
 have HO421 := n0_
 have HO435 := n1_
 have BK414 := n2_
 have BK415 := n3_
 have BK431 := n4_
 have BK436 := n5_
 have BK446 := n6_
 have GW446 := n7_
 have GE446 := n8_
 have NB414_446 := n9_
 have NB446_414 := n10_
 have NB415_446 := n11_
 have NB446_415 := n12_
 have NB431_446 := n13_
 have NB446_431 := n14_
 have NB436_446 := n15_
 have NB446_436 := n16_
 have HB := n17_
 clear n0_ n1_ n2_ n3_ n4_ n5_ n6_ n7_ n8_ n9_ n10_ n11_ n12_ n13_ n14_ n15_ n16_ n17_
 have hHeld : w62.cell? ⟨gb436, 0, none⟩ = some (.int .i64 t432) ∧ w62.cell? ⟨gb436, 1, none⟩ = some (.slice Ao56 t433.length co56) ∧ w62.cell? ⟨gb415, 0, none⟩ = some (.int .i64 a1_0) ∧ w62.cell? ⟨gb415, 1, none⟩ = some (.int .i64 a1_1) ∧ w62.cell? ⟨gb415, 2, none⟩ = some (.string a1_2) ∧ w62.cell? ⟨gb415, 3, none⟩ = some (.int .i64 a1_3) := hS_
 refine norm_ (a' := ?_) ?_ ?_
 rotate_left
 ·simp only [putAll, Act.put, List.setIfInBounds_toArray, List.set_cons_zero, List.set_cons_succ]
  rfl
 refine one_ (i := 9) (N := none) (bN 11 1023) rfl rfl (one_of HT_.out (by kernel_rfl)) (by decide) (fun K hK => ?_)
 have hs63 : w62.cell? ⟨gb446, 0, none⟩ = some (.int .i64 0) := (blk_cell BK446.out 0).trans rfl
 have hfs63 := blk_frozen BK446.out 0
 have hns63_0 := NB414_446.out
 have hns63_1 := NB415_446.out
 have hns63_2 := NB431_446.out
 have hns63_3 := NB436_446.out
 have hms63_0 := NB446_414.out
 have hms63_1 := NB446_415.out
 have hms63_2 := NB446_431.out
 have hms63_3 := NB446_436.out
 have hs64 : w62.cell? ⟨gb446, 1, none⟩ = some (.int .i64 0) := (blk_cell BK446.out 1).trans rfl
 have hfs64 := blk_frozen BK446.out 1
 have hns64_0 := NB414_446.out
 have hns64_1 := NB415_446.out
 have hns64_2 := NB431_446.out
 have hns64_3 := NB436_446.out
 have hms64_0 := NB446_414.out
 have hms64_1 := NB446_415.out
 have hms64_2 := NB446_431.out
 have hms64_3 := NB446_436.out
 have hs65 : w62.cell? ⟨gb446, 2, none⟩ = some (.string (⟨#[]⟩ : ByteArray)) := (blk_cell BK446.out 2).trans rfl
 have hfs65 := blk_frozen BK446.out 2
 have hns65_0 := NB414_446.out
 have hns65_1 := NB415_446.out
 have hns65_2 := NB431_446.out
 have hns65_3 := NB436_446.out
 have hms65_0 := NB446_414.out
 have hms65_1 := NB446_415.out
 have hms65_2 := NB446_431.out
 have hms65_3 := NB446_436.out
 have hs66 : w62.cell? ⟨gb446, 3, none⟩ = some (.int .i64 0) := (blk_cell BK446.out 3).trans rfl
 have hfs66 := blk_frozen BK446.out 3
 have hns66_0 := NB414_446.out
 have hns66_1 := NB415_446.out
 have hns66_2 := NB431_446.out
 have hns66_3 := NB436_446.out
 have hms66_0 := NB446_414.out
 have hms66_1 := NB446_415.out
 have hms66_2 := NB446_431.out
 have hms66_3 := NB446_436.out
 refine skip_ (w1 := ?_) (by rfl) rfl ?_ ?_
 rotate_left
 ·go_simp
  rfl
 refine hK.out _ _ ⟨(sQ4 (g := gb446) NB436_446.out (hHeld.1)), (sQ4 (g := gb446) NB436_446.out (hHeld.2.1)), (sQ4 (g := gb446) NB415_446.out (hHeld.2.2.1)), (sQ4 (g := gb446) NB415_446.out (hHeld.2.2.2.1)), (sQ4 (g := gb446) NB415_446.out (hHeld.2.2.2.2.1)), (sQ4 (g := gb446) NB415_446.out (hHeld.2.2.2.2.2))⟩ (fun hHeld => ?_)
 clear hK K
 refine pure_ (i := 10) (N := some 12) (v := ?_) (a' := ?_) (bN 11 2047) rfl rfl (any_of HT_.out (by kernel_rfl)) (fun _ _ _ h => h) (Or.inl ⟨by rfl, ?_⟩) ?_ ?_
 rotate_left
 ·intro w'
  go_simp
  with_reducible rfl
 rotate_left
 ·simp only [Act.put, List.setIfInBounds_toArray, List.set_cons_zero, List.set_cons_succ, i64_w, i32_w]
  rfl
 refine done_ (done_of HT_.out (by kernel_rfl)) ?_
 go_upto_region 13 with (fail)
 go_cut [53] (fun v53 wc => ∃ (kq : Nat) (x53_28 : Bool), v53 = .bool x53_28 ∧ Aside0 (laws_FnExactGetField.j0 kq x53_28 a0_0 l0_1 t432 t433 = some true) ∧ Aside0 (kq ≤ k) ∧ Aside0 (Kd.S k56 56 wc w.heap.size (fun k_ => k_ ≠ gb431 ∧ k_ ≠ gb446) (.slice Ao56 t433.length co56) t433) ∧ Aside0 (wc.heap[gb414]? = some (.cells #[.int .i64 a0_0, (.slice A0_1 l0_1.length c0_1)] 24 (0, 0))) ∧ Aside0 (wc.heap[gb415]? = some (.cells #[.int .i64 a1_0, .int .i64 a1_1, .string a1_2, .int .i64 a1_3] 26 (0, 0))) ∧ Aside0 (wc.heap[gb431]? = some (.cells #[.int .i64 t426, .int .i64 t427, .string t428, .int .i64 t429] 29 (0, 0))) ∧ Aside0 (wc.heap[gb436]? = some (.cells #[.int .i64 t432, (.slice Ao56 t433.length co56)] 34 (0, 0))) ∧ Aside0 (wc.heap[gb446]? = some (.cells #[.int .i64 t441, .int .i64 t442, .string t443, .int .i64 t444] 29 (0, 0))) ∧ Aside0 (Below w.heap.size w wc))
 case first =>
  have H := HC29.out
  clear HC29
  obtain ⟨t447, A67, H⟩ := sO H
  by_cases c68 : t447 = true
  ·subst c68
   rewrite [if_pos rfl] at H
   have H' := Aside0.mk H
   clear H
   have hnb69 := NB446_414.out
   have hnc69 := NB414_446.out
   have hnb70 := NB446_415.out
   have hnc70 := NB415_446.out
   have hnb71 := NB446_431.out
   have hnc71 := NB431_446.out
   have hnb72 := NB446_436.out
   have hnc72 := NB436_446.out
   obtain ⟨hcz73_0, hcz73_1, hcz73_2, hcz73_3, hfz73_0, hfz73_1, hfz73_2, hfz73_3⟩ := cells4 BK446.out
   have hnb74 := NB431_414.out
   have hnc74 := NB414_431.out
   have hnb75 := NB431_415.out
   have hnc75 := NB415_431.out
   have hnb76 := NB431_436.out
   have hnc76 := NB436_431.out
   obtain ⟨hcz77_0, hcz77_1, hcz77_2, hcz77_3, hfz77_0, hfz77_1, hfz77_2, hfz77_3⟩ := cells4 BK431.out
   go_wp2_with (first | ((with_reducible refine gate_callee (f := 20) rfl ?_); refine sC (some 47) Try.func20 #[.agg #[.int .i64 t441, .int .i64 t442, .string t443, .int .i64 t444], .agg #[.int .i64 t426, .int .i64 t427, .string t428, .int .i64 t429]] (laws_eqValue.calls t441 t442 t443 t444 t426 t427 t428 t429 true _ A67.out) ?_; rintro e w78 ⟨rfl, hb⟩; refine ⟨_, rfl, ?_⟩; have n0_ := Aside0.mk (Kd.S_below (by (with_reducible repeat (first | apply Kd.S_alloc | apply Kd.S_drewN | apply Kd.S_drew)); exact (Kd.S_mono (Kd.S_far (p := ⟨gb446, 3, none⟩) (Kd.S_far (p := ⟨gb446, 2, none⟩) (Kd.S_far (p := ⟨gb446, 1, none⟩) (Kd.S_far (p := ⟨gb446, 0, none⟩) (Kd.S_mono HO421.out (fun k_ hk => (⟨hk, hk.2.2⟩ : _ ∧ k_ ≠ gb446))) (fun _ hk => hk.2) (.int .i64 t441)) (fun _ hk => hk.2) (.int .i64 t442)) (fun _ hk => hk.2) (.string t443)) (fun _ hk => hk.2) (.int .i64 t444)) (fun _ h_ => h_.1))) hb); have n1_ := Aside0.mk (Kd.S_below (by (with_reducible repeat (first | apply Kd.S_alloc | apply Kd.S_drewN | apply Kd.S_drew)); exact (Kd.S_mono (Kd.S_far (p := ⟨gb446, 3, none⟩) (Kd.S_far (p := ⟨gb446, 2, none⟩) (Kd.S_far (p := ⟨gb446, 1, none⟩) (Kd.S_far (p := ⟨gb446, 0, none⟩) (Kd.S_mono HO435.out (fun k_ hk => (⟨hk, hk.2.2⟩ : _ ∧ k_ ≠ gb446))) (fun _ hk => hk.2) (.int .i64 t441)) (fun _ hk => hk.2) (.int .i64 t442)) (fun _ hk => hk.2) (.string t443)) (fun _ hk => hk.2) (.int .i64 t444)) (fun _ h_ => h_.1))) hb); have n2_ := Aside0.mk (blk_below (g := gb414) (o := .cells #[.int .i64 a0_0, .slice A0_1 l0_1.length c0_1] 24 (0, 0)) (by (with_reducible repeat (first | refine blk_drewN ?_ _ | refine blk_drew ?_ | refine blk_alloc ?_ _)); refine blk_far ?_ NB414_446.out _; (with_reducible repeat (first | refine blk_drewN ?_ _ | refine blk_drew ?_ | refine blk_alloc ?_ _)); refine blk_far ?_ NB414_446.out _; (with_reducible repeat (first | refine blk_drewN ?_ _ | refine blk_drew ?_ | refine blk_alloc ?_ _)); refine blk_far ?_ NB414_446.out _; (with_reducible repeat (first | refine blk_drewN ?_ _ | refine blk_drew ?_ | refine blk_alloc ?_ _)); refine blk_far ?_ NB414_446.out _; exact sT BK414.out) hb); have n3_ := Aside0.mk (blk_below (g := gb415) (o := .cells #[.int .i64 a1_0, .int .i64 a1_1, .string a1_2, .int .i64 a1_3] 26 (0, 0)) (by (with_reducible repeat (first | refine blk_drewN ?_ _ | refine blk_drew ?_ | refine blk_alloc ?_ _)); refine blk_far ?_ NB415_446.out _; (with_reducible repeat (first | refine blk_drewN ?_ _ | refine blk_drew ?_ | refine blk_alloc ?_ _)); refine blk_far ?_ NB415_446.out _; (with_reducible repeat (first | refine blk_drewN ?_ _ | refine blk_drew ?_ | refine blk_alloc ?_ _)); refine blk_far ?_ NB415_446.out _; (with_reducible repeat (first | refine blk_drewN ?_ _ | refine blk_drew ?_ | refine blk_alloc ?_ _)); refine blk_far ?_ NB415_446.out _; exact sT BK415.out) hb); have n4_ := Aside0.mk (blk_below (g := gb431) (o := .cells #[.int .i64 t426, .int .i64 t427, .string t428, .int .i64 t429] 29 (0, 0)) (by (with_reducible repeat (first | refine blk_drewN ?_ _ | refine blk_drew ?_ | refine blk_alloc ?_ _)); refine blk_far ?_ NB431_446.out _; (with_reducible repeat (first | refine blk_drewN ?_ _ | refine blk_drew ?_ | refine blk_alloc ?_ _)); refine blk_far ?_ NB431_446.out _; (with_reducible repeat (first | refine blk_drewN ?_ _ | refine blk_drew ?_ | refine blk_alloc ?_ _)); refine blk_far ?_ NB431_446.out _; (with_reducible repeat (first | refine blk_drewN ?_ _ | refine blk_drew ?_ | refine blk_alloc ?_ _)); refine blk_far ?_ NB431_446.out _; exact sT BK431.out) hb); have n5_ := Aside0.mk (blk_below (g := gb436) (o := .cells #[.int .i64 t432, .slice Ao56 t433.length co56] 34 (0, 0)) (by (with_reducible repeat (first | refine blk_drewN ?_ _ | refine blk_drew ?_ | refine blk_alloc ?_ _)); refine blk_far ?_ NB436_446.out _; (with_reducible repeat (first | refine blk_drewN ?_ _ | refine blk_drew ?_ | refine blk_alloc ?_ _)); refine blk_far ?_ NB436_446.out _; (with_reducible repeat (first | refine blk_drewN ?_ _ | refine blk_drew ?_ | refine blk_alloc ?_ _)); refine blk_far ?_ NB436_446.out _; (with_reducible repeat (first | refine blk_drewN ?_ _ | refine blk_drew ?_ | refine blk_alloc ?_ _)); refine blk_far ?_ NB436_446.out _; exact sT BK436.out) hb); have n6_ := Aside0.mk (blk_below (g := gb446) (o := .cells #[.int .i64 t441, .int .i64 t442, .string t443, .int .i64 t444] 29 (0, 0)) (by exact sP4 (sT BK446.out)) hb); have n7_ := sB HB hb; clear HO421; clear HO435; clear BK414; clear BK415; clear BK431; clear BK436; clear BK446; clear HB; have HO421 := n0_; have HO435 := n1_; have BK414 := n2_; have BK415 := n3_; have BK431 := n4_; have BK436 := n5_; have BK446 := n6_; have HB := n7_; clear n0_ n1_ n2_ n3_ n4_ n5_ n6_ n7_; (try clear hb); (try clear hb2); (try clear hk); (try clear hi)))
   go_meet
   case rel => exact ⟨_, ((t445 != t430)), sr, H', ⟨by first | omega | exact Nat.le_refl _⟩, ⟨by (with_reducible repeat (first | apply Kd.S_alloc | apply Kd.S_drewN | apply Kd.S_drew)); exact Kd.S_mono HO435.out (fun _ hk => ⟨hk.2.1, hk.2.2⟩)⟩, ⟨by exact sT BK414.out⟩, ⟨by exact sT BK415.out⟩, ⟨by exact sT BK431.out⟩, ⟨by exact sT BK436.out⟩, ⟨by exact sT BK446.out⟩, ⟨sb⟩⟩
  replace c68 := Bool.eq_false_iff.mpr c68
  subst c68
  rewrite [if_neg (show ¬ (false = true) by decide)] at H
  have H' := Aside0.mk H
  clear H
  have hnb79 := NB446_414.out
  have hnc79 := NB414_446.out
  have hnb80 := NB446_415.out
  have hnc80 := NB415_446.out
  have hnb81 := NB446_431.out
  have hnc81 := NB431_446.out
  have hnb82 := NB446_436.out
  have hnc82 := NB436_446.out
  obtain ⟨hcz83_0, hcz83_1, hcz83_2, hcz83_3, hfz83_0, hfz83_1, hfz83_2, hfz83_3⟩ := cells4 BK446.out
  have hnb84 := NB431_414.out
  have hnc84 := NB414_431.out
  have hnb85 := NB431_415.out
  have hnc85 := NB415_431.out
  have hnb86 := NB431_436.out
  have hnc86 := NB436_431.out
  obtain ⟨hcz87_0, hcz87_1, hcz87_2, hcz87_3, hfz87_0, hfz87_1, hfz87_2, hfz87_3⟩ := cells4 BK431.out
  go_wp2_with (first | ((with_reducible refine gate_callee (f := 20) rfl ?_); refine sC (some 47) Try.func20 #[.agg #[.int .i64 t441, .int .i64 t442, .string t443, .int .i64 t444], .agg #[.int .i64 t426, .int .i64 t427, .string t428, .int .i64 t429]] (laws_eqValue.calls t441 t442 t443 t444 t426 t427 t428 t429 false _ A67.out) ?_; rintro e w88 ⟨rfl, hb⟩; refine ⟨_, rfl, ?_⟩; have n0_ := Aside0.mk (Kd.S_below (by (with_reducible repeat (first | apply Kd.S_alloc | apply Kd.S_drewN | apply Kd.S_drew)); exact (Kd.S_mono (Kd.S_far (p := ⟨gb446, 3, none⟩) (Kd.S_far (p := ⟨gb446, 2, none⟩) (Kd.S_far (p := ⟨gb446, 1, none⟩) (Kd.S_far (p := ⟨gb446, 0, none⟩) (Kd.S_mono HO421.out (fun k_ hk => (⟨hk, hk.2.2⟩ : _ ∧ k_ ≠ gb446))) (fun _ hk => hk.2) (.int .i64 t441)) (fun _ hk => hk.2) (.int .i64 t442)) (fun _ hk => hk.2) (.string t443)) (fun _ hk => hk.2) (.int .i64 t444)) (fun _ h_ => h_.1))) hb); have n1_ := Aside0.mk (Kd.S_below (by (with_reducible repeat (first | apply Kd.S_alloc | apply Kd.S_drewN | apply Kd.S_drew)); exact (Kd.S_mono (Kd.S_far (p := ⟨gb446, 3, none⟩) (Kd.S_far (p := ⟨gb446, 2, none⟩) (Kd.S_far (p := ⟨gb446, 1, none⟩) (Kd.S_far (p := ⟨gb446, 0, none⟩) (Kd.S_mono HO435.out (fun k_ hk => (⟨hk, hk.2.2⟩ : _ ∧ k_ ≠ gb446))) (fun _ hk => hk.2) (.int .i64 t441)) (fun _ hk => hk.2) (.int .i64 t442)) (fun _ hk => hk.2) (.string t443)) (fun _ hk => hk.2) (.int .i64 t444)) (fun _ h_ => h_.1))) hb); have n2_ := Aside0.mk (blk_below (g := gb414) (o := .cells #[.int .i64 a0_0, .slice A0_1 l0_1.length c0_1] 24 (0, 0)) (by (with_reducible repeat (first | refine blk_drewN ?_ _ | refine blk_drew ?_ | refine blk_alloc ?_ _)); refine blk_far ?_ NB414_446.out _; (with_reducible repeat (first | refine blk_drewN ?_ _ | refine blk_drew ?_ | refine blk_alloc ?_ _)); refine blk_far ?_ NB414_446.out _; (with_reducible repeat (first | refine blk_drewN ?_ _ | refine blk_drew ?_ | refine blk_alloc ?_ _)); refine blk_far ?_ NB414_446.out _; (with_reducible repeat (first | refine blk_drewN ?_ _ | refine blk_drew ?_ | refine blk_alloc ?_ _)); refine blk_far ?_ NB414_446.out _; exact sT BK414.out) hb); have n3_ := Aside0.mk (blk_below (g := gb415) (o := .cells #[.int .i64 a1_0, .int .i64 a1_1, .string a1_2, .int .i64 a1_3] 26 (0, 0)) (by (with_reducible repeat (first | refine blk_drewN ?_ _ | refine blk_drew ?_ | refine blk_alloc ?_ _)); refine blk_far ?_ NB415_446.out _; (with_reducible repeat (first | refine blk_drewN ?_ _ | refine blk_drew ?_ | refine blk_alloc ?_ _)); refine blk_far ?_ NB415_446.out _; (with_reducible repeat (first | refine blk_drewN ?_ _ | refine blk_drew ?_ | refine blk_alloc ?_ _)); refine blk_far ?_ NB415_446.out _; (with_reducible repeat (first | refine blk_drewN ?_ _ | refine blk_drew ?_ | refine blk_alloc ?_ _)); refine blk_far ?_ NB415_446.out _; exact sT BK415.out) hb); have n4_ := Aside0.mk (blk_below (g := gb431) (o := .cells #[.int .i64 t426, .int .i64 t427, .string t428, .int .i64 t429] 29 (0, 0)) (by (with_reducible repeat (first | refine blk_drewN ?_ _ | refine blk_drew ?_ | refine blk_alloc ?_ _)); refine blk_far ?_ NB431_446.out _; (with_reducible repeat (first | refine blk_drewN ?_ _ | refine blk_drew ?_ | refine blk_alloc ?_ _)); refine blk_far ?_ NB431_446.out _; (with_reducible repeat (first | refine blk_drewN ?_ _ | refine blk_drew ?_ | refine blk_alloc ?_ _)); refine blk_far ?_ NB431_446.out _; (with_reducible repeat (first | refine blk_drewN ?_ _ | refine blk_drew ?_ | refine blk_alloc ?_ _)); refine blk_far ?_ NB431_446.out _; exact sT BK431.out) hb); have n5_ := Aside0.mk (blk_below (g := gb436) (o := .cells #[.int .i64 t432, .slice Ao56 t433.length co56] 34 (0, 0)) (by (with_reducible repeat (first | refine blk_drewN ?_ _ | refine blk_drew ?_ | refine blk_alloc ?_ _)); refine blk_far ?_ NB436_446.out _; (with_reducible repeat (first | refine blk_drewN ?_ _ | refine blk_drew ?_ | refine blk_alloc ?_ _)); refine blk_far ?_ NB436_446.out _; (with_reducible repeat (first | refine blk_drewN ?_ _ | refine blk_drew ?_ | refine blk_alloc ?_ _)); refine blk_far ?_ NB436_446.out _; (with_reducible repeat (first | refine blk_drewN ?_ _ | refine blk_drew ?_ | refine blk_alloc ?_ _)); refine blk_far ?_ NB436_446.out _; exact sT BK436.out) hb); have n6_ := Aside0.mk (blk_below (g := gb446) (o := .cells #[.int .i64 t441, .int .i64 t442, .string t443, .int .i64 t444] 29 (0, 0)) (by exact sP4 (sT BK446.out)) hb); have n7_ := sB HB hb; clear HO421; clear HO435; clear BK414; clear BK415; clear BK431; clear BK436; clear BK446; clear HB; have HO421 := n0_; have HO435 := n1_; have BK414 := n2_; have BK415 := n3_; have BK431 := n4_; have BK436 := n5_; have BK446 := n6_; have HB := n7_; clear n0_ n1_ n2_ n3_ n4_ n5_ n6_ n7_; (try clear hb); (try clear hb2); (try clear hk); (try clear hi)))
  go_meet
  case rel => exact ⟨_, (true), sr, H', ⟨by first | omega | exact Nat.le_refl _⟩, ⟨by (with_reducible repeat (first | apply Kd.S_alloc | apply Kd.S_drewN | apply Kd.S_drew)); exact Kd.S_mono HO435.out (fun _ hk => ⟨hk.2.1, hk.2.2⟩)⟩, ⟨by exact sT BK414.out⟩, ⟨by exact sT BK415.out⟩, ⟨by exact sT BK431.out⟩, ⟨by exact sT BK436.out⟩, ⟨by exact sT BK446.out⟩, ⟨sb⟩⟩
 case rest =>
  clear HC29
  try clear c1
  try clear c2
  try clear p2
  try clear c6
  try clear c7
  try clear c8
  try clear c18
  try clear c19
  try clear c20
  try clear c68
  try clear c69
  try clear c70
  try clear c71
  try clear c72
  try clear c74
  try clear c75
  try clear c76
  try clear c79
  try clear c80
  try clear c81
  try clear c82
  try clear c84
  try clear c85
  try clear c86
  try clear hcz73_0
  try clear hcz73_1
  try clear hcz73_2
  try clear hcz73_3
  try clear hcz77_0
  try clear hcz77_1
  try clear hcz77_2
  try clear hcz77_3
  try clear hcz83_0
  try clear hcz83_1
  try clear hcz83_2
  try clear hcz83_3
  try clear hcz87_0
  try clear hcz87_1
  try clear hcz87_2
  try clear hcz87_3
  try clear hfz73_0
  try clear hfz73_1
  try clear hfz73_2
  try clear hfz73_3
  try clear hfz77_0
  try clear hfz77_1
  try clear hfz77_2
  try clear hfz77_3
  try clear hfz83_0
  try clear hfz83_1
  try clear hfz83_2
  try clear hfz83_3
  try clear hfz87_0
  try clear hfz87_1
  try clear hfz87_2
  try clear hfz87_3
  obtain ⟨kq, x53_28, rfl, HA, HJ28, HO_437001, BK414, BK415, BK431, BK436, BK446, HB⟩ := hcut
  cases kq with
  | zero => exact absurd HA.out (by simp [laws_FnExactGetField.j0])
  | succ kj28 =>
   have H := HA.out
   clear HA
   simp only [laws_FnExactGetField.j0] at H
   by_cases c89 : x53_28 = true
   ·subst c89
    rewrite [if_pos rfl] at H
    exact absurd H (by simp)
   replace c89 := Bool.eq_false_iff.mpr c89
   subst c89
   rewrite [if_neg (show ¬ (false = true) by decide)] at H
   replace H := Option.bind_eq_some_iff.mp H
   obtain ⟨⟨t448, t449⟩, A900, H⟩ := H
   replace H : ((laws_eqHeap.f kj28 t432 t433 t448 t449).bind fun t452 => (if t452 = true then (some true) else (some false))) = some true := H
   have A90 := Aside0.mk A900
   clear A900
   obtain ⟨t452, A91, H⟩ := sO H
   by_cases c92 : t452 = true
   ·subst c92
    have H1 : (some true) = some true := rfl
    clear H
    have H := H1
    clear H1
    clear H
    try go_wp2
    have n0_ := Aside0.mk (Kd.S_drew HO_437001.out)
    have n1_ := Aside0.mk (blk_drew BK414.out)
    have n2_ := Aside0.mk (blk_drew BK415.out)
    have n3_ := Aside0.mk (blk_drew BK431.out)
    have n4_ := Aside0.mk (blk_drew BK436.out)
    have n5_ := Aside0.mk (blk_drew BK446.out)
    have n6_ := Aside0.mk (below_drew1 HB.out)
    clear HO_437001
    clear BK414
    clear BK415
    clear BK431
    clear BK436
    clear BK446
    clear HB
    have HO_437001 := n0_
    have BK414 := n1_
    have BK415 := n2_
    have BK431 := n3_
    have BK436 := n4_
    have BK446 := n5_
    have HB := n6_
    clear n0_ n1_ n2_ n3_ n4_ n5_ n6_
    refine start_ (n := 5) (S := fun w' => w'.cell? ⟨gb436, 0, none⟩ = some (.int .i64 t432) ∧ w'.cell? ⟨gb436, 1, none⟩ = some (.slice Ao56 t433.length co56) ∧ w'.cell? ⟨gb414, 0, none⟩ = some (.int .i64 a0_0) ∧ w'.cell? ⟨gb414, 1, none⟩ = some (.slice A0_1 l0_1.length c0_1)) (ds := []) #[false, false, false, false, false] (by kernel_rfl) rfl rfl ⟨(blk_cell BK436.out 0).trans rfl, (blk_cell BK436.out 1).trans rfl, (blk_cell BK414.out 0).trans rfl, (blk_cell BK414.out 1).trans rfl⟩ (fun hHeld => ?_)
    generalize wc.drew = w93 at HO_437001 BK414 BK415 BK431 BK436 BK446 HB hHeld ⊢
    refine take_ (i := 0) (N := some 54) (v := ?_) (a' := ?_) #[true, false, false, false, false] rfl rfl (by kernel_rfl) (fun _ _ _ h => h) (Or.inl ⟨by rfl, ?_⟩) hHeld ?_ ?_
    rotate_left
    ·rintro w' ⟨s0, s1, s2, s3⟩
     go_simp
     with_reducible rfl
    rotate_left
    ·simp only [Act.put, List.setIfInBounds_toArray, List.set_cons_zero, List.set_cons_succ, i64_w, i32_w]
     rfl
    refine take_ (i := 1) (N := some 55) (v := ?_) (a' := ?_) #[true, true, false, false, false] rfl rfl (by kernel_rfl) (fun _ _ _ h => h) (Or.inl ⟨by rfl, ?_⟩) hHeld ?_ ?_
    rotate_left
    ·rintro w' ⟨s0, s1, s2, s3⟩
     go_simp
     with_reducible rfl
    rotate_left
    ·simp only [Act.put, List.setIfInBounds_toArray, List.set_cons_zero, List.set_cons_succ, i64_w, i32_w]
     rfl
    refine one_ (i := 2) (N := some 56) #[true, true, true, false, false] rfl rfl (by kernel_rfl) (by decide) (fun K hK => ?_)
    refine goes_ Try.func17 (by kernel_rfl) rfl #[.agg #[.int .i64 a0_0, .slice A0_1 l0_1.length c0_1]] (by rfl) rfl rfl (by (try simp only [List.map_toArray, List.map_cons, List.map_nil]); first | done | rfl | (simp only [List.length_drop, List.length_take]; rfl)) ?_
    with_reducible refine (laws_toHeap.calls kj28 a0_0 _ _ l0_1 t448 t449 _ ?side1 ?side2 A90.out).mono ?_
    (case side1 => exact sD (Kd.C_below HR0_1.out HB.out))
    (case side2 => exact HC0_1.out)
    rintro e w94 ⟨v450, rfl, ho0, hb⟩
    refine ⟨_, rfl, ?_⟩
    have n0_ := Aside0.mk (Kd.S_elder' (sI HO_437001.out) (Kd.S_base ho0) hb)
    have n1_ := Aside0.mk (Kd.S_lower (Kd.S_newB (Kd.S_newB (Kd.S_new' ho0 (Kd.S_lt (sI HO_437001.out))) (g := gb431) (o := .cells #[.int .i64 t426, .int .i64 t427, .string t428, .int .i64 t429] 29 (0, 0)) (sT BK431.out)) (g := gb446) (o := .cells #[.int .i64 t441, .int .i64 t442, .string t443, .int .i64 t444] 29 (0, 0)) (sT BK446.out)) (below_size (by repeat (first | (with_reducible first | exact HB.out | apply below_alloc | apply pw_below_drewN | apply below_drew1 | refine below_set ?_ GE414.out | refine below_set ?_ GE415.out | refine below_set ?_ GE431.out | refine below_set ?_ GE436.out | refine below_set ?_ GE446.out) | exact HB.out))))
    have n2_ := sK BK414 hb
    have n3_ := sK BK415 hb
    have n4_ := sK BK431 hb
    have n5_ := sK BK436 hb
    have n6_ := sK BK446 hb
    have n7_ := sB HB hb
    clear HO_437001
    clear BK414
    clear BK415
    clear BK431
    clear BK436
    clear BK446
    clear HB
    have HO_437001 := n0_
    have HO451 := n1_
    have BK414 := n2_
    have BK415 := n3_
    have BK431 := n4_
    have BK436 := n5_
    have BK446 := n6_
    have HB := n7_
    clear n0_ n1_ n2_ n3_ n4_ n5_ n6_ n7_
    (try clear hb)
    (try clear hb2)
    (try clear hk)
    (try clear hi)
    (try clear ho0)
    obtain ⟨Ao95, co95, eo95⟩ := Kd.S_slice HO451.out
    (first | subst eo95 | (injection eo95 with f1_ f2_ f3_; have f4_ := f1_.symm; have f5_ := f3_.symm; clear f1_ f2_ f3_; subst f4_; subst f5_))
    refine hK.out _ _ ⟨(blk_cell BK436.out 0).trans rfl, (blk_cell BK436.out 1).trans rfl, (blk_cell BK414.out 0).trans rfl, (blk_cell BK414.out 1).trans rfl⟩ (fun hHeld => ?_)
    clear hK K
    refine norm_ (a' := ?_) ?_ ?_
    rotate_left
    ·show Act.put _ (some 56) _ = _
     simp only [Act.put, List.setIfInBounds_toArray, List.set_cons_zero, List.set_cons_succ, i64_w, i32_w]
     rfl
    refine one_ (i := 3) (N := some 57) #[true, true, true, true, false] rfl rfl (by kernel_rfl) (by decide) (fun K hK => ?_)
    refine goes_ Try.func21 (by kernel_rfl) rfl #[.agg #[.int .i64 t432, .slice Ao56 t433.length co56], .agg #[.int .i64 t448, .slice Ao95 t449.length co95]] (by rfl) rfl rfl (by (try simp only [List.map_toArray, List.map_cons, List.map_nil]); first | done | rfl | (simp only [List.length_drop, List.length_take]; rfl)) ?_
    with_reducible refine (laws_eqHeap.calls kj28 t432 _ _ t433 t448 _ _ t449 true _ ?side1 ?side2 ?side3 ?side4 A91.out).mono ?_
    (case side1 => exact sD ((Kd.S_reads' HO_437001.out).2.2))
    (case side2 => exact (Kd.S_reads' HO_437001.out).2.1)
    (case side3 => exact sD ((Kd.S_reads' HO451.out).2.2))
    (case side4 => exact (Kd.S_reads' HO451.out).2.1)
    rintro e w96 ⟨rfl, hb⟩
    refine ⟨_, rfl, ?_⟩
    have n0_ := Aside0.mk (Kd.S_below (sI HO_437001.out) hb)
    have n1_ := Aside0.mk (Kd.S_below (sI HO451.out) hb)
    have n2_ := sK BK414 hb
    have n3_ := sK BK415 hb
    have n4_ := sK BK431 hb
    have n5_ := sK BK436 hb
    have n6_ := sK BK446 hb
    have n7_ := sB HB hb
    clear HO_437001
    clear HO451
    clear BK414
    clear BK415
    clear BK431
    clear BK436
    clear BK446
    clear HB
    have HO_437001 := n0_
    have HO451 := n1_
    have BK414 := n2_
    have BK415 := n3_
    have BK431 := n4_
    have BK436 := n5_
    have BK446 := n6_
    have HB := n7_
    clear n0_ n1_ n2_ n3_ n4_ n5_ n6_ n7_
    (try clear hb)
    (try clear hb2)
    (try clear hk)
    (try clear hi)
    refine hK.out _ _ ⟨(blk_cell BK436.out 0).trans rfl, (blk_cell BK436.out 1).trans rfl, (blk_cell BK414.out 0).trans rfl, (blk_cell BK414.out 1).trans rfl⟩ (fun hHeld => ?_)
    clear hK K
    refine norm_ (a' := ?_) ?_ ?_
    rotate_left
    ·show Act.put _ (some 57) _ = _
     simp only [Act.put, List.setIfInBounds_toArray, List.set_cons_zero, List.set_cons_succ, i64_w, i32_w]
     rfl
    refine pure_ (i := 4) (N := some 58) (v := ?_) (a' := ?_) #[true, true, true, true, true] rfl rfl (by kernel_rfl) (fun _ _ _ h => h) (Or.inl ⟨by rfl, ?_⟩) ?_ ?_
    rotate_left
    ·intro w'
     go_simp
     with_reducible rfl
    rotate_left
    ·simp only [Act.put, List.setIfInBounds_toArray, List.set_cons_zero, List.set_cons_succ, i64_w, i32_w]
     rfl
    refine done_ (by kernel_rfl) ?_
    try go_wp2
    go_ret
    exact ⟨sq, sb⟩
   replace c92 := Bool.eq_false_iff.mpr c92
   subst c92
   rewrite [if_neg (show ¬ (false = true) by decide)] at H
   exact absurd H (by simp)
end Go.Proofs.Ytnjkhdhaiicefaa.PFnExactGetField
