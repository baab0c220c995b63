/- Printed functions: laws_FnExactSizeOf. -/
import Derived.Test.YtamegncijkfbhaaYHsP0
import Derived.Test.YtamegncijkfbhaaYHsP1
import Derived.Test.YtamegncijkfbhaaYHsP2
import Derived.Test.YtamegncijkfbhaaYHsP3
import Derived.Test.YtamegncijkfbhaaYHsP25
import Derived.Test.YtamegncijkfbhaaYHsP32
import Derived.Test.YtamegncijkfbhaaYHsP35
namespace Go.Proofs.Ytamegncijkfbhaa.PFnExactFitsHeap
open Go.RowKit Go.Proofs.YtamegncijkfbhaaG Go.Proofs.YtamegncijkfbhaaW.PrintWords Go.Proofs.YtamegncijkfbhaaW.PrintLast Go.Proofs.YtamegncijkfbhaaW.PrintMore
attribute [local go_sem] max2_int min2_int max_two min_two max_three min_three max_four min_four   -- for this text's walks alone
set_option linter.unusedVariables false
set_option linter.unusedSimpArgs false
/-! ### laws_FnExactSizeOf: function 8 -/
def laws_FnExactSizeOf.j0 : Nat → Bool → Int → List (S26) → Int → List (S32) → Option (Bool)
 | 0, _, _, _, _, _ => none
 | k + 1, x45, x500000, x500001, x518000, x518001 => if x45 = true then (some false) else ((laws_toHeap.f k x500000 x500001).bind fun bt524 => ((laws_eqHeap.f k x518000 x518001 bt524.1 bt524.2).bind fun t528 => (if t528 = true then (some true) else (some false))))
def laws_FnExactSizeOf.f (k : Nat) (a0_0 : Int) (l0_1 : List (S26)) (a1_0 : Int) (a1_1 : Int) (a1_2 : ByteArray) (a1_3 : Int) : Option (Bool) := (laws_szHeap.f k a0_0 l0_1 1048576).bind fun t501 => (if t501 < 0 then (some true) else ((laws_szValue.f a1_0 a1_1 a1_2 a1_3 t501).bind fun t502 => (if t502 < 0 then (some true) else ((laws_toHeap.f k a0_0 l0_1).bind fun bt503 => ((laws_toValue.f a1_0 a1_1 a1_2 a1_3).bind fun bt507 => ((spec_SizeOf.f k bt503.1 bt503.2 bt507.1 bt507.2.1 bt507.2.2.1 bt507.2.2.2).bind fun bt511 => ((laws_toHeap.f k a0_0 l0_1).bind fun bt513 => ((laws_toValue.f a1_0 a1_1 a1_2 a1_3).bind fun bt518 => ((impl_SizeOf.f k bt513.1 bt513.2 bt518.1 bt518.2.1 bt518.2.2.1 bt518.2.2.2).bind fun bt522 => (if bt522.1 = bt511.1 then (laws_FnExactSizeOf.j0 k (bt522.2 != bt511.2) a0_0 l0_1 bt513.1 bt513.2) else (laws_FnExactSizeOf.j0 k true a0_0 l0_1 bt513.1 bt513.2)))))))))))
def laws_FnExactSizeOf.T8 : Bool × List (List Nat × List Nat) := (true, [([], []), ([0], [0]), ([], []), ([2, 1], [2]), ([1, 3, 3], [1, 3]), ([4], [4]), ([5], [5]), ([5], [5]), ([6, 4, 0, 1, 2, 3, 4, 5, 6], [6]), ([7, 8, 0, 1, 2, 3, 4, 5, 6, 7, 8], [7])])
def laws_FnExactSizeOf.B8 : List Nat := [0, 1, 0, 7, 15, 31, 63, 63, 127, 511]
theorem laws_FnExactSizeOf.tab8 : rtab .any (opsOf Try.f8 8) = laws_FnExactSizeOf.T8 := by kernel_rfl
theorem laws_FnExactSizeOf.bits8 : waitsOk laws_FnExactSizeOf.T8.2 laws_FnExactSizeOf.B8 = true := by kernel_rfl
def laws_FnExactSizeOf.T10 : Bool × List (List Nat × List Nat) := (true, [([], []), ([], []), ([1], [1]), ([0, 2, 2], [0, 2]), ([3], [3]), ([4], [4]), ([4], [4]), ([5, 3, 0, 1, 2, 3, 4, 5], [5]), ([6, 7, 0, 1, 2, 3, 4, 5, 6, 7], [6])])
def laws_FnExactSizeOf.B10 : List Nat := [0, 0, 2, 7, 15, 31, 31, 63, 255]
theorem laws_FnExactSizeOf.tab10 : rtab .any (opsOf Try.f8 10) = laws_FnExactSizeOf.T10 := by kernel_rfl
theorem laws_FnExactSizeOf.bits10 : waitsOk laws_FnExactSizeOf.T10.2 laws_FnExactSizeOf.B10 = true := by kernel_rfl
set_option maxHeartbeats 8000000 in
set_option maxRecDepth 100000 in
theorem laws_FnExactSizeOf.calls (k : Nat) (a0_0 : Int) (A0_1 : Option Addr) (c0_1 : Nat) (l0_1 : List (S26)) (a1_0 : Int) (a1_1 : Int) (a1_2 : ByteArray) (a1_3 : Int) (w : World) (hr0_1 : Kd.C k26 w A0_1 l0_1.length l0_1) (hc0_1 : l0_1.length ≤ c0_1) (h : laws_FnExactSizeOf.f k a0_0 l0_1 a1_0 a1_1 a1_2 a1_3 = some true) :
  Calls Try.prog 8 #[.agg #[.int .i64 a0_0, .slice A0_1 l0_1.length c0_1], .agg #[.int .i64 a1_0, .int .i64 a1_1, .string a1_2, .int .i64 a1_3]] w fun e w' => e = .returned (.bool true) ∧ Below w.heap.size w w' := by
 have hu38 := Try.underlying38
 have hu24 := Try.underlying24
 have hu43 := Try.underlying43
 have HR0_1 := Aside0.mk hr0_1
 have HC0_1 := Aside0.mk hc0_1
 clear hr0_1 hc0_1
 have HB := Aside0.mk (Below.refl w.heap.size w)
 have H : ((laws_szHeap.f k a0_0 l0_1 1048576).bind fun t501 => (if t501 < 0 then (some true) else ((laws_szValue.f a1_0 a1_1 a1_2 a1_3 t501).bind fun t502 => (if t502 < 0 then (some true) else ((laws_toHeap.f k a0_0 l0_1).bind fun bt503 => ((laws_toValue.f a1_0 a1_1 a1_2 a1_3).bind fun bt507 => ((spec_SizeOf.f k bt503.1 bt503.2 bt507.1 bt507.2.1 bt507.2.2.1 bt507.2.2.2).bind fun bt511 => ((laws_toHeap.f k a0_0 l0_1).bind fun bt513 => ((laws_toValue.f a1_0 a1_1 a1_2 a1_3).bind fun bt518 => ((impl_SizeOf.f k bt513.1 bt513.2 bt518.1 bt518.2.1 bt518.2.2.1 bt518.2.2.2).bind fun bt522 => (if bt522.1 = bt511.1 then (laws_FnExactSizeOf.j0 k (bt522.2 != bt511.2) a0_0 l0_1 bt513.1 bt513.2) else (laws_FnExactSizeOf.j0 k true a0_0 l0_1 bt513.1 bt513.2)))))))))))) = some true := h
 clear h
 obtain ⟨t501, A3, H⟩ := sO H
 by_cases c4 : t501 < 0
 ·rw [if_pos c4] at H
  have c4b0 := decide_eq_true c4
  clear c4
  clear H
  go_enter Try.func8, Try.ntmps8
  go_wp2_with (first | ((with_reducible refine gate_dst (N := 2) rfl ?_); refine sV (N := 2) (cs := #[.int .i64 a0_0, .slice A0_1 l0_1.length c0_1]) (t := 38) ?_; intro gb499 hg w5 hbox hb; have n0_ := sB HB hb; have n1_ := Aside0.mk (hbox); have n2_ := sG HB hg; have n3_ := sG HB hg; clear HB; have HB := n0_; have BK499 := n1_; have GW499 := n2_; have GE499 := n3_; clear n0_ n1_ n2_ n3_; clear hb hbox hg) | ((with_reducible refine gate_dst (N := 3) rfl ?_); refine sV (N := 3) (cs := #[.int .i64 a1_0, .int .i64 a1_1, .string a1_2, .int .i64 a1_3]) (t := 24) ?_; intro gb500 hg w6 hbox hb; have n0_ := sK BK499 hb; have n1_ := sB HB hb; have n2_ := Aside0.mk (hbox); have n3_ := sG HB hg; have n4_ := sG HB hg; have n5_ := sN BK499 hg; have n6_ := sM BK499 hg; clear BK499; clear HB; have BK499 := n0_; have HB := n1_; have BK500 := n2_; have GW500 := n3_; have GE500 := n4_; have NB499_500 := n5_; have NB500_499 := n6_; clear n0_ n1_ n2_ n3_ n4_ n5_ n6_; clear hb hbox hg; have hnb7 := NB499_500.out; have hnc7 := NB500_499.out; obtain ⟨hcz8_0, hcz8_1, hfz8_0, hfz8_1⟩ := cells2 BK499.out) | ((with_reducible refine gate_callee (f := 14) rfl ?_); refine sC (some 13) Try.func14 #[.agg #[.int .i64 a0_0, .slice A0_1 l0_1.length c0_1], .int .i64 1048576] (laws_szHeap.calls k a0_0 _ _ l0_1 1048576 t501 _ ?side1 ?side2 A3.out) ?_; (case side1 => exact sD (Kd.C_below HR0_1.out HB.out)); (case side2 => exact HC0_1.out); rintro e w9 ⟨rfl, hb⟩; refine ⟨_, rfl, ?_⟩; have n0_ := sK BK499 hb; have n1_ := sK BK500 hb; have n2_ := sB HB hb; clear BK499; clear BK500; clear HB; have BK499 := n0_; have BK500 := n1_; have HB := n2_; clear n0_ n1_ n2_; (try clear hb); (try clear hb2); (try clear hk); (try clear hi)))
  go_ret
  exact ⟨sq, sb⟩
 ·rw [if_neg c4] at H
  have c4b0 := decide_eq_false c4
  clear c4
  obtain ⟨t502, A10, H⟩ := sO H
  by_cases c11 : t502 < 0
  ·rw [if_pos c11] at H
   have c11b0 := decide_eq_true c11
   clear c11
   clear H
   go_enter Try.func8, Try.ntmps8
   go_wp2_with (first | ((with_reducible refine gate_dst (N := 2) rfl ?_); refine sV (N := 2) (cs := #[.int .i64 a0_0, .slice A0_1 l0_1.length c0_1]) (t := 38) ?_; intro gb499 hg w12 hbox hb; have n0_ := sB HB hb; have n1_ := Aside0.mk (hbox); have n2_ := sG HB hg; have n3_ := sG HB hg; clear HB; have HB := n0_; have BK499 := n1_; have GW499 := n2_; have GE499 := n3_; clear n0_ n1_ n2_ n3_; clear hb hbox hg) | ((with_reducible refine gate_dst (N := 3) rfl ?_); refine sV (N := 3) (cs := #[.int .i64 a1_0, .int .i64 a1_1, .string a1_2, .int .i64 a1_3]) (t := 24) ?_; intro gb500 hg w13 hbox hb; have n0_ := sK BK499 hb; have n1_ := sB HB hb; have n2_ := Aside0.mk (hbox); have n3_ := sG HB hg; have n4_ := sG HB hg; have n5_ := sN BK499 hg; have n6_ := sM BK499 hg; clear BK499; clear HB; have BK499 := n0_; have HB := n1_; have BK500 := n2_; have GW500 := n3_; have GE500 := n4_; have NB499_500 := n5_; have NB500_499 := n6_; clear n0_ n1_ n2_ n3_ n4_ n5_ n6_; clear hb hbox hg; have hnb14 := NB499_500.out; have hnc14 := NB500_499.out; obtain ⟨hcz15_0, hcz15_1, hfz15_0, hfz15_1⟩ := cells2 BK499.out) | ((with_reducible refine gate_callee (f := 14) rfl ?_); refine sC (some 13) Try.func14 #[.agg #[.int .i64 a0_0, .slice A0_1 l0_1.length c0_1], .int .i64 1048576] (laws_szHeap.calls k a0_0 _ _ l0_1 1048576 t501 _ ?side1 ?side2 A3.out) ?_; (case side1 => exact sD (Kd.C_below HR0_1.out HB.out)); (case side2 => exact HC0_1.out); rintro e w16 ⟨rfl, hb⟩; refine ⟨_, rfl, ?_⟩; have n0_ := sK BK499 hb; have n1_ := sK BK500 hb; have n2_ := sB HB hb; clear BK499; clear BK500; clear HB; have BK499 := n0_; have BK500 := n1_; have HB := n2_; clear n0_ n1_ n2_; (try clear hb); (try clear hb2); (try clear hk); (try clear hi); obtain ⟨hcz17_0, hcz17_1, hcz17_2, hcz17_3, hfz17_0, hfz17_1, hfz17_2, hfz17_3⟩ := cells4 BK500.out) | ((with_reducible refine gate_callee (f := 19) rfl ?_); refine sC (some 18) Try.func19 #[.agg #[.int .i64 a1_0, .int .i64 a1_1, .string a1_2, .int .i64 a1_3], .int .i64 t501] (laws_szValue.calls a1_0 a1_1 a1_2 a1_3 t501 t502 _ A10.out) ?_; rintro e w18 ⟨rfl, hb⟩; refine ⟨_, rfl, ?_⟩; have n0_ := sK BK499 hb; have n1_ := sK BK500 hb; have n2_ := sB HB hb; clear BK499; clear BK500; clear HB; have BK499 := n0_; have BK500 := n1_; have HB := n2_; clear n0_ n1_ n2_; (try clear hb); (try clear hb2); (try clear hk); (try clear hi)))
   go_ret
   exact ⟨sq, sb⟩
  ·rw [if_neg c11] at H
   have c11b0 := decide_eq_false c11
   clear c11
   replace H := Option.bind_eq_some_iff.mp H
   obtain ⟨⟨t503, t504⟩, A190, H⟩ := H
   replace H : ((laws_toValue.f a1_0 a1_1 a1_2 a1_3).bind fun bt507 => ((spec_SizeOf.f k t503 t504 bt507.1 bt507.2.1 bt507.2.2.1 bt507.2.2.2).bind fun bt511 => ((laws_toHeap.f k a0_0 l0_1).bind fun bt513 => ((laws_toValue.f a1_0 a1_1 a1_2 a1_3).bind fun bt518 => ((impl_SizeOf.f k bt513.1 bt513.2 bt518.1 bt518.2.1 bt518.2.2.1 bt518.2.2.2).bind fun bt522 => (if bt522.1 = bt511.1 then (laws_FnExactSizeOf.j0 k (bt522.2 != bt511.2) a0_0 l0_1 bt513.1 bt513.2) else (laws_FnExactSizeOf.j0 k true a0_0 l0_1 bt513.1 bt513.2))))))) = some true := H
   have A19 := Aside0.mk A190
   clear A190
   replace H := Option.bind_eq_some_iff.mp H
   obtain ⟨⟨t507, t508, t509, t510⟩, A200, H⟩ := H
   replace H : ((spec_SizeOf.f k t503 t504 t507 t508 t509 t510).bind fun bt511 => ((laws_toHeap.f k a0_0 l0_1).bind fun bt513 => ((laws_toValue.f a1_0 a1_1 a1_2 a1_3).bind fun bt518 => ((impl_SizeOf.f k bt513.1 bt513.2 bt518.1 bt518.2.1 bt518.2.2.1 bt518.2.2.2).bind fun bt522 => (if bt522.1 = bt511.1 then (laws_FnExactSizeOf.j0 k (bt522.2 != bt511.2) a0_0 l0_1 bt513.1 bt513.2) else (laws_FnExactSizeOf.j0 k true a0_0 l0_1 bt513.1 bt513.2)))))) = some true := H
   have A20 := Aside0.mk A200
   clear A200
   replace H := Option.bind_eq_some_iff.mp H
   obtain ⟨⟨t511, t512⟩, A210, H⟩ := H
   replace H : ((laws_toHeap.f k a0_0 l0_1).bind fun bt513 => ((laws_toValue.f a1_0 a1_1 a1_2 a1_3).bind fun bt518 => ((impl_SizeOf.f k bt513.1 bt513.2 bt518.1 bt518.2.1 bt518.2.2.1 bt518.2.2.2).bind fun bt522 => (if bt522.1 = t511 then (laws_FnExactSizeOf.j0 k (bt522.2 != t512) a0_0 l0_1 bt513.1 bt513.2) else (laws_FnExactSizeOf.j0 k true a0_0 l0_1 bt513.1 bt513.2))))) = some true := H
   have A21 := Aside0.mk A210
   clear A210
   replace H := Option.bind_eq_some_iff.mp H
   obtain ⟨⟨t513, t514⟩, A220, H⟩ := H
   replace H : ((laws_toValue.f a1_0 a1_1 a1_2 a1_3).bind fun bt518 => ((impl_SizeOf.f k t513 t514 bt518.1 bt518.2.1 bt518.2.2.1 bt518.2.2.2).bind fun bt522 => (if bt522.1 = t511 then (laws_FnExactSizeOf.j0 k (bt522.2 != t512) a0_0 l0_1 t513 t514) else (laws_FnExactSizeOf.j0 k true a0_0 l0_1 t513 t514)))) = some true := H
   have A22 := Aside0.mk A220
   clear A220
   replace H := Option.bind_eq_some_iff.mp H
   obtain ⟨⟨t518, t519, t520, t521⟩, A230, H⟩ := H
   replace H : ((impl_SizeOf.f k t513 t514 t518 t519 t520 t521).bind fun bt522 => (if bt522.1 = t511 then (laws_FnExactSizeOf.j0 k (bt522.2 != t512) a0_0 l0_1 t513 t514) else (laws_FnExactSizeOf.j0 k true a0_0 l0_1 t513 t514))) = some true := H
   have A23 := Aside0.mk A230
   clear A230
   replace H := Option.bind_eq_some_iff.mp H
   obtain ⟨⟨t522, t523⟩, A240, H⟩ := H
   replace H : (if t522 = t511 then (laws_FnExactSizeOf.j0 k (t523 != t512) a0_0 l0_1 t513 t514) else (laws_FnExactSizeOf.j0 k true a0_0 l0_1 t513 t514)) = some true := H
   have A24 := Aside0.mk A240
   clear A240
   have HC25 := Aside0.mk H
   clear H
   go_enter Try.func8, Try.ntmps8
   try go_wp2_with (first | ((with_reducible refine gate_dst (N := 2) rfl ?_); refine sV (N := 2) (cs := #[.int .i64 a0_0, .slice A0_1 l0_1.length c0_1]) (t := 38) ?_; intro gb499 hg w26 hbox hb; have n0_ := sB HB hb; have n1_ := Aside0.mk (hbox); have n2_ := sG HB hg; have n3_ := sG HB hg; clear HB; have HB := n0_; have BK499 := n1_; have GW499 := n2_; have GE499 := n3_; clear n0_ n1_ n2_ n3_; clear hb hbox hg) | ((with_reducible refine gate_dst (N := 3) rfl ?_); refine sV (N := 3) (cs := #[.int .i64 a1_0, .int .i64 a1_1, .string a1_2, .int .i64 a1_3]) (t := 24) ?_; intro gb500 hg w27 hbox hb; have n0_ := sK BK499 hb; have n1_ := sB HB hb; have n2_ := Aside0.mk (hbox); have n3_ := sG HB hg; have n4_ := sG HB hg; have n5_ := sN BK499 hg; have n6_ := sM BK499 hg; clear BK499; clear HB; have BK499 := n0_; have HB := n1_; have BK500 := n2_; have GW500 := n3_; have GE500 := n4_; have NB499_500 := n5_; have NB500_499 := n6_; clear n0_ n1_ n2_ n3_ n4_ n5_ n6_; clear hb hbox hg; have hnb28 := NB499_500.out; have hnc28 := NB500_499.out; obtain ⟨hcz29_0, hcz29_1, hfz29_0, hfz29_1⟩ := cells2 BK499.out) | ((with_reducible refine gate_callee (f := 14) rfl ?_); refine sC (some 13) Try.func14 #[.agg #[.int .i64 a0_0, .slice A0_1 l0_1.length c0_1], .int .i64 1048576] (laws_szHeap.calls k a0_0 _ _ l0_1 1048576 t501 _ ?side1 ?side2 A3.out) ?_; (case side1 => exact sD (Kd.C_below HR0_1.out HB.out)); (case side2 => exact HC0_1.out); rintro e w30 ⟨rfl, hb⟩; refine ⟨_, rfl, ?_⟩; have n0_ := sK BK499 hb; have n1_ := sK BK500 hb; have n2_ := sB HB hb; clear BK499; clear BK500; clear HB; have BK499 := n0_; have BK500 := n1_; have HB := n2_; clear n0_ n1_ n2_; (try clear hb); (try clear hb2); (try clear hk); (try clear hi); obtain ⟨hcz31_0, hcz31_1, hcz31_2, hcz31_3, hfz31_0, hfz31_1, hfz31_2, hfz31_3⟩ := cells4 BK500.out) | ((with_reducible refine gate_callee (f := 19) rfl ?_); refine sC (some 18) Try.func19 #[.agg #[.int .i64 a1_0, .int .i64 a1_1, .string a1_2, .int .i64 a1_3], .int .i64 t501] (laws_szValue.calls a1_0 a1_1 a1_2 a1_3 t501 t502 _ A10.out) ?_; rintro e w32 ⟨rfl, hb⟩; refine ⟨_, rfl, ?_⟩; have n0_ := sK BK499 hb; have n1_ := sK BK500 hb; have n2_ := sB HB hb; clear BK499; clear BK500; clear HB; have BK499 := n0_; have BK500 := n1_; have HB := n2_; clear n0_ n1_ n2_; (try clear hb); (try clear hb2); (try clear hk); (try clear hi)))
   have n0_ := Aside0.mk (blk_drew BK499.out)
   have n1_ := Aside0.mk (blk_drew BK500.out)
   have n2_ := Aside0.mk (below_drew1 HB.out)
   clear BK499
   clear BK500
   clear HB
   have BK499 := n0_
   have BK500 := n1_
   have HB := n2_
   clear n0_ n1_ n2_
   refine start_ (n := 10) (S := fun w' => w'.cell? ⟨gb499, 0, none⟩ = some (.int .i64 a0_0) ∧ w'.cell? ⟨gb499, 1, none⟩ = some (.slice A0_1 l0_1.length c0_1) ∧ w'.cell? ⟨gb500, 0, none⟩ = some (.int .i64 a1_0) ∧ w'.cell? ⟨gb500, 1, none⟩ = some (.int .i64 a1_1) ∧ w'.cell? ⟨gb500, 2, none⟩ = some (.string a1_2) ∧ w'.cell? ⟨gb500, 3, none⟩ = some (.int .i64 a1_3)) (ds := []) #[false, false, false, false, false, false, false, false, false, false] (by kernel_rfl) rfl rfl ⟨(blk_cell BK499.out 0).trans rfl, (blk_cell BK499.out 1).trans rfl, (blk_cell BK500.out 0).trans rfl, (blk_cell BK500.out 1).trans rfl, (blk_cell BK500.out 2).trans rfl, (blk_cell BK500.out 3).trans rfl⟩ (fun hHeld => ?_); refine with_tabW laws_FnExactSizeOf.tab8 laws_FnExactSizeOf.bits8 (fun HT_ HW_ => ?_)
   generalize w32.drew = w33 at BK499 BK500 HB hHeld ⊢
   refine take_ (i := 0) (N := some 22) (v := ?_) (a' := ?_) #[true, false, false, false, false, false, false, false, false, false] rfl rfl (take_ofW HT_.out HW_.out (by kernel_rfl)) (fun _ _ _ h => h) (Or.inl ⟨by rfl, ?_⟩) hHeld ?_ ?_
   rotate_left
   ·rintro w' ⟨s0, s1, s2, s3, s4, s5⟩
    go_simp
    with_reducible rfl
   rotate_left
   ·simp only [Act.put, List.setIfInBounds_toArray, List.set_cons_zero, List.set_cons_succ, i64_w, i32_w]
    rfl
   refine take_ (i := 2) (N := some 24) (v := ?_) (a' := ?_) #[true, false, true, false, false, false, false, false, false, false] rfl rfl (take_ofW HT_.out HW_.out (by kernel_rfl)) (fun _ _ _ h => h) (Or.inl ⟨by rfl, ?_⟩) hHeld ?_ ?_
   rotate_left
   ·rintro w' ⟨s0, s1, s2, s3, s4, s5⟩
    go_simp
    with_reducible rfl
   rotate_left
   ·simp only [Act.put, List.setIfInBounds_toArray, List.set_cons_zero, List.set_cons_succ, i64_w, i32_w]
    rfl
   refine one_ (i := 1) (N := some 23) #[true, true, true, false, false, false, false, false, false, false] rfl rfl (one_of HT_.out (by kernel_rfl)) (by decide) (fun K hK => ?_)
   refine goes_ Try.func16 (by kernel_rfl) rfl #[.agg #[.int .i64 a0_0, .slice A0_1 l0_1.length c0_1]] (by rfl) rfl rfl (by (try simp only [List.map_toArray, List.map_cons, List.map_nil]); first | done | rfl | (simp only [List.length_drop, List.length_take]; rfl)) ?_
   with_reducible refine (laws_toHeap.calls k a0_0 _ _ l0_1 t503 t504 _ ?side1 ?side2 A19.out).mono ?_
   (case side1 => exact sD (Kd.C_below HR0_1.out HB.out))
   (case side2 => exact HC0_1.out)
   rintro e w34 ⟨v505, rfl, ho0, hb⟩
   refine ⟨_, rfl, ?_⟩
   have n0_ := Aside0.mk (Kd.S_lower ho0 (below_size (by repeat (first | (with_reducible first | exact HB.out | apply below_alloc | apply pw_below_drewN | apply below_drew1 | refine below_set ?_ GE499.out | refine below_set ?_ GE500.out) | exact HB.out))))
   have n1_ := sK BK499 hb
   have n2_ := sK BK500 hb
   have n3_ := sB HB hb
   clear BK499
   clear BK500
   clear HB
   have HO506 := n0_
   have BK499 := n1_
   have BK500 := n2_
   have HB := n3_
   clear n0_ n1_ n2_ n3_
   (try clear hb)
   (try clear hb2)
   (try clear hk)
   (try clear hi)
   (try clear ho0)
   refine hK.out _ _ ⟨(blk_cell BK499.out 0).trans rfl, (blk_cell BK499.out 1).trans rfl, (blk_cell BK500.out 0).trans rfl, (blk_cell BK500.out 1).trans rfl, (blk_cell BK500.out 2).trans rfl, (blk_cell BK500.out 3).trans rfl⟩ (fun hHeld => ?_)
   clear hK K
   refine norm_ (a' := ?_) ?_ ?_
   rotate_left
   ·show Act.put _ (some 23) _ = _
    simp only [Act.put, List.setIfInBounds_toArray, List.set_cons_zero, List.set_cons_succ, i64_w, i32_w]
    rfl
   refine one_ (i := 3) (N := some 25) #[true, true, true, true, false, false, false, false, false, false] rfl rfl (one_of HT_.out (by kernel_rfl)) (by decide) (fun K hK => ?_)
   refine goes_ Try.func21 (by kernel_rfl) rfl #[.agg #[.int .i64 a1_0, .int .i64 a1_1, .string a1_2, .int .i64 a1_3]] (by rfl) rfl rfl (by (try simp only [List.map_toArray, List.map_cons, List.map_nil]); first | done | rfl | (simp only [List.length_drop, List.length_take]; rfl)) ?_
   with_reducible refine (laws_toValue.calls a1_0 a1_1 a1_2 a1_3 t507 t508 t509 t510 _ A20.out).mono ?_
   rintro e w35 ⟨rfl, hb⟩
   refine ⟨_, rfl, ?_⟩
   have n0_ := Aside0.mk (Kd.S_below (sI HO506.out) hb)
   have n1_ := sK BK499 hb
   have n2_ := sK BK500 hb
   have n3_ := sB HB hb
   clear HO506
   clear BK499
   clear BK500
   clear HB
   have HO506 := n0_
   have BK499 := n1_
   have BK500 := n2_
   have HB := n3_
   clear n0_ n1_ n2_ n3_
   (try clear hb)
   (try clear hb2)
   (try clear hk)
   (try clear hi)
   obtain ⟨Ao36, co36, eo36⟩ := Kd.S_slice HO506.out
   (first | subst eo36 | (injection eo36 with f1_ f2_ f3_; have f4_ := f1_.symm; have f5_ := f3_.symm; clear f1_ f2_ f3_; subst f4_; subst f5_))
   refine hK.out _ _ ⟨(blk_cell BK499.out 0).trans rfl, (blk_cell BK499.out 1).trans rfl, (blk_cell BK500.out 0).trans rfl, (blk_cell BK500.out 1).trans rfl, (blk_cell BK500.out 2).trans rfl, (blk_cell BK500.out 3).trans rfl⟩ (fun hHeld => ?_)
   clear hK K
   refine norm_ (a' := ?_) ?_ ?_
   rotate_left
   ·show Act.put _ (some 25) _ = _
    simp only [Act.put, List.setIfInBounds_toArray, List.set_cons_zero, List.set_cons_succ, i64_w, i32_w]
    rfl
   refine one_ (i := 4) (N := some 26) #[true, true, true, true, true, false, false, false, false, false] rfl rfl (one_of HT_.out (by kernel_rfl)) (by decide) (fun K hK => ?_)
   refine goes_ Try.func30 (by kernel_rfl) rfl #[.agg #[.int .i64 t503, .slice Ao36 t504.length co36], .agg #[.int .i64 t507, .int .i64 t508, .string t509, .int .i64 t510]] (by rfl) rfl rfl (by (try simp only [List.map_toArray, List.map_cons, List.map_nil]); first | done | rfl | (simp only [List.length_drop, List.length_take]; rfl)) ?_
   with_reducible refine (spec_SizeOf.calls k t503 _ _ t504 t507 t508 t509 t510 t511 t512 _ ?side1 ?side2 A21.out).mono ?_
   (case side1 => exact sD ((Kd.S_reads' HO506.out).2.2))
   (case side2 => exact (Kd.S_reads' HO506.out).2.1)
   rintro e w37 ⟨rfl, hb⟩
   refine ⟨_, rfl, ?_⟩
   have n0_ := Aside0.mk (Kd.S_below (sI HO506.out) hb)
   have n1_ := sK BK499 hb
   have n2_ := sK BK500 hb
   have n3_ := sB HB hb
   clear HO506
   clear BK499
   clear BK500
   clear HB
   have HO506 := n0_
   have BK499 := n1_
   have BK500 := n2_
   have HB := n3_
   clear n0_ n1_ n2_ n3_
   (try clear hb)
   (try clear hb2)
   (try clear hk)
   (try clear hi)
   refine hK.out _ _ ⟨(blk_cell BK499.out 0).trans rfl, (blk_cell BK499.out 1).trans rfl, (blk_cell BK500.out 0).trans rfl, (blk_cell BK500.out 1).trans rfl, (blk_cell BK500.out 2).trans rfl, (blk_cell BK500.out 3).trans rfl⟩ (fun hHeld => ?_)
   clear hK K
   refine norm_ (a' := ?_) ?_ ?_
   rotate_left
   ·show Act.put _ (some 26) _ = _
    simp only [Act.put, List.setIfInBounds_toArray, List.set_cons_zero, List.set_cons_succ, i64_w, i32_w]
    rfl
   refine pure_ (i := 5) (N := some 21) (v := ?_) (a' := ?_) #[true, true, true, true, true, true, false, false, false, false] rfl rfl (any_of HT_.out (by kernel_rfl)) (fun _ _ _ h => h) (Or.inl ⟨by rfl, ?_⟩) ?_ ?_
   rotate_left
   ·intro w'
    go_simp
    with_reducible rfl
   rotate_left
   ·simp only [Act.put, List.setIfInBounds_toArray, List.set_cons_zero, List.set_cons_succ, i64_w, i32_w]
    rfl
   refine pure_ (i := 6) (N := some 27) (v := ?_) (a' := ?_) #[true, true, true, true, true, true, true, false, false, false] rfl rfl (any_of HT_.out (by kernel_rfl)) (fun _ _ _ h => h) (Or.inl ⟨by rfl, ?_⟩) ?_ ?_
   rotate_left
   ·intro w'
    go_simp
    with_reducible rfl
   rotate_left
   ·simp only [Act.put, List.setIfInBounds_toArray, List.set_cons_zero, List.set_cons_succ, i64_w, i32_w]
    rfl
   refine pure_ (i := 7) (N := some 28) (v := ?_) (a' := ?_) #[true, true, true, true, true, true, true, true, false, false] rfl rfl (any_of HT_.out (by kernel_rfl)) (fun _ _ _ h => h) (Or.inl ⟨by rfl, ?_⟩) ?_ ?_
   rotate_left
   ·intro w'
    go_simp
    with_reducible rfl
   rotate_left
   ·simp only [Act.put, List.setIfInBounds_toArray, List.set_cons_zero, List.set_cons_succ, i64_w, i32_w]
    rfl
   refine pure_ (i := 8) (N := some 6) (v := ?_) (a' := ?_) #[true, true, true, true, true, true, true, true, true, false] rfl rfl (any_of HT_.out (by kernel_rfl)) (fun _ _ _ h => h) (Or.inl ⟨by rfl, ?_⟩) ?_ ?_
   rotate_left
   ·intro w'
    go_simp
    with_reducible rfl
   rotate_left
   ·simp only [Act.put, List.setIfInBounds_toArray, List.set_cons_zero, List.set_cons_succ, i64_w, i32_w]
    rfl
   refine pure_ (i := 9) (N := some 7) (v := ?_) (a' := ?_) #[true, true, true, true, true, true, true, true, true, true] rfl rfl (any_of HT_.out (by kernel_rfl)) (fun _ _ _ h => h) (Or.inl ⟨by rfl, ?_⟩) ?_ ?_
   rotate_left
   ·intro w'
    go_simp
    with_reducible rfl
   rotate_left
   ·simp only [Act.put, List.setIfInBounds_toArray, List.set_cons_zero, List.set_cons_succ, i64_w, i32_w]
    rfl
   refine done_ (done_of HT_.out (by kernel_rfl)) ?_
   obtain ⟨hcz38_0, hcz38_1, hfz38_0, hfz38_1⟩ := cells2 BK499.out
   try go_wp2_with (first | ((with_reducible refine gate_callee (f := 16) rfl ?_); refine sC (some 30) Try.func16 #[.agg #[.int .i64 a0_0, .slice A0_1 l0_1.length c0_1]] (laws_toHeap.calls k a0_0 _ _ l0_1 t513 t514 _ ?side1 ?side2 A22.out) ?_; (case side1 => exact sD (Kd.C_below HR0_1.out HB.out)); (case side2 => exact HC0_1.out); rintro e w39 ⟨v515, rfl, ho0, hb⟩; refine ⟨_, rfl, ?_⟩; have n0_ := Aside0.mk (Kd.S_elder' (sI HO506.out) (Kd.S_base ho0) hb); have n1_ := Aside0.mk (Kd.S_lower (Kd.S_new' ho0 (Kd.S_lt (sI HO506.out))) (below_size (by repeat (first | (with_reducible first | exact HB.out | apply below_alloc | apply pw_below_drewN | apply below_drew1 | refine below_set ?_ GE499.out | refine below_set ?_ GE500.out) | exact HB.out)))); have n2_ := sK BK499 hb; have n3_ := sK BK500 hb; have n4_ := sB HB hb; clear HO506; clear BK499; clear BK500; clear HB; have HO506 := n0_; have HO516 := n1_; have BK499 := n2_; have BK500 := n3_; have HB := n4_; clear n0_ n1_ n2_ n3_ n4_; (try clear hb); (try clear hb2); (try clear hk); (try clear hi); (try clear ho0)) | ((with_reducible refine gate_dst (N := 8) rfl ?_); refine sV (N := 8) (cs := #[.int .i64 0, .slice none 0 0]) (t := 43) ?_; intro gb517 hg w40 hbox hb; have n0_ := Aside0.mk (Kd.S_below (sI HO506.out) hb); have n1_ := Aside0.mk (Kd.S_below (sI HO516.out) hb); have n2_ := sK BK499 hb; have n3_ := sK BK500 hb; have n4_ := sB HB hb; have n5_ := Aside0.mk (hbox); have n6_ := sG HB hg; have n7_ := sG HB hg; have n8_ := sN BK499 hg; have n9_ := sM BK499 hg; have n10_ := sN BK500 hg; have n11_ := sM BK500 hg; clear HO506; clear HO516; clear BK499; clear BK500; clear HB; have HO506 := n0_; have HO516 := n1_; have BK499 := n2_; have BK500 := n3_; have HB := n4_; have BK517 := n5_; have GW517 := n6_; have GE517 := n7_; have NB499_517 := n8_; have NB517_499 := n9_; have NB500_517 := n10_; have NB517_500 := n11_; clear n0_ n1_ n2_ n3_ n4_ n5_ n6_ n7_ n8_ n9_ n10_ n11_; clear hb hbox hg; have hnb41 := NB517_499.out; have hnc41 := NB499_517.out; have hnb42 := NB517_500.out; have hnc42 := NB500_517.out; obtain ⟨hcz43_0, hcz43_1, hfz43_0, hfz43_1⟩ := cells2 BK517.out; obtain ⟨Ao44, co44, eo44⟩ := Kd.S_slice HO516.out; subst eo44))
   have n0_ : Aside0 (Kd.S k32 32 ((w40.setCell ⟨gb517, 0, none⟩ (.int .i64 t513)).setCell ⟨gb517, 1, none⟩ (.slice Ao44 t514.length co44)) w.heap.size (fun k_ => some k_ ≠ (.slice Ao44 t514.length co44 : Value).ownBlock) (.slice Ao36 t504.length co36) t504) := ⟨by (with_reducible repeat (first | apply Kd.S_alloc | apply Kd.S_drewN | apply Kd.S_drew)); exact Kd.S_mono (Kd.S_far (p := ⟨gb517, 1, none⟩) (Kd.S_far (p := ⟨gb517, 0, none⟩) (Kd.S_types HO506.out BK517.out (by decide)) (fun _ hk => hk.2) (.int .i64 t513)) (fun _ hk => hk.2) (.slice Ao44 t514.length co44)) (fun _ hk => hk.1.2)⟩
   have n1_ : Aside0 (Kd.S k32 32 ((w40.setCell ⟨gb517, 0, none⟩ (.int .i64 t513)).setCell ⟨gb517, 1, none⟩ (.slice Ao44 t514.length co44)) w.heap.size (fun k_ => some k_ ≠ (.slice Ao36 t504.length co36 : Value).ownBlock) (.slice Ao44 t514.length co44) t514) := ⟨by (with_reducible repeat (first | apply Kd.S_alloc | apply Kd.S_drewN | apply Kd.S_drew)); exact Kd.S_mono (Kd.S_far (p := ⟨gb517, 1, none⟩) (Kd.S_far (p := ⟨gb517, 0, none⟩) (Kd.S_types HO516.out BK517.out (by decide)) (fun _ hk => hk.2) (.int .i64 t513)) (fun _ hk => hk.2) (.slice Ao44 t514.length co44)) (fun _ hk => hk.1.2)⟩
   have n2_ : Aside0 (((w40.setCell ⟨gb517, 0, none⟩ (.int .i64 t513)).setCell ⟨gb517, 1, none⟩ (.slice Ao44 t514.length co44)).heap[gb499]? = some (.cells #[.int .i64 a0_0, .slice A0_1 l0_1.length c0_1] 38 (0, 0))) := ⟨by (with_reducible repeat (first | refine blk_drewN ?_ _ | refine blk_drew ?_ | refine blk_alloc ?_ _)); refine blk_far ?_ NB499_517.out _; (with_reducible repeat (first | refine blk_drewN ?_ _ | refine blk_drew ?_ | refine blk_alloc ?_ _)); refine blk_far ?_ NB499_517.out _; exact sT BK499.out⟩
   have n3_ : Aside0 (((w40.setCell ⟨gb517, 0, none⟩ (.int .i64 t513)).setCell ⟨gb517, 1, none⟩ (.slice Ao44 t514.length co44)).heap[gb500]? = some (.cells #[.int .i64 a1_0, .int .i64 a1_1, .string a1_2, .int .i64 a1_3] 24 (0, 0))) := ⟨by (with_reducible repeat (first | refine blk_drewN ?_ _ | refine blk_drew ?_ | refine blk_alloc ?_ _)); refine blk_far ?_ NB500_517.out _; (with_reducible repeat (first | refine blk_drewN ?_ _ | refine blk_drew ?_ | refine blk_alloc ?_ _)); refine blk_far ?_ NB500_517.out _; exact sT BK500.out⟩
   have n4_ : Aside0 (((w40.setCell ⟨gb517, 0, none⟩ (.int .i64 t513)).setCell ⟨gb517, 1, none⟩ (.slice Ao44 t514.length co44)).heap[gb517]? = some (.cells #[.int .i64 t513, .slice Ao44 t514.length co44] 43 (0, 0))) := ⟨sP2 (sT BK517.out)⟩
   have n5_ : Aside0 (Below w.heap.size w ((w40.setCell ⟨gb517, 0, none⟩ (.int .i64 t513)).setCell ⟨gb517, 1, none⟩ (.slice Ao44 t514.length co44))) := ⟨sb⟩
   (try clear HO506)
   (try clear HO516)
   (try clear BK499)
   (try clear BK500)
   (try clear BK517)
   (try clear HB)
   generalize ((w40.setCell ⟨gb517, 0, none⟩ (.int .i64 t513)).setCell ⟨gb517, 1, none⟩ (.slice Ao44 t514.length co44)) = w45 at n0_ n1_ n2_ n3_ n4_ n5_ ⊢
   have HO506 := n0_
   have HO516 := n1_
   have BK499 := n2_
   have BK500 := n3_
   have BK517 := n4_
   have HB := n5_
   clear n0_ n1_ n2_ n3_ n4_ n5_
   have n0_ := Aside0.mk (Kd.S_drew HO506.out)
   have n1_ := Aside0.mk (Kd.S_drew HO516.out)
   have n2_ := Aside0.mk (blk_drew BK499.out)
   have n3_ := Aside0.mk (blk_drew BK500.out)
   have n4_ := Aside0.mk (blk_drew BK517.out)
   have n5_ := Aside0.mk (below_drew1 HB.out)
   clear HO506
   clear HO516
   clear BK499
   clear BK500
   clear BK517
   clear HB
   have HO506 := n0_
   have HO516 := n1_
   have BK499 := n2_
   have BK500 := n3_
   have BK517 := n4_
   have HB := n5_
   clear n0_ n1_ n2_ n3_ n4_ n5_
   refine start_ (n := 9) (S := fun w' => w'.cell? ⟨gb517, 0, none⟩ = some (.int .i64 t513) ∧ w'.cell? ⟨gb517, 1, none⟩ = some (.slice Ao44 t514.length co44) ∧ w'.cell? ⟨gb500, 0, none⟩ = some (.int .i64 a1_0) ∧ w'.cell? ⟨gb500, 1, none⟩ = some (.int .i64 a1_1) ∧ w'.cell? ⟨gb500, 2, none⟩ = some (.string a1_2) ∧ w'.cell? ⟨gb500, 3, none⟩ = some (.int .i64 a1_3)) (ds := []) #[false, false, false, false, false, false, false, false, false] (by kernel_rfl) rfl rfl ⟨(blk_cell BK517.out 0).trans rfl, (blk_cell BK517.out 1).trans rfl, (blk_cell BK500.out 0).trans rfl, (blk_cell BK500.out 1).trans rfl, (blk_cell BK500.out 2).trans rfl, (blk_cell BK500.out 3).trans rfl⟩ (fun hHeld => ?_); refine with_tabW laws_FnExactSizeOf.tab10 laws_FnExactSizeOf.bits10 (fun HT_ HW_ => ?_)
   generalize w45.drew = w46 at HO506 HO516 BK499 BK500 BK517 HB hHeld ⊢
   refine take_ (i := 0) (N := some 32) (v := ?_) (a' := ?_) #[true, false, false, false, false, false, false, false, false] rfl rfl (take_ofW HT_.out HW_.out (by kernel_rfl)) (fun _ _ _ h => h) (Or.inl ⟨by rfl, ?_⟩) hHeld ?_ ?_
   rotate_left
   ·rintro w' ⟨s0, s1, s2, s3, s4, s5⟩
    go_simp
    with_reducible rfl
   rotate_left
   ·simp only [Act.put, List.setIfInBounds_toArray, List.set_cons_zero, List.set_cons_succ, i64_w, i32_w]
    rfl
   refine take_ (i := 1) (N := some 33) (v := ?_) (a' := ?_) #[true, true, false, false, false, false, false, false, false] rfl rfl (take_ofW HT_.out HW_.out (by kernel_rfl)) (fun _ _ _ h => h) (Or.inl ⟨by rfl, ?_⟩) hHeld ?_ ?_
   rotate_left
   ·rintro w' ⟨s0, s1, s2, s3, s4, s5⟩
    go_simp
    with_reducible rfl
   rotate_left
   ·simp only [Act.put, List.setIfInBounds_toArray, List.set_cons_zero, List.set_cons_succ, i64_w, i32_w]
    rfl
   refine one_ (i := 2) (N := some 34) #[true, true, true, false, false, false, false, false, false] rfl rfl (one_of HT_.out (by kernel_rfl)) (by decide) (fun K hK => ?_)
   refine goes_ Try.func21 (by kernel_rfl) rfl #[.agg #[.int .i64 a1_0, .int .i64 a1_1, .string a1_2, .int .i64 a1_3]] (by rfl) rfl rfl (by (try simp only [List.map_toArray, List.map_cons, List.map_nil]); first | done | rfl | (simp only [List.length_drop, List.length_take]; rfl)) ?_
   with_reducible refine (laws_toValue.calls a1_0 a1_1 a1_2 a1_3 t518 t519 t520 t521 _ A23.out).mono ?_
   rintro e w47 ⟨rfl, hb⟩
   refine ⟨_, rfl, ?_⟩
   have n0_ := Aside0.mk (Kd.S_below (sI HO506.out) hb)
   have n1_ := Aside0.mk (Kd.S_below (sI HO516.out) hb)
   have n2_ := sK BK499 hb
   have n3_ := sK BK500 hb
   have n4_ := sK BK517 hb
   have n5_ := sB HB hb
   clear HO506
   clear HO516
   clear BK499
   clear BK500
   clear BK517
   clear HB
   have HO506 := n0_
   have HO516 := n1_
   have BK499 := n2_
   have BK500 := n3_
   have BK517 := n4_
   have HB := n5_
   clear n0_ n1_ n2_ n3_ n4_ n5_
   (try clear hb)
   (try clear hb2)
   (try clear hk)
   (try clear hi)
   refine hK.out _ _ ⟨(blk_cell BK517.out 0).trans rfl, (blk_cell BK517.out 1).trans rfl, (blk_cell BK500.out 0).trans rfl, (blk_cell BK500.out 1).trans rfl, (blk_cell BK500.out 2).trans rfl, (blk_cell BK500.out 3).trans rfl⟩ (fun hHeld => ?_)
   clear hK K
   refine norm_ (a' := ?_) ?_ ?_
   rotate_left
   ·show Act.put _ (some 34) _ = _
    simp only [Act.put, List.setIfInBounds_toArray, List.set_cons_zero, List.set_cons_succ, i64_w, i32_w]
    rfl
   refine one_ (i := 3) (N := some 35) #[true, true, true, true, false, false, false, false, false] rfl rfl (one_of HT_.out (by kernel_rfl)) (by decide) (fun K hK => ?_)
   refine goes_ Try.func31 (by kernel_rfl) rfl #[.agg #[.int .i64 t513, .slice Ao44 t514.length co44], .agg #[.int .i64 t518, .int .i64 t519, .string t520, .int .i64 t521]] (by rfl) rfl rfl (by (try simp only [List.map_toArray, List.map_cons, List.map_nil]); first | done | rfl | (simp only [List.length_drop, List.length_take]; rfl)) ?_
   with_reducible refine (impl_SizeOf.calls k t513 _ _ t514 t518 t519 t520 t521 t522 t523 _ ?side1 ?side2 A24.out).mono ?_
   (case side1 => exact sD ((Kd.S_reads' HO516.out).2.2))
   (case side2 => exact (Kd.S_reads' HO516.out).2.1)
   rintro e w48 ⟨rfl, hb⟩
   refine ⟨_, rfl, ?_⟩
   have n0_ := Aside0.mk (Kd.S_below (sI HO506.out) hb)
   have n1_ := Aside0.mk (Kd.S_below (sI HO516.out) hb)
   have n2_ := sK BK499 hb
   have n3_ := sK BK500 hb
   have n4_ := sK BK517 hb
   have n5_ := sB HB hb
   clear HO506
   clear HO516
   clear BK499
   clear BK500
   clear BK517
   clear HB
   have HO506 := n0_
   have HO516 := n1_
   have BK499 := n2_
   have BK500 := n3_
   have BK517 := n4_
   have HB := n5_
   clear n0_ n1_ n2_ n3_ n4_ n5_
   (try clear hb)
   (try clear hb2)
   (try clear hk)
   (try clear hi)
   refine hK.out _ _ ⟨(blk_cell BK517.out 0).trans rfl, (blk_cell BK517.out 1).trans rfl, (blk_cell BK500.out 0).trans rfl, (blk_cell BK500.out 1).trans rfl, (blk_cell BK500.out 2).trans rfl, (blk_cell BK500.out 3).trans rfl⟩ (fun hHeld => ?_)
   clear hK K
   refine norm_ (a' := ?_) ?_ ?_
   rotate_left
   ·show Act.put _ (some 35) _ = _
    simp only [Act.put, List.setIfInBounds_toArray, List.set_cons_zero, List.set_cons_succ, i64_w, i32_w]
    rfl
   refine pure_ (i := 4) (N := some 31) (v := ?_) (a' := ?_) #[true, true, true, true, true, false, false, false, false] rfl rfl (any_of HT_.out (by kernel_rfl)) (fun _ _ _ h => h) (Or.inl ⟨by rfl, ?_⟩) ?_ ?_
   rotate_left
   ·intro w'
    go_simp
    with_reducible rfl
   rotate_left
   ·simp only [Act.put, List.setIfInBounds_toArray, List.set_cons_zero, List.set_cons_succ, i64_w, i32_w]
    rfl
   refine pure_ (i := 5) (N := some 36) (v := ?_) (a' := ?_) #[true, true, true, true, true, true, false, false, false] rfl rfl (any_of HT_.out (by kernel_rfl)) (fun _ _ _ h => h) (Or.inl ⟨by rfl, ?_⟩) ?_ ?_
   rotate_left
   ·intro w'
    go_simp
    with_reducible rfl
   rotate_left
   ·simp only [Act.put, List.setIfInBounds_toArray, List.set_cons_zero, List.set_cons_succ, i64_w, i32_w]
    rfl
   refine pure_ (i := 6) (N := some 37) (v := ?_) (a' := ?_) #[true, true, true, true, true, true, true, false, false] rfl rfl (any_of HT_.out (by kernel_rfl)) (fun _ _ _ h => h) (Or.inl ⟨by rfl, ?_⟩) ?_ ?_
   rotate_left
   ·intro w'
    go_simp
    with_reducible rfl
   rotate_left
   ·simp only [Act.put, List.setIfInBounds_toArray, List.set_cons_zero, List.set_cons_succ, i64_w, i32_w]
    rfl
   refine pure_ (i := 7) (N := some 9) (v := ?_) (a' := ?_) #[true, true, true, true, true, true, true, true, false] rfl rfl (any_of HT_.out (by kernel_rfl)) (fun _ _ _ h => h) (Or.inl ⟨by rfl, ?_⟩) ?_ ?_
   rotate_left
   ·intro w'
    go_simp
    with_reducible rfl
   rotate_left
   ·simp only [Act.put, List.setIfInBounds_toArray, List.set_cons_zero, List.set_cons_succ, i64_w, i32_w]
    rfl
   refine pure_ (i := 8) (N := some 10) (v := ?_) (a' := ?_) #[true, true, true, true, true, true, true, true, true] rfl rfl (any_of HT_.out (by kernel_rfl)) (fun _ _ _ h => h) (Or.inl ⟨by rfl, ?_⟩) ?_ ?_
   rotate_left
   ·intro w'
    go_simp
    with_reducible rfl
   rotate_left
   ·simp only [Act.put, List.setIfInBounds_toArray, List.set_cons_zero, List.set_cons_succ, i64_w, i32_w]
    rfl
   refine done_ (done_of HT_.out (by kernel_rfl)) ?_
   go_upto_region 11 with (fail)
   go_cut [45] (fun v45 wc => ∃ (kq : Nat) (x45_24 : Bool), v45 = .bool x45_24 ∧ Aside0 (laws_FnExactSizeOf.j0 kq x45_24 a0_0 l0_1 t513 t514 = some true) ∧ Aside0 (kq ≤ k) ∧ Aside0 (Kd.S k32 32 wc w.heap.size (fun _ => True) (.slice Ao44 t514.length co44) t514) ∧ Aside0 (wc.heap[gb499]? = some (.cells #[.int .i64 a0_0, (.slice A0_1 l0_1.length c0_1)] 38 (0, 0))) ∧ Aside0 (wc.heap[gb500]? = some (.cells #[.int .i64 a1_0, .int .i64 a1_1, .string a1_2, .int .i64 a1_3] 24 (0, 0))) ∧ Aside0 (wc.heap[gb517]? = some (.cells #[.int .i64 t513, (.slice Ao44 t514.length co44)] 43 (0, 0))) ∧ Aside0 (Below w.heap.size w wc))
   case first =>
    have H := HC25.out
    clear HC25
    by_cases c49 : t522 = t511
    ·rw [if_pos c49] at H
     have c49b0 : (t522 == t511) = true := beq_iff_eq.mpr c49
     have c49b1 : (t522 != t511) = false := bne_eq_false_iff_eq.mpr c49
     clear c49
     (first | rw [c49b0] | (simp only [i64_w, i32_w]; rw [c49b0]) | rw [c49b2] | skip)
     have H' := Aside0.mk H
     clear H
     go_wp2
     go_meet
     case rel => exact ⟨_, ((t523 != t512)), sr, H', ⟨by first | omega | exact Nat.le_refl _⟩, ⟨by (with_reducible repeat (first | apply Kd.S_alloc | apply Kd.S_drewN | apply Kd.S_drew)); exact Kd.S_mono HO516.out (fun _ hk => trivial)⟩, ⟨by exact sT BK499.out⟩, ⟨by exact sT BK500.out⟩, ⟨by exact sT BK517.out⟩, ⟨sb⟩⟩
    ·rw [if_neg c49] at H
     have c49b0 : (t522 == t511) = false := beq_eq_false_iff_ne.mpr c49
     have c49b1 : (t522 != t511) = true := bne_iff_ne.mpr c49
     (first | rw [c49b0] | (simp only [i64_w, i32_w]; rw [c49b0]) | rw [c49b2] | skip)
     have H' := Aside0.mk H
     clear H
     go_wp2
     go_meet
     case rel => exact ⟨_, (true), sr, H', ⟨by first | omega | exact Nat.le_refl _⟩, ⟨by (with_reducible repeat (first | apply Kd.S_alloc | apply Kd.S_drewN | apply Kd.S_drew)); exact Kd.S_mono HO516.out (fun _ hk => trivial)⟩, ⟨by exact sT BK499.out⟩, ⟨by exact sT BK500.out⟩, ⟨by exact sT BK517.out⟩, ⟨sb⟩⟩
   case rest =>
    clear HC25
    try clear c1
    try clear c2
    try clear p2
    try clear c3
    try clear c4
    try clear c4b0
    try clear c7
    try clear c8
    try clear c11
    try clear c11b0
    try clear c14
    try clear c16
    try clear c19
    try clear c21
    try clear c28
    try clear c30
    try clear c31
    try clear c41
    try clear c42
    try clear c49
    try clear c49b0
    try clear c49b1
    try clear c49b2
    try clear hcz15_0
    try clear hcz15_1
    try clear hcz17_0
    try clear hcz17_1
    try clear hcz17_2
    try clear hcz17_3
    try clear hcz29_0
    try clear hcz29_1
    try clear hcz31_0
    try clear hcz31_1
    try clear hcz31_2
    try clear hcz31_3
    try clear hcz38_0
    try clear hcz38_1
    try clear hcz43_0
    try clear hcz43_1
    try clear hcz8_0
    try clear hcz8_1
    try clear hfz15_0
    try clear hfz15_1
    try clear hfz17_0
    try clear hfz17_1
    try clear hfz17_2
    try clear hfz17_3
    try clear hfz29_0
    try clear hfz29_1
    try clear hfz31_0
    try clear hfz31_1
    try clear hfz31_2
    try clear hfz31_3
    try clear hfz38_0
    try clear hfz38_1
    try clear hfz43_0
    try clear hfz43_1
    try clear hfz8_0
    try clear hfz8_1
    obtain ⟨kq, x45_24, rfl, HA, HJ24, HO_518001, BK499, BK500, BK517, HB⟩ := hcut
    cases kq with
    | zero => exact absurd HA.out (by simp [laws_FnExactSizeOf.j0])
    | succ kj24 =>
     have H := HA.out
     clear HA
     simp only [laws_FnExactSizeOf.j0] at H
     by_cases c50 : x45_24 = true
     ·subst c50
      rewrite [if_pos rfl] at H
      exact absurd H (by simp)
     ·replace c50 := Bool.eq_false_iff.mpr c50
      subst c50
      rewrite [if_neg (show ¬ (false = true) by decide)] at H
      replace H := Option.bind_eq_some_iff.mp H
      obtain ⟨⟨t524, t525⟩, A510, H⟩ := H
      replace H : ((laws_eqHeap.f kj24 t513 t514 t524 t525).bind fun t528 => (if t528 = true then (some true) else (some false))) = some true := H
      have A51 := Aside0.mk A510
      clear A510
      obtain ⟨t528, A52, H⟩ := sO H
      by_cases c53 : t528 = true
      ·subst c53
       have H1 : (some true) = some true := rfl
       clear H
       have H := H1
       clear H1
       clear H
       try go_wp2
       have n0_ := Aside0.mk (Kd.S_drew HO_518001.out)
       have n1_ := Aside0.mk (blk_drew BK499.out)
       have n2_ := Aside0.mk (blk_drew BK500.out)
       have n3_ := Aside0.mk (blk_drew BK517.out)
       have n4_ := Aside0.mk (below_drew1 HB.out)
       clear HO_518001
       clear BK499
       clear BK500
       clear BK517
       clear HB
       have HO_518001 := n0_
       have BK499 := n1_
       have BK500 := n2_
       have BK517 := n3_
       have HB := n4_
       clear n0_ n1_ n2_ n3_ n4_
       refine start_ (n := 5) (S := fun w' => w'.cell? ⟨gb517, 0, none⟩ = some (.int .i64 t513) ∧ w'.cell? ⟨gb517, 1, none⟩ = some (.slice Ao44 t514.length co44) ∧ w'.cell? ⟨gb499, 0, none⟩ = some (.int .i64 a0_0) ∧ w'.cell? ⟨gb499, 1, none⟩ = some (.slice A0_1 l0_1.length c0_1)) (ds := []) #[false, false, false, false, false] (by kernel_rfl) rfl rfl ⟨(blk_cell BK517.out 0).trans rfl, (blk_cell BK517.out 1).trans rfl, (blk_cell BK499.out 0).trans rfl, (blk_cell BK499.out 1).trans rfl⟩ (fun hHeld => ?_)
       generalize wc.drew = w54 at HO_518001 BK499 BK500 BK517 HB hHeld ⊢
       refine take_ (i := 0) (N := some 46) (v := ?_) (a' := ?_) #[true, false, false, false, false] rfl rfl (by kernel_rfl) (fun _ _ _ h => h) (Or.inl ⟨by rfl, ?_⟩) hHeld ?_ ?_
       rotate_left
       ·rintro w' ⟨s0, s1, s2, s3⟩
        go_simp
        with_reducible rfl
       rotate_left
       ·simp only [Act.put, List.setIfInBounds_toArray, List.set_cons_zero, List.set_cons_succ, i64_w, i32_w]
        rfl
       refine take_ (i := 1) (N := some 47) (v := ?_) (a' := ?_) #[true, true, false, false, false] rfl rfl (by kernel_rfl) (fun _ _ _ h => h) (Or.inl ⟨by rfl, ?_⟩) hHeld ?_ ?_
       rotate_left
       ·rintro w' ⟨s0, s1, s2, s3⟩
        go_simp
        with_reducible rfl
       rotate_left
       ·simp only [Act.put, List.setIfInBounds_toArray, List.set_cons_zero, List.set_cons_succ, i64_w, i32_w]
        rfl
       refine one_ (i := 2) (N := some 48) #[true, true, true, false, false] rfl rfl (by kernel_rfl) (by decide) (fun K hK => ?_)
       refine goes_ Try.func16 (by kernel_rfl) rfl #[.agg #[.int .i64 a0_0, .slice A0_1 l0_1.length c0_1]] (by rfl) rfl rfl (by (try simp only [List.map_toArray, List.map_cons, List.map_nil]); first | done | rfl | (simp only [List.length_drop, List.length_take]; rfl)) ?_
       with_reducible refine (laws_toHeap.calls kj24 a0_0 _ _ l0_1 t524 t525 _ ?side1 ?side2 A51.out).mono ?_
       (case side1 => exact sD (Kd.C_below HR0_1.out HB.out))
       (case side2 => exact HC0_1.out)
       rintro e w55 ⟨v526, rfl, ho0, hb⟩
       refine ⟨_, rfl, ?_⟩
       have n0_ := Aside0.mk (Kd.S_elder' (sI HO_518001.out) (Kd.S_base ho0) hb)
       have n1_ := Aside0.mk (Kd.S_lower (Kd.S_new' ho0 (Kd.S_lt (sI HO_518001.out))) (below_size (by repeat (first | (with_reducible first | exact HB.out | apply below_alloc | apply pw_below_drewN | apply below_drew1 | refine below_set ?_ GE499.out | refine below_set ?_ GE500.out | refine below_set ?_ GE517.out) | exact HB.out))))
       have n2_ := sK BK499 hb
       have n3_ := sK BK500 hb
       have n4_ := sK BK517 hb
       have n5_ := sB HB hb
       clear HO_518001
       clear BK499
       clear BK500
       clear BK517
       clear HB
       have HO_518001 := n0_
       have HO527 := n1_
       have BK499 := n2_
       have BK500 := n3_
       have BK517 := n4_
       have HB := n5_
       clear n0_ n1_ n2_ n3_ n4_ n5_
       (try clear hb)
       (try clear hb2)
       (try clear hk)
       (try clear hi)
       (try clear ho0)
       obtain ⟨Ao56, co56, eo56⟩ := Kd.S_slice HO527.out
       (first | subst eo56 | (injection eo56 with f1_ f2_ f3_; have f4_ := f1_.symm; have f5_ := f3_.symm; clear f1_ f2_ f3_; subst f4_; subst f5_))
       refine hK.out _ _ ⟨(blk_cell BK517.out 0).trans rfl, (blk_cell BK517.out 1).trans rfl, (blk_cell BK499.out 0).trans rfl, (blk_cell BK499.out 1).trans rfl⟩ (fun hHeld => ?_)
       clear hK K
       refine norm_ (a' := ?_) ?_ ?_
       rotate_left
       ·show Act.put _ (some 48) _ = _
        simp only [Act.put, List.setIfInBounds_toArray, List.set_cons_zero, List.set_cons_succ, i64_w, i32_w]
        rfl
       refine one_ (i := 3) (N := some 49) #[true, true, true, true, false] rfl rfl (by kernel_rfl) (by decide) (fun K hK => ?_)
       refine goes_ Try.func18 (by kernel_rfl) rfl #[.agg #[.int .i64 t513, .slice Ao44 t514.length co44], .agg #[.int .i64 t524, .slice Ao56 t525.length co56]] (by rfl) rfl rfl (by (try simp only [List.map_toArray, List.map_cons, List.map_nil]); first | done | rfl | (simp only [List.length_drop, List.length_take]; rfl)) ?_
       with_reducible refine (laws_eqHeap.calls kj24 t513 _ _ t514 t524 _ _ t525 true _ ?side1 ?side2 ?side3 ?side4 A52.out).mono ?_
       (case side1 => exact sD ((Kd.S_reads' HO_518001.out).2.2))
       (case side2 => exact (Kd.S_reads' HO_518001.out).2.1)
       (case side3 => exact sD ((Kd.S_reads' HO527.out).2.2))
       (case side4 => exact (Kd.S_reads' HO527.out).2.1)
       rintro e w57 ⟨rfl, hb⟩
       refine ⟨_, rfl, ?_⟩
       have n0_ := Aside0.mk (Kd.S_below (sI HO_518001.out) hb)
       have n1_ := Aside0.mk (Kd.S_below (sI HO527.out) hb)
       have n2_ := sK BK499 hb
       have n3_ := sK BK500 hb
       have n4_ := sK BK517 hb
       have n5_ := sB HB hb
       clear HO_518001
       clear HO527
       clear BK499
       clear BK500
       clear BK517
       clear HB
       have HO_518001 := n0_
       have HO527 := n1_
       have BK499 := n2_
       have BK500 := n3_
       have BK517 := n4_
       have HB := n5_
       clear n0_ n1_ n2_ n3_ n4_ n5_
       (try clear hb)
       (try clear hb2)
       (try clear hk)
       (try clear hi)
       refine hK.out _ _ ⟨(blk_cell BK517.out 0).trans rfl, (blk_cell BK517.out 1).trans rfl, (blk_cell BK499.out 0).trans rfl, (blk_cell BK499.out 1).trans rfl⟩ (fun hHeld => ?_)
       clear hK K
       refine norm_ (a' := ?_) ?_ ?_
       rotate_left
       ·show Act.put _ (some 49) _ = _
        simp only [Act.put, List.setIfInBounds_toArray, List.set_cons_zero, List.set_cons_succ, i64_w, i32_w]
        rfl
       refine pure_ (i := 4) (N := some 50) (v := ?_) (a' := ?_) #[true, true, true, true, true] rfl rfl (by kernel_rfl) (fun _ _ _ h => h) (Or.inl ⟨by rfl, ?_⟩) ?_ ?_
       rotate_left
       ·intro w'
        go_simp
        with_reducible rfl
       rotate_left
       ·simp only [Act.put, List.setIfInBounds_toArray, List.set_cons_zero, List.set_cons_succ, i64_w, i32_w]
        rfl
       refine done_ (by kernel_rfl) ?_
       try go_wp2
       go_ret
       exact ⟨sq, sb⟩
      ·replace c53 := Bool.eq_false_iff.mpr c53
       subst c53
       rewrite [if_neg (show ¬ (false = true) by decide)] at H
       exact absurd H (by simp)
end Go.Proofs.Ytamegncijkfbhaa.PFnExactFitsHeap
