/- Printed functions: impl_unless, impl_Heap_object, impl_findField. -/
import Derived.Test.YtnjkhdhaiicefaaYGfP0
import Derived.Test.YtnjkhdhaiicefaaYGfP13
import Derived.Test.YtnjkhdhaiicefaaYGfP17
import Derived.Test.YtnjkhdhaiicefaaYGfP18
import Derived.Test.YtnjkhdhaiicefaaYGfP22
namespace Go.Proofs.Ytnjkhdhaiicefaa.PFnExactGetField
open Go.RowKit Go.Proofs.YtnjkhdhaiicefaaG Go.Proofs.YtnjkhdhaiicefaaW.PrintWords Go.Proofs.YtnjkhdhaiicefaaW.PrintLast Go.Proofs.YtnjkhdhaiicefaaW.PrintMore
attribute [local go_sem] max2_int min2_int max_two min_two max_three min_three max_four min_four   -- for this text's walks alone
set_option linter.unusedVariables false
set_option linter.unusedSimpArgs false
/-! ### impl_unless: function 71 -/
def impl_unless.f (a0 : Bool) (a1 : Int) : Option (Int) := if a0 = true then (some 0) else (some a1)
set_option maxHeartbeats 8000000 in
set_option maxRecDepth 100000 in
theorem impl_unless.calls (a0 : Bool) (a1 : Int) (r : Int) (w : World) (h : impl_unless.f a0 a1 = some r) :
  Calls Try.prog 71 #[.bool a0, .int .i64 a1] w fun e w' => e = .returned (.int .i64 r) ∧ Drawn0 w w' := by
 have H : (if a0 = true then (some 0) else (some a1)) = some r := h
 clear h
 by_cases c3 : a0 = true
 ·subst c3
  rewrite [if_pos rfl] at H
  obtain rfl := Option.some.inj H
  go_enter Try.func71, Try.ntmps71
  go_wp2
  go_ret
  exact ⟨by first | rfl | (simp; done) | (simp [*]; done), by repeat (first | exact Drawn0.refl _ | apply Drawn0.step)⟩
 replace c3 := Bool.eq_false_iff.mpr c3
 subst c3
 rewrite [if_neg (show ¬ (false = true) by decide)] at H
 obtain rfl := Option.some.inj H
 go_enter Try.func71, Try.ntmps71
 go_wp2
 go_ret
 exact ⟨by first | rfl | (simp; done) | (simp [*]; done), by repeat (first | exact Drawn0.refl _ | apply Drawn0.step)⟩

/-! ### impl_Heap_object: function 73 -/
def impl_Heap_object.f (k : Nat) (a0_0 : Int) (l0_1 : List (S56)) (a1_0 : Int) (a1_1 : Int) (a1_2 : ByteArray) (a1_3 : Int) : Option (Int) := (impl_refers.f a1_0).bind fun t374 => (if t374 = true then ((impl_Heap_find.f k a0_0 l0_1 a1_3).bind fun t375 => (some t375)) else (some (-1)))
set_option maxHeartbeats 8000000 in
set_option maxRecDepth 100000 in
theorem impl_Heap_object.calls (k : Nat) (a0_0 : Int) (A0_1 : Option Addr) (c0_1 : Nat) (l0_1 : List (S56)) (a1_0 : Int) (a1_1 : Int) (a1_2 : ByteArray) (a1_3 : Int) (r : Int) (w : World) (hr0_1 : Kd.C k56 w A0_1 l0_1.length l0_1) (hc0_1 : l0_1.length ≤ c0_1) (h : impl_Heap_object.f k a0_0 l0_1 a1_0 a1_1 a1_2 a1_3 = some r) :
  Calls Try.prog 73 #[.agg #[.int .i64 a0_0, .slice A0_1 l0_1.length c0_1], .agg #[.int .i64 a1_0, .int .i64 a1_1, .string a1_2, .int .i64 a1_3]] w fun e w' => e = .returned (.int .i64 r) ∧ Below w.heap.size w w' := by
 have hu34 := Try.underlying34
 have hu29 := Try.underlying29
 have HR0_1 := Aside0.mk hr0_1
 have HC0_1 := Aside0.mk hc0_1
 clear hr0_1 hc0_1
 have HB := Aside0.mk (Below.refl w.heap.size w)
 have H : ((impl_refers.f a1_0).bind fun t374 => (if t374 = true then ((impl_Heap_find.f k a0_0 l0_1 a1_3).bind fun t375 => (some t375)) else (some (-1)))) = some r := h
 clear h
 obtain ⟨t374, A3, H⟩ := sO H
 by_cases c4 : t374 = true
 ·subst c4
  rewrite [if_pos rfl] at H
  obtain ⟨t375, A5, H⟩ := sO H
  obtain rfl := Option.some.inj H
  go_enter Try.func73, Try.ntmps73
  go_wp2_with (first | ((with_reducible refine gate_dst (N := 2) rfl ?_); refine sV (N := 2) (cs := #[.int .i64 a0_0, .slice A0_1 l0_1.length c0_1]) (t := 34) ?_; intro gb372 hg w6 hbox hb; have n0_ := sB HB hb; have n1_ := Aside0.mk (hbox); have n2_ := sG HB hg; have n3_ := sG HB hg; clear HB; have HB := n0_; have BK372 := n1_; have GW372 := n2_; have GE372 := n3_; clear n0_ n1_ n2_ n3_; clear hb hbox hg) | ((with_reducible refine gate_dst (N := 3) rfl ?_); refine sV (N := 3) (cs := #[.int .i64 a1_0, .int .i64 a1_1, .string a1_2, .int .i64 a1_3]) (t := 29) ?_; intro gb373 hg w7 hbox hb; have n0_ := sK BK372 hb; have n1_ := sB HB hb; have n2_ := Aside0.mk (hbox); have n3_ := sG HB hg; have n4_ := sG HB hg; have n5_ := sN BK372 hg; have n6_ := sM BK372 hg; clear BK372; clear HB; have BK372 := n0_; have HB := n1_; have BK373 := n2_; have GW373 := n3_; have GE373 := n4_; have NB372_373 := n5_; have NB373_372 := n6_; clear n0_ n1_ n2_ n3_ n4_ n5_ n6_; clear hb hbox hg; have hnb8 := NB373_372.out; have hnc8 := NB372_373.out; obtain ⟨hcz9_0, hcz9_1, hcz9_2, hcz9_3, hfz9_0, hfz9_1, hfz9_2, hfz9_3⟩ := cells4 BK373.out) | ((with_reducible refine gate_callee (f := 77) rfl ?_); refine sC (some 7) Try.func77 #[.int .i64 a1_0] (impl_refers.calls a1_0 true _ A3.out) ?_; rintro e w' ⟨rfl, ⟨nd, rfl⟩⟩; refine ⟨_, rfl, ?_⟩; obtain ⟨hcz10_0, hcz10_1, hfz10_0, hfz10_1⟩ := cells2 BK372.out) | ((with_reducible refine gate_callee (f := 113) rfl ?_); refine sC (some 12) Try.func113 #[.agg #[.int .i64 a0_0, .slice A0_1 l0_1.length c0_1], .int .i64 a1_3] (impl_Heap_find.calls k a0_0 _ _ l0_1 a1_3 t375 _ ?side1 ?side2 A5.out) ?_; (case side1 => exact sD (Kd.C_below HR0_1.out (by repeat (first | (with_reducible first | exact HB.out | apply below_alloc | apply pw_below_drewN | apply below_drew1 | refine below_set ?_ GE372.out | refine below_set ?_ GE373.out) | exact HB.out)))); (case side2 => exact HC0_1.out); rintro e w11 ⟨rfl, hb⟩; refine ⟨_, rfl, ?_⟩; have n0_ := sK BK372 hb; have n1_ := sK BK373 hb; have n2_ := sB HB hb; clear BK372; clear BK373; clear HB; have BK372 := n0_; have BK373 := n1_; have HB := n2_; clear n0_ n1_ n2_; (try clear hb); (try clear hb2); (try clear hk); (try clear hi)))
  go_ret
  exact ⟨sq, sb⟩
 replace c4 := Bool.eq_false_iff.mpr c4
 subst c4
 rewrite [if_neg (show ¬ (false = true) by decide)] at H
 obtain rfl := Option.some.inj H
 go_enter Try.func73, Try.ntmps73
 go_wp2_with (first | ((with_reducible refine gate_dst (N := 2) rfl ?_); refine sV (N := 2) (cs := #[.int .i64 a0_0, .slice A0_1 l0_1.length c0_1]) (t := 34) ?_; intro gb372 hg w12 hbox hb; have n0_ := sB HB hb; have n1_ := Aside0.mk (hbox); have n2_ := sG HB hg; have n3_ := sG HB hg; clear HB; have HB := n0_; have BK372 := n1_; have GW372 := n2_; have GE372 := n3_; clear n0_ n1_ n2_ n3_; clear hb hbox hg) | ((with_reducible refine gate_dst (N := 3) rfl ?_); refine sV (N := 3) (cs := #[.int .i64 a1_0, .int .i64 a1_1, .string a1_2, .int .i64 a1_3]) (t := 29) ?_; intro gb373 hg w13 hbox hb; have n0_ := sK BK372 hb; have n1_ := sB HB hb; have n2_ := Aside0.mk (hbox); have n3_ := sG HB hg; have n4_ := sG HB hg; have n5_ := sN BK372 hg; have n6_ := sM BK372 hg; clear BK372; clear HB; have BK372 := n0_; have HB := n1_; have BK373 := n2_; have GW373 := n3_; have GE373 := n4_; have NB372_373 := n5_; have NB373_372 := n6_; clear n0_ n1_ n2_ n3_ n4_ n5_ n6_; clear hb hbox hg; have hnb14 := NB373_372.out; have hnc14 := NB372_373.out; obtain ⟨hcz15_0, hcz15_1, hcz15_2, hcz15_3, hfz15_0, hfz15_1, hfz15_2, hfz15_3⟩ := cells4 BK373.out) | ((with_reducible refine gate_callee (f := 77) rfl ?_); refine sC (some 7) Try.func77 #[.int .i64 a1_0] (impl_refers.calls a1_0 false _ A3.out) ?_; rintro e w' ⟨rfl, ⟨nd, rfl⟩⟩; refine ⟨_, rfl, ?_⟩))
 go_ret
 exact ⟨sq, sb⟩

/-! ### impl_findField: function 66 -/
def impl_findField.f (k : Nat) (a0_0 : Int) (l0_1 : List (S56)) (a1_0 : Int) (a1_1 : Int) (a1_2 : ByteArray) (a1_3 : Int) (a2 : ByteArray) : Option (Int × Int × Int) := if a1_0 = 6 then ((impl_Heap_object.f k a0_0 l0_1 a1_0 a1_1 a1_2 a1_3).bind fun t378 => (if 0 ≤ t378 then (if t378 < (l0_1.length : Int) then ((impl_textOf.f a2).bind fun bt380 => ((impl_Value.f k ((rd_T56 l0_1 t378).f4) bt380.1 bt380.2.1 bt380.2.2.1 bt380.2.2.2).bind fun t384 => ((impl_unless.f (decide (t384 ≥ 0)) 11).bind fun t385 => (some (t378, t384, t385))))) else (none)) else (none))) else (some (0, 0, 4))
def impl_findField.T4 : Bool × List (List Nat × List Nat) := (true, [([], []), ([0], [0]), ([], []), ([1, 2], [1, 2]), ([3], [3]), ([4], [4]), ([], []), ([6], [6]), ([5, 7, 7], [5, 7]), ([8, 8, 0, 1, 2, 3, 4, 5, 6, 7, 8], [8])])
def impl_findField.B4 : List Nat := [0, 1, 0, 7, 15, 31, 0, 64, 255, 511]
theorem impl_findField.tab4 : rtab .any (opsOf Try.f66 4) = impl_findField.T4 := by kernel_rfl
theorem impl_findField.bits4 : waitsOk impl_findField.T4.2 impl_findField.B4 = true := by kernel_rfl
set_option maxHeartbeats 8000000 in
set_option maxRecDepth 100000 in
theorem impl_findField.calls (k : Nat) (a0_0 : Int) (A0_1 : Option Addr) (c0_1 : Nat) (l0_1 : List (S56)) (a1_0 : Int) (a1_1 : Int) (a1_2 : ByteArray) (a1_3 : Int) (a2 : ByteArray) (r1 : Int) (r2 : Int) (r3 : Int) (w : World) (hr0_1 : Kd.C k56 w A0_1 l0_1.length l0_1) (hc0_1 : l0_1.length ≤ c0_1) (h : impl_findField.f k a0_0 l0_1 a1_0 a1_1 a1_2 a1_3 a2 = some (r1, r2, r3)) :
  Calls Try.prog 66 #[.agg #[.int .i64 a0_0, .slice A0_1 l0_1.length c0_1], .agg #[.int .i64 a1_0, .int .i64 a1_1, .string a1_2, .int .i64 a1_3], .string a2] w fun e w' => e = .returned (.tuple #[.int .i64 r1, .int .i64 r2, .int .i64 r3]) ∧ Below w.heap.size w w' := by
 have hu34 := Try.underlying34
 have hu29 := Try.underlying29
 have HR0_1 := Aside0.mk hr0_1
 have HC0_1 := Aside0.mk hc0_1
 clear hr0_1 hc0_1
 have HB := Aside0.mk (Below.refl w.heap.size w)
 have H : (if a1_0 = 6 then ((impl_Heap_object.f k a0_0 l0_1 a1_0 a1_1 a1_2 a1_3).bind fun t378 => (if 0 ≤ t378 then (if t378 < (l0_1.length : Int) then ((impl_textOf.f a2).bind fun bt380 => ((impl_Value.f k ((rd_T56 l0_1 t378).f4) bt380.1 bt380.2.1 bt380.2.2.1 bt380.2.2.2).bind fun t384 => ((impl_unless.f (decide (t384 ≥ 0)) 11).bind fun t385 => (some (t378, t384, t385))))) else (none)) else (none))) else (some (0, 0, 4))) = some (r1, r2, r3) := h
 clear h
 by_cases c4 : a1_0 = 6
 ·rw [if_pos c4] at H
  have c4b0 : (a1_0 == 6) = true := beq_iff_eq.mpr c4
  have c4b1 : (a1_0 != 6) = false := bne_eq_false_iff_eq.mpr c4
  clear c4
  obtain ⟨t378, A5, H⟩ := sO H
  by_cases c6 : 0 ≤ t378
  ·rw [if_pos c6] at H
   have c6b0 := decide_eq_true c6
   clear c6
   by_cases c7 : t378 < (l0_1.length : Int)
   ·rw [if_pos c7] at H
    have c7b0 := decide_eq_true c7
    clear c7
    replace H := Option.bind_eq_some_iff.mp H
    obtain ⟨⟨t380, t381, t382, t383⟩, A80, H⟩ := H
    replace H : ((impl_Value.f k ((rd_T56 l0_1 t378).f4) t380 t381 t382 t383).bind fun t384 => ((impl_unless.f (decide (t384 ≥ 0)) 11).bind fun t385 => (some (t378, t384, t385)))) = some (r1, r2, r3) := H
    have A8 := Aside0.mk A80
    clear A80
    obtain ⟨t384, A9, H⟩ := sO H
    obtain ⟨t385, A10, H⟩ := sO H
    simp only [Option.some.injEq, Prod.mk.injEq] at H
    obtain ⟨rfl, rfl, rfl⟩ := H
    go_enter Try.func66, Try.ntmps66
    try go_wp2_with (first | ((with_reducible refine gate_dst (N := 3) rfl ?_); refine sV (N := 3) (cs := #[.int .i64 a0_0, .slice A0_1 l0_1.length c0_1]) (t := 34) ?_; intro gb376 hg w11 hbox hb; have n0_ := sB HB hb; have n1_ := Aside0.mk (hbox); have n2_ := sG HB hg; have n3_ := sG HB hg; clear HB; have HB := n0_; have BK376 := n1_; have GW376 := n2_; have GE376 := n3_; clear n0_ n1_ n2_ n3_; clear hb hbox hg) | ((with_reducible refine gate_dst (N := 4) rfl ?_); refine sV (N := 4) (cs := #[.int .i64 a1_0, .int .i64 a1_1, .string a1_2, .int .i64 a1_3]) (t := 29) ?_; intro gb377 hg w12 hbox hb; have n0_ := sK BK376 hb; have n1_ := sB HB hb; have n2_ := Aside0.mk (hbox); have n3_ := sG HB hg; have n4_ := sG HB hg; have n5_ := sN BK376 hg; have n6_ := sM BK376 hg; clear BK376; clear HB; have BK376 := n0_; have HB := n1_; have BK377 := n2_; have GW377 := n3_; have GE377 := n4_; have NB376_377 := n5_; have NB377_376 := n6_; clear n0_ n1_ n2_ n3_ n4_ n5_ n6_; clear hb hbox hg; have hnb13 := NB377_376.out; have hnc13 := NB376_377.out; obtain ⟨hcz14_0, hcz14_1, hcz14_2, hcz14_3, hfz14_0, hfz14_1, hfz14_2, hfz14_3⟩ := cells4 BK377.out; obtain ⟨hcz15_0, hcz15_1, hfz15_0, hfz15_1⟩ := cells2 BK376.out) | ((with_reducible refine gate_callee (f := 73) rfl ?_); refine sC (some 16) Try.func73 #[.agg #[.int .i64 a0_0, .slice A0_1 l0_1.length c0_1], .agg #[.int .i64 a1_0, .int .i64 a1_1, .string a1_2, .int .i64 a1_3]] (impl_Heap_object.calls k a0_0 _ _ l0_1 a1_0 a1_1 a1_2 a1_3 t378 _ ?side1 ?side2 A5.out) ?_; (case side1 => exact sD (Kd.C_below HR0_1.out HB.out)); (case side2 => exact HC0_1.out); rintro e w16 ⟨rfl, hb⟩; refine ⟨_, rfl, ?_⟩; have n0_ := sK BK376 hb; have n1_ := sK BK377 hb; have n2_ := sB HB hb; clear BK376; clear BK377; clear HB; have BK376 := n0_; have BK377 := n1_; have HB := n2_; clear n0_ n1_ n2_; (try clear hb); (try clear hb2); (try clear hk); (try clear hi)))
    have n0_ := Aside0.mk (blk_drew BK376.out)
    have n1_ := Aside0.mk (blk_drew BK377.out)
    have n2_ := Aside0.mk (below_drew1 HB.out)
    clear BK376
    clear BK377
    clear HB
    have BK376 := n0_
    have BK377 := n1_
    have HB := n2_
    clear n0_ n1_ n2_
    have p379 : 0 ≤ (t378 : Int) := of_decide_eq_true (by first | (with_reducible assumption) | assumption)
    have q379 : t378 < (l0_1.length : Int) := of_decide_eq_true (by first | (with_reducible assumption) | assumption)
    obtain ⟨ad379, A379_4, c379_4, A379_5, c379_5, e379, hx379_0, hx379_1, hx379_2, hx379_3, hx379_4, hx379_5, hx379_6, hx379_7, hx379_8, hx379_9, hl379_4, hi379_4, hl379_5, hi379_5⟩ := at_T56 HR0_1.out t378 p379 q379
    have hw379_9 := hx379_9
    have hw379_8 := hx379_8
    have hw379_7 := hx379_7
    have hw379_6 := hx379_6
    have hw379_5 := hx379_5
    have hw379_4 := hx379_4
    have hw379_3 := hx379_3
    have hw379_2 := hx379_2
    have hw379_1 := hx379_1
    have hw379_0 := hx379_0
    cases e379
    replace hx379_0 := sX HB hx379_0
    replace hx379_1 := sX HB hx379_1
    replace hx379_2 := sX HB hx379_2
    replace hx379_3 := sX HB hx379_3
    replace hx379_4 := sX HB hx379_4
    replace hx379_5 := sX HB hx379_5
    replace hx379_6 := sX HB hx379_6
    replace hx379_7 := sX HB hx379_7
    replace hx379_8 := sX HB hx379_8
    replace hx379_9 := sX HB hx379_9
    have HR379_4 := Aside0.mk hi379_4
    have HC379_4 := Aside0.mk hl379_4
    clear hi379_4 hl379_4
    have HR379_5 := Aside0.mk hi379_5
    have HC379_5 := Aside0.mk hl379_5
    clear hi379_5 hl379_5
    replace p379 := eq_true p379
    replace q379 := eq_true q379
    refine start_ (n := 10) (S := fun w' => w'.cell? ⟨gb376, 0, none⟩ = some (.int .i64 a0_0) ∧ w'.cell? ⟨gb376, 1, none⟩ = some (.slice (some ad379) l0_1.length c0_1) ∧ w'.cell? (ad379.add ((t378).toNat * 10)) = some (.int .i64 ((rd_T56 l0_1 t378).f0)) ∧ w'.cell? ⟨(ad379.add ((t378).toNat * 10)).block, (ad379.add ((t378).toNat * 10)).off + 1, none⟩ = some (.int .i64 ((rd_T56 l0_1 t378).f1)) ∧ w'.cell? ⟨(ad379.add ((t378).toNat * 10)).block, (ad379.add ((t378).toNat * 10)).off + 2, none⟩ = some (.string ((rd_T56 l0_1 t378).f2)) ∧ w'.cell? ⟨(ad379.add ((t378).toNat * 10)).block, (ad379.add ((t378).toNat * 10)).off + 3, none⟩ = some (.int .i64 ((rd_T56 l0_1 t378).f3)) ∧ w'.cell? ⟨(ad379.add ((t378).toNat * 10)).block, (ad379.add ((t378).toNat * 10)).off + 4, none⟩ = some (.slice A379_4 ((rd_T56 l0_1 t378).f4).length c379_4) ∧ w'.cell? ⟨(ad379.add ((t378).toNat * 10)).block, (ad379.add ((t378).toNat * 10)).off + 5, none⟩ = some (.slice A379_5 ((rd_T56 l0_1 t378).f5).length c379_5) ∧ w'.cell? ⟨(ad379.add ((t378).toNat * 10)).block, (ad379.add ((t378).toNat * 10)).off + 6, none⟩ = some (.int .i64 ((rd_T56 l0_1 t378).f6.f0)) ∧ w'.cell? ⟨(ad379.add ((t378).toNat * 10)).block, (ad379.add ((t378).toNat * 10)).off + 7, none⟩ = some (.int .i64 ((rd_T56 l0_1 t378).f6.f1)) ∧ w'.cell? ⟨(ad379.add ((t378).toNat * 10)).block, (ad379.add ((t378).toNat * 10)).off + 8, none⟩ = some (.string ((rd_T56 l0_1 t378).f6.f2)) ∧ w'.cell? ⟨(ad379.add ((t378).toNat * 10)).block, (ad379.add ((t378).toNat * 10)).off + 9, none⟩ = some (.int .i64 ((rd_T56 l0_1 t378).f6.f3))) (ds := []) #[false, false, false, false, false, false, false, false, false, false] (by kernel_rfl) rfl rfl ⟨(blk_cell BK376.out 0).trans rfl, (blk_cell BK376.out 1).trans rfl, ((HB.out.cell (World.block_lt_of_cell? w _ hw379_0)).trans hw379_0), ((HB.out.cell (World.block_lt_of_cell? w _ hw379_1)).trans hw379_1), ((HB.out.cell (World.block_lt_of_cell? w _ hw379_2)).trans hw379_2), ((HB.out.cell (World.block_lt_of_cell? w _ hw379_3)).trans hw379_3), ((HB.out.cell (World.block_lt_of_cell? w _ hw379_4)).trans hw379_4), ((HB.out.cell (World.block_lt_of_cell? w _ hw379_5)).trans hw379_5), ((HB.out.cell (World.block_lt_of_cell? w _ hw379_6)).trans hw379_6), ((HB.out.cell (World.block_lt_of_cell? w _ hw379_7)).trans hw379_7), ((HB.out.cell (World.block_lt_of_cell? w _ hw379_8)).trans hw379_8), ((HB.out.cell (World.block_lt_of_cell? w _ hw379_9)).trans hw379_9)⟩ (fun hHeld => ?_); refine with_tabW impl_findField.tab4 impl_findField.bits4 (fun HT_ HW_ => ?_)
    generalize w16.drew = w17 at BK376 BK377 HB HR379_4 HR379_5 hx379_0 hx379_1 hx379_2 hx379_3 hx379_4 hx379_5 hx379_6 hx379_7 hx379_8 hx379_9 hHeld ⊢
    refine pure_ (i := 0) (N := some 17) (v := ?_) (a' := ?_) (bN 10 1) rfl rfl (any_of HT_.out (by kernel_rfl)) (fun _ _ _ h => h) (Or.inl ⟨by rfl, ?_⟩) ?_ ?_
    rotate_left
    ·intro w'
     go_simp
     with_reducible rfl
    rotate_left
    ·simp only [Act.put, List.setIfInBounds_toArray, List.set_cons_zero, List.set_cons_succ, i64_w, i32_w]
     rfl
    refine pure_ (i := 2) (N := some 19) (v := ?_) (a' := ?_) (bN 10 5) rfl rfl (any_of HT_.out (by kernel_rfl)) (fun _ _ _ h => h) (Or.inl ⟨by rfl, ?_⟩) ?_ ?_
    rotate_left
    ·intro w'
     go_simp
     with_reducible rfl
    rotate_left
    ·simp only [Act.put, List.setIfInBounds_toArray, List.set_cons_zero, List.set_cons_succ, i64_w, i32_w]
     rfl
    refine pure_ (i := 6) (N := some 23) (v := ?_) (a' := ?_) (bN 10 69) rfl rfl (any_of HT_.out (by kernel_rfl)) (fun _ _ _ h => h) (Or.inl ⟨by rfl, ?_⟩) ?_ ?_
    rotate_left
    ·intro w'
     go_simp
     with_reducible rfl
    rotate_left
    ·simp only [Act.put, List.setIfInBounds_toArray, List.set_cons_zero, List.set_cons_succ, i64_w, i32_w]
     rfl
    refine take_ (i := 1) (N := some 18) (v := ?_) (a' := ?_) (bN 10 71) rfl rfl (take_ofW HT_.out HW_.out (by kernel_rfl)) (fun _ _ _ h => h) (Or.inl ⟨by rfl, ?_⟩) hHeld ?_ ?_
    rotate_left
    ·rintro w' ⟨s0, s1, s2, s3, s4, s5, s6, s7, s8, s9, s10, s11⟩
     go_simp
     with_reducible rfl
    rotate_left
    ·simp only [Act.put, List.setIfInBounds_toArray, List.set_cons_zero, List.set_cons_succ, i64_w, i32_w]
     rfl
    refine pure_ (i := 3) (N := some 20) (v := ?_) (a' := ?_) (bN 10 79) rfl rfl (any_of HT_.out (by kernel_rfl)) (fun _ _ _ h => h) (Or.inl ⟨by rfl, ?_⟩) ?_ ?_
    rotate_left
    ·intro w'
     go_simp
     with_reducible rfl
    rotate_left
    ·simp only [Act.put, List.setIfInBounds_toArray, List.set_cons_zero, List.set_cons_succ, i64_w, i32_w]
     rfl
    refine pure_ (i := 4) (N := some 21) (v := ?_) (a' := ?_) (bN 10 95) rfl rfl (any_of HT_.out (by kernel_rfl)) (fun _ _ _ h => h) (Or.inl ⟨by rfl, ?_⟩) ?_ ?_
    rotate_left
    ·intro w'
     go_simp
     with_reducible rfl
    rotate_left
    ·simp only [Act.put, List.setIfInBounds_toArray, List.set_cons_zero, List.set_cons_succ, i64_w, i32_w]
     rfl
    refine take_ (i := 5) (N := some 22) (v := ?_) (a' := ?_) (bN 10 127) rfl rfl (take_ofW HT_.out HW_.out (by kernel_rfl)) (fun _ _ _ h => h) (Or.inl ⟨by rfl, ?_⟩) hHeld ?_ ?_
    rotate_left
    ·rintro w' ⟨s0, s1, s2, s3, s4, s5, s6, s7, s8, s9, s10, s11⟩
     go_simp
     with_reducible rfl
    rotate_left
    ·simp only [Act.put, List.setIfInBounds_toArray, List.set_cons_zero, List.set_cons_succ, i64_w, i32_w]
     rfl
    refine one_ (i := 7) (N := some 24) (bN 10 255) rfl rfl (one_of HT_.out (by kernel_rfl)) (by decide) (fun K hK => ?_)
    refine goes_ Try.func111 (by kernel_rfl) rfl #[.string a2] (by rfl) rfl rfl (by (try simp only [List.map_toArray, List.map_cons, List.map_nil]); first | done | rfl | (simp only [List.length_drop, List.length_take]; rfl)) ?_
    with_reducible refine (impl_textOf.calls a2 t380 t381 t382 t383 _ A8.out).mono ?_
    rintro e w18 ⟨rfl, hb⟩
    refine ⟨_, rfl, ?_⟩
    have n0_ := sK BK376 hb
    have n1_ := sK BK377 hb
    have n2_ := sB HB hb
    clear BK376
    clear BK377
    clear HB
    have BK376 := n0_
    have BK377 := n1_
    have HB := n2_
    clear n0_ n1_ n2_
    (try clear hb)
    (try clear hb2)
    (try clear hk)
    (try clear hi)
    refine hK.out _ _ ⟨(blk_cell BK376.out 0).trans rfl, (blk_cell BK376.out 1).trans rfl, ((HB.out.cell (World.block_lt_of_cell? w _ hw379_0)).trans hw379_0), ((HB.out.cell (World.block_lt_of_cell? w _ hw379_1)).trans hw379_1), ((HB.out.cell (World.block_lt_of_cell? w _ hw379_2)).trans hw379_2), ((HB.out.cell (World.block_lt_of_cell? w _ hw379_3)).trans hw379_3), ((HB.out.cell (World.block_lt_of_cell? w _ hw379_4)).trans hw379_4), ((HB.out.cell (World.block_lt_of_cell? w _ hw379_5)).trans hw379_5), ((HB.out.cell (World.block_lt_of_cell? w _ hw379_6)).trans hw379_6), ((HB.out.cell (World.block_lt_of_cell? w _ hw379_7)).trans hw379_7), ((HB.out.cell (World.block_lt_of_cell? w _ hw379_8)).trans hw379_8), ((HB.out.cell (World.block_lt_of_cell? w _ hw379_9)).trans hw379_9)⟩ (fun hHeld => ?_)
    clear hK K
    refine norm_ (a' := ?_) ?_ ?_
    rotate_left
    ·show Act.put _ (some 24) _ = _
     simp only [Act.put, List.setIfInBounds_toArray, List.set_cons_zero, List.set_cons_succ, i64_w, i32_w]
     rfl
    refine one_ (i := 8) (N := some 25) (bN 10 511) rfl rfl (one_of HT_.out (by kernel_rfl)) (by decide) (fun K hK => ?_)
    refine goes_ Try.func110 (by kernel_rfl) rfl #[.slice A379_4 ((rd_T56 l0_1 t378).f4).length c379_4, .agg #[.int .i64 t380, .int .i64 t381, .string t382, .int .i64 t383]] (by rfl) rfl rfl (by (try simp only [List.map_toArray, List.map_cons, List.map_nil]); first | done | rfl | (simp only [List.length_drop, List.length_take]; rfl)) ?_
    with_reducible refine (impl_Value.calls k _ _ ((rd_T56 l0_1 t378).f4) t380 t381 t382 t383 t384 _ ?side1 ?side2 A9.out).mono ?_
    (case side1 => exact sD (Kd.C_below HR379_4.out HB.out))
    (case side2 => exact HC379_4.out)
    rintro e w19 ⟨rfl, hb⟩
    refine ⟨_, rfl, ?_⟩
    have n0_ := sK BK376 hb
    have n1_ := sK BK377 hb
    have n2_ := sB HB hb
    clear BK376
    clear BK377
    clear HB
    have BK376 := n0_
    have BK377 := n1_
    have HB := n2_
    clear n0_ n1_ n2_
    (try clear hb)
    (try clear hb2)
    (try clear hk)
    (try clear hi)
    refine hK.out _ _ ⟨(blk_cell BK376.out 0).trans rfl, (blk_cell BK376.out 1).trans rfl, ((HB.out.cell (World.block_lt_of_cell? w _ hw379_0)).trans hw379_0), ((HB.out.cell (World.block_lt_of_cell? w _ hw379_1)).trans hw379_1), ((HB.out.cell (World.block_lt_of_cell? w _ hw379_2)).trans hw379_2), ((HB.out.cell (World.block_lt_of_cell? w _ hw379_3)).trans hw379_3), ((HB.out.cell (World.block_lt_of_cell? w _ hw379_4)).trans hw379_4), ((HB.out.cell (World.block_lt_of_cell? w _ hw379_5)).trans hw379_5), ((HB.out.cell (World.block_lt_of_cell? w _ hw379_6)).trans hw379_6), ((HB.out.cell (World.block_lt_of_cell? w _ hw379_7)).trans hw379_7), ((HB.out.cell (World.block_lt_of_cell? w _ hw379_8)).trans hw379_8), ((HB.out.cell (World.block_lt_of_cell? w _ hw379_9)).trans hw379_9)⟩ (fun hHeld => ?_)
    clear hK K
    refine norm_ (a' := ?_) ?_ ?_
    rotate_left
    ·show Act.put _ (some 25) _ = _
     simp only [Act.put, List.setIfInBounds_toArray, List.set_cons_zero, List.set_cons_succ, i64_w, i32_w]
     rfl
    refine pure_ (i := 9) (N := some 10) (v := ?_) (a' := ?_) (bN 10 1023) rfl rfl (any_of HT_.out (by kernel_rfl)) (fun _ _ _ h => h) (Or.inl ⟨by rfl, ?_⟩) ?_ ?_
    rotate_left
    ·intro w'
     go_simp
     with_reducible rfl
    rotate_left
    ·simp only [Act.put, List.setIfInBounds_toArray, List.set_cons_zero, List.set_cons_succ, i64_w, i32_w]
     rfl
    refine done_ (done_of HT_.out (by kernel_rfl)) ?_
    try go_wp2_with (first | ((with_reducible refine gate_callee (f := 71) rfl ?_); refine sC (some 30) Try.func71 #[.bool (decide (t384 ≥ 0)), .int .i64 11] (impl_unless.calls (decide (t384 ≥ 0)) 11 t385 _ A10.out) ?_; rintro e w' ⟨rfl, ⟨nd, rfl⟩⟩; refine ⟨_, rfl, ?_⟩))
    go_ret3
    exact ⟨sq, sb⟩
   rw [if_neg c7] at H
   exact absurd H (by simp)
  rw [if_neg c6] at H
  exact absurd H (by simp)
 rw [if_neg c4] at H
 have c4b0 : (a1_0 == 6) = false := beq_eq_false_iff_ne.mpr c4
 have c4b1 : (a1_0 != 6) = true := bne_iff_ne.mpr c4
 simp only [Option.some.injEq, Prod.mk.injEq] at H
 obtain ⟨rfl, rfl, rfl⟩ := H
 go_enter Try.func66, Try.ntmps66
 go_wp2_with (first | ((with_reducible refine gate_dst (N := 3) rfl ?_); refine sV (N := 3) (cs := #[.int .i64 a0_0, .slice A0_1 l0_1.length c0_1]) (t := 34) ?_; intro gb376 hg w20 hbox hb; have n0_ := sB HB hb; have n1_ := Aside0.mk (hbox); have n2_ := sG HB hg; have n3_ := sG HB hg; clear HB; have HB := n0_; have BK376 := n1_; have GW376 := n2_; have GE376 := n3_; clear n0_ n1_ n2_ n3_; clear hb hbox hg) | ((with_reducible refine gate_dst (N := 4) rfl ?_); refine sV (N := 4) (cs := #[.int .i64 a1_0, .int .i64 a1_1, .string a1_2, .int .i64 a1_3]) (t := 29) ?_; intro gb377 hg w21 hbox hb; have n0_ := sK BK376 hb; have n1_ := sB HB hb; have n2_ := Aside0.mk (hbox); have n3_ := sG HB hg; have n4_ := sG HB hg; have n5_ := sN BK376 hg; have n6_ := sM BK376 hg; clear BK376; clear HB; have BK376 := n0_; have HB := n1_; have BK377 := n2_; have GW377 := n3_; have GE377 := n4_; have NB376_377 := n5_; have NB377_376 := n6_; clear n0_ n1_ n2_ n3_ n4_ n5_ n6_; clear hb hbox hg; have hnb22 := NB377_376.out; have hnc22 := NB376_377.out; obtain ⟨hcz23_0, hcz23_1, hcz23_2, hcz23_3, hfz23_0, hfz23_1, hfz23_2, hfz23_3⟩ := cells4 BK377.out))
 go_ret3
 exact ⟨sq, sb⟩
end Go.Proofs.Ytnjkhdhaiicefaa.PFnExactGetField
