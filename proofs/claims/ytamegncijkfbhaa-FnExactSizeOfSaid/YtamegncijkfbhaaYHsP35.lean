/- Printed functions: impl_SizeOf. -/
import Derived.Test.YtamegncijkfbhaaYHsP0
import Derived.Test.YtamegncijkfbhaaYHsP13
import Derived.Test.YtamegncijkfbhaaYHsP33
import Derived.Test.YtamegncijkfbhaaYHsP34
namespace Go.Proofs.Ytamegncijkfbhaa.PFnExactFitsHeap
open Go.RowKit Go.Proofs.YtamegncijkfbhaaG Go.Proofs.YtamegncijkfbhaaW.PrintWords Go.Proofs.YtamegncijkfbhaaW.PrintLast Go.Proofs.YtamegncijkfbhaaW.PrintMore
attribute [local go_sem] max2_int min2_int max_two min_two max_three min_three max_four min_four   -- for this text's walks alone
set_option linter.unusedVariables false
set_option linter.unusedSimpArgs false
/-! ### impl_SizeOf: function 31 -/
def impl_SizeOf.f (k : Nat) (a0_0 : Int) (l0_1 : List (S32)) (a1_0 : Int) (a1_1 : Int) (a1_2 : ByteArray) (a1_3 : Int) : Option (Int × Int) := (impl_fitAll.f k a0_0 l0_1 (([(⟨a1_0, a1_1, a1_2, a1_3⟩ : S30)] : List (S30)))).bind fun t490 => ((impl_refers.f a1_0).bind fun t491 => ((impl_unless.f t491 4).bind fun t492 => ((impl_first.f k (([t490, t492] : List Int))).bind fun t496 => (if t496 = 0 then ((impl_Heap_object.f k a0_0 l0_1 a1_0 a1_1 a1_2 a1_3).bind fun t497 => (if 0 ≤ t497 then (if t497 < (l0_1.length : Int) then (some ((((rd_T32 l0_1 t497).f5).length : Int), 0)) else (none)) else (none))) else (some (0, t496))))))
def impl_SizeOf.T1 : Bool × List (List Nat × List Nat) := (true, [([], []), ([], []), ([1], [1]), ([0, 2], [0, 2]), ([], []), ([4], [4]), ([5, 3], [5]), ([6, 6], [6]), ([3, 7], [3, 7]), ([8, 7], [8]), ([9, 9, 0, 1, 2, 3, 4, 5, 6, 7, 8, 9], [9])])
def impl_SizeOf.B1 : List Nat := [0, 0, 2, 7, 0, 16, 63, 127, 255, 511, 1023]
theorem impl_SizeOf.tab1 : rtab .any (opsOf Try.f31 1) = impl_SizeOf.T1 := by kernel_rfl
theorem impl_SizeOf.bits1 : waitsOk impl_SizeOf.T1.2 impl_SizeOf.B1 = true := by kernel_rfl
def impl_SizeOf.T4 : Bool × List (List Nat × List Nat) := (true, [([], []), ([0], [0]), ([], []), ([], []), ([2, 3], [2, 3]), ([1, 4], [1, 4]), ([5], [5]), ([6], [6]), ([7], [7]), ([8, 4, 0, 1, 2, 3, 4, 5, 6, 7, 8], [8]), ([9, 0, 1, 2, 3, 4, 5, 6, 7, 8, 9], [])])
def impl_SizeOf.B4 : List Nat := [0, 1, 0, 0, 12, 31, 63, 127, 255, 511, 1023]
theorem impl_SizeOf.tab4 : rtab .any (opsOf Try.f31 4) = impl_SizeOf.T4 := by kernel_rfl
theorem impl_SizeOf.bits4 : waitsOk impl_SizeOf.T4.2 impl_SizeOf.B4 = true := by kernel_rfl
set_option maxHeartbeats 8000000 in
set_option maxRecDepth 100000 in
theorem impl_SizeOf.calls (k : Nat) (a0_0 : Int) (A0_1 : Option Addr) (c0_1 : Nat) (l0_1 : List (S32)) (a1_0 : Int) (a1_1 : Int) (a1_2 : ByteArray) (a1_3 : Int) (r1 : Int) (r2 : Int) (w : World) (hr0_1 : Kd.C k32 w A0_1 l0_1.length l0_1) (hc0_1 : l0_1.length ≤ c0_1) (h : impl_SizeOf.f k a0_0 l0_1 a1_0 a1_1 a1_2 a1_3 = some (r1, r2)) :
  Calls Try.prog 31 #[.agg #[.int .i64 a0_0, .slice A0_1 l0_1.length c0_1], .agg #[.int .i64 a1_0, .int .i64 a1_1, .string a1_2, .int .i64 a1_3]] w fun e w' => e = .returned (.tuple #[.int .i64 r1, .int .i64 r2]) ∧ Below w.heap.size w w' := by
 have hu43 := Try.underlying43
 have hu30 := Try.underlying30
 have HR0_1 := Aside0.mk hr0_1
 have HC0_1 := Aside0.mk hc0_1
 clear hr0_1 hc0_1
 have HB := Aside0.mk (Below.refl w.heap.size w)
 have H : ((impl_fitAll.f k a0_0 l0_1 (([(⟨a1_0, a1_1, a1_2, a1_3⟩ : S30)] : List (S30)))).bind fun t490 => ((impl_refers.f a1_0).bind fun t491 => ((impl_unless.f t491 4).bind fun t492 => ((impl_first.f k (([t490, t492] : List Int))).bind fun t496 => (if t496 = 0 then ((impl_Heap_object.f k a0_0 l0_1 a1_0 a1_1 a1_2 a1_3).bind fun t497 => (if 0 ≤ t497 then (if t497 < (l0_1.length : Int) then (some ((((rd_T32 l0_1 t497).f5).length : Int), 0)) else (none)) else (none))) else (some (0, t496))))))) = some (r1, r2) := h
 clear h
 obtain ⟨y487, hy487⟩ : ∃ y_ : List (S30), y_ = (([(⟨a1_0, a1_1, a1_2, a1_3⟩ : S30)] : List (S30))) := ⟨_, rfl⟩
 replace H : ((impl_fitAll.f k a0_0 l0_1 y487).bind fun t490 => ((impl_refers.f a1_0).bind fun t491 => ((impl_unless.f t491 4).bind fun t492 => ((impl_first.f k (([t490, t492] : List Int))).bind fun t496 => (if t496 = 0 then ((impl_Heap_object.f k a0_0 l0_1 a1_0 a1_1 a1_2 a1_3).bind fun t497 => (if 0 ≤ t497 then (if t497 < (l0_1.length : Int) then (some ((((rd_T32 l0_1 t497).f5).length : Int), 0)) else (none)) else (none))) else (some (0, t496))))))) = some (r1, r2) := by first | (rw [hy487]; with_reducible exact H) | (have H2_ := (Option.bind_some _ _).symm.trans H; rw [hy487]; with_reducible exact H2_) | (have H2_ := (Option.bind_some _ _).symm.trans H; with_reducible exact H2_) | with_reducible exact H | (rw [hy487]; exact H) | exact H
 have Ny487 := Aside0.mk hy487
 clear hy487
 obtain ⟨t490, A3, H⟩ := sO H
 obtain ⟨t491, A4, H⟩ := sO H
 obtain ⟨t492, A5, H⟩ := sO H
 obtain ⟨y493, hy493⟩ : ∃ y_ : List Int, y_ = (([t490, t492] : List Int)) := ⟨_, rfl⟩
 replace H : ((impl_first.f k y493).bind fun t496 => (if t496 = 0 then ((impl_Heap_object.f k a0_0 l0_1 a1_0 a1_1 a1_2 a1_3).bind fun t497 => (if 0 ≤ t497 then (if t497 < (l0_1.length : Int) then (some ((((rd_T32 l0_1 t497).f5).length : Int), 0)) else (none)) else (none))) else (some (0, t496)))) = some (r1, r2) := by first | (rw [hy493]; with_reducible exact H) | (have H2_ := (Option.bind_some _ _).symm.trans H; rw [hy493]; with_reducible exact H2_) | (have H2_ := (Option.bind_some _ _).symm.trans H; with_reducible exact H2_) | with_reducible exact H | (rw [hy493]; exact H) | exact H
 have Ny493 := Aside0.mk hy493
 clear hy493
 obtain ⟨t496, A6, H⟩ := sO H
 by_cases c7 : t496 = 0
 ·rw [if_pos c7] at H
  have c7b0 : (t496 == 0) = true := beq_iff_eq.mpr c7
  have c7b1 : (t496 != 0) = false := bne_eq_false_iff_eq.mpr c7
  clear c7
  obtain ⟨t497, A8, H⟩ := sO H
  by_cases c9 : 0 ≤ t497
  ·rw [if_pos c9] at H
   have c9b0 := decide_eq_true c9
   clear c9
   by_cases c10 : t497 < (l0_1.length : Int)
   ·rw [if_pos c10] at H
    have c10b0 := decide_eq_true c10
    clear c10
    simp only [Option.some.injEq, Prod.mk.injEq] at H
    obtain ⟨rfl, rfl⟩ := H
    go_enter Try.func31, Try.ntmps31
    try go_wp2_with (first | ((with_reducible refine gate_dst (N := 2) rfl ?_); refine sV (N := 2) (cs := #[.int .i64 a0_0, .slice A0_1 l0_1.length c0_1]) (t := 43) ?_; intro gb485 hg w11 hbox hb; have n0_ := sB HB hb; have n1_ := Aside0.mk (hbox); have n2_ := sG HB hg; have n3_ := sG HB hg; clear HB; have HB := n0_; have BK485 := n1_; have GW485 := n2_; have GE485 := n3_; clear n0_ n1_ n2_ n3_; clear hb hbox hg) | ((with_reducible refine gate_dst (N := 3) rfl ?_); refine sV (N := 3) (cs := #[.int .i64 a1_0, .int .i64 a1_1, .string a1_2, .int .i64 a1_3]) (t := 30) ?_; intro gb486 hg w12 hbox hb; have n0_ := sK BK485 hb; have n1_ := sB HB hb; have n2_ := Aside0.mk (hbox); have n3_ := sG HB hg; have n4_ := sG HB hg; have n5_ := sN BK485 hg; have n6_ := sM BK485 hg; clear BK485; clear HB; have BK485 := n0_; have HB := n1_; have BK486 := n2_; have GW486 := n3_; have GE486 := n4_; have NB485_486 := n5_; have NB486_485 := n6_; clear n0_ n1_ n2_ n3_ n4_ n5_ n6_; clear hb hbox hg))
    have n0_ := Aside0.mk (blk_drew BK485.out)
    have n1_ := Aside0.mk (blk_drew BK486.out)
    have n2_ := Aside0.mk (below_drew1 HB.out)
    clear BK485
    clear BK486
    clear HB
    have BK485 := n0_
    have BK486 := n1_
    have HB := n2_
    clear n0_ n1_ n2_
    refine start_ (n := 11) (S := fun w' => w'.cell? ⟨gb485, 0, none⟩ = some (.int .i64 a0_0) ∧ w'.cell? ⟨gb485, 1, none⟩ = some (.slice A0_1 l0_1.length c0_1) ∧ w'.cell? ⟨gb486, 0, none⟩ = some (.int .i64 a1_0) ∧ w'.cell? ⟨gb486, 1, none⟩ = some (.int .i64 a1_1) ∧ w'.cell? ⟨gb486, 2, none⟩ = some (.string a1_2) ∧ w'.cell? ⟨gb486, 3, none⟩ = some (.int .i64 a1_3)) (ds := []) #[false, false, false, false, false, false, false, false, false, false, false] (by kernel_rfl) rfl rfl ⟨(blk_cell BK485.out 0).trans rfl, (blk_cell BK485.out 1).trans rfl, (blk_cell BK486.out 0).trans rfl, (blk_cell BK486.out 1).trans rfl, (blk_cell BK486.out 2).trans rfl, (blk_cell BK486.out 3).trans rfl⟩ (fun hHeld => ?_); refine with_tabW impl_SizeOf.tab1 impl_SizeOf.bits1 (fun HT_ HW_ => ?_)
    generalize w12.drew = w13 at BK485 BK486 HB hHeld ⊢
    refine pure_ (i := 4) (N := some 11) (v := ?_) (a' := ?_) #[false, false, false, false, true, false, false, false, false, false, false] rfl rfl (any_of HT_.out (by kernel_rfl)) (fun _ _ _ h => h) (Or.inl ⟨by rfl, ?_⟩) ?_ ?_
    rotate_left
    ·intro w'
     go_simp
     with_reducible rfl
    rotate_left
    ·simp only [Act.put, List.setIfInBounds_toArray, List.set_cons_zero, List.set_cons_succ, i64_w, i32_w]
     rfl
    refine take_ (i := 0) (N := some 7) (v := ?_) (a' := ?_) #[true, false, false, false, true, false, false, false, false, false, false] rfl rfl (take_ofW HT_.out HW_.out (by kernel_rfl)) (fun _ _ _ h => h) (Or.inl ⟨by rfl, ?_⟩) hHeld ?_ ?_
    rotate_left
    ·rintro w' ⟨s0, s1, s2, s3, s4, s5⟩
     go_simp
     with_reducible rfl
    rotate_left
    ·simp only [Act.put, List.setIfInBounds_toArray, List.set_cons_zero, List.set_cons_succ, i64_w, i32_w]
     rfl
    refine take_ (i := 1) (N := some 8) (v := ?_) (a' := ?_) #[true, true, false, false, true, false, false, false, false, false, false] rfl rfl (take_ofW HT_.out HW_.out (by kernel_rfl)) (fun _ _ _ h => h) (Or.inl ⟨by rfl, ?_⟩) hHeld ?_ ?_
    rotate_left
    ·rintro w' ⟨s0, s1, s2, s3, s4, s5⟩
     go_simp
     with_reducible rfl
    rotate_left
    ·simp only [Act.put, List.setIfInBounds_toArray, List.set_cons_zero, List.set_cons_succ, i64_w, i32_w]
     rfl
    refine take_ (i := 5) (N := some 12) (v := ?_) (a' := ?_) #[true, true, false, false, true, true, false, false, false, false, false] rfl rfl (take_ofW HT_.out HW_.out (by kernel_rfl)) (fun _ _ _ h => h) (Or.inl ⟨by rfl, ?_⟩) hHeld ?_ ?_
    rotate_left
    ·rintro w' ⟨s0, s1, s2, s3, s4, s5⟩
     go_simp
     with_reducible rfl
    rotate_left
    ·simp only [Act.put, List.setIfInBounds_toArray, List.set_cons_zero, List.set_cons_succ, i64_w, i32_w]
     rfl
    refine one_ (i := 2) (N := some 9) #[true, true, true, false, true, true, false, false, false, false, false] rfl rfl (one_of HT_.out (by kernel_rfl)) (by decide) (fun K hK => ?_)
    refine Kd.R_lit_step k30 _ 30 ?hg (N := 9) ?hd (xs := ([(⟨a1_0, a1_1, a1_2, a1_3⟩ : S30)] : List (S30))) (inner := [.int .i64 a1_0, .int .i64 a1_1, .string a1_2, .int .i64 a1_3]) (ok := fun _ => True) (okp := fun _ => True) ?hr ?hp (fun _ hk => hk) trivial (Below.refl _ _) (Nat.le_refl _) (by simp) ?_; (case hd => rfl); (case hg => rfl); (case hr => first | (go_simp; done) | (go_simp; rfl)); (case hp => exact (Reps.c4 (show Kd.M k30 _ _ _ (⟨a1_0, a1_1, a1_2, a1_3⟩ : S30) [.int .i64 a1_0, .int .i64 a1_1, .string a1_2, .int .i64 a1_3] from (k30_mkM _ _ _ (⟨a1_0, a1_1, a1_2, a1_3⟩ : S30) )) (Reps.none _ _)))
    intro v488 w14 ho15 hb hg_ hnew_
    clear hg_ hnew_
    (first | rw [← Ny487.out] at ho15 | (simp only [Int.reduceToNat] at ho15; rw [← Ny487.out] at ho15))
    have n0_ := Aside0.mk (Kd.R_lower (Kd.R_newB ho15 (g := gb486) (o := .cells #[.int .i64 a1_0, .int .i64 a1_1, .string a1_2, .int .i64 a1_3] 30 (0, 0)) (sT BK486.out)) (below_size (by repeat (first | (with_reducible first | exact HB.out | apply below_alloc | apply pw_below_drewN | apply below_drew1 | refine below_set ?_ GE485.out | refine below_set ?_ GE486.out) | exact HB.out))))
    have n1_ := sK BK485 hb
    have n2_ := sK BK486 hb
    have n3_ := sB HB hb
    clear BK485
    clear BK486
    clear HB
    have HO489 := n0_
    have BK485 := n1_
    have BK486 := n2_
    have HB := n3_
    clear n0_ n1_ n2_ n3_
    clear hb ho15
    obtain ⟨Ao16, co16, eo16⟩ := Kd.R_slice HO489.out
    (first | subst eo16 | (injection eo16 with f1_ f2_ f3_; have f4_ := f1_.symm; have f5_ := f3_.symm; clear f1_ f2_ f3_; subst f4_; subst f5_))
    refine hK.out _ _ ⟨(blk_cell BK485.out 0).trans rfl, (blk_cell BK485.out 1).trans rfl, (blk_cell BK486.out 0).trans rfl, (blk_cell BK486.out 1).trans rfl, (blk_cell BK486.out 2).trans rfl, (blk_cell BK486.out 3).trans rfl⟩ (fun hHeld => ?_)
    clear hK K
    refine norm_ (a' := ?_) ?_ ?_
    rotate_left
    ·show Act.put _ (some 9) _ = _
     simp only [Act.put, List.setIfInBounds_toArray, List.set_cons_zero, List.set_cons_succ, i64_w, i32_w]
     rfl
    refine one_ (i := 3) (N := some 10) #[true, true, true, true, true, true, false, false, false, false, false] rfl rfl (one_of HT_.out (by kernel_rfl)) (by decide) (fun K hK => ?_)
    refine goes_ Try.func56 (by kernel_rfl) rfl #[.agg #[.int .i64 a0_0, .slice A0_1 l0_1.length c0_1], .slice Ao16 y487.length co16] (by rfl) rfl rfl (by (try simp only [List.map_toArray, List.map_cons, List.map_nil]); first | done | rfl | (simp only [List.length_drop, List.length_take]; rfl)) ?_
    with_reducible refine (impl_fitAll.calls k a0_0 _ _ l0_1 _ _ y487 t490 _ ?side1 ?side2 ?side3 ?side4 A3.out).mono ?_
    (case side1 => exact sD (Kd.C_below HR0_1.out HB.out))
    (case side2 => exact HC0_1.out)
    (case side3 => exact sD ((Kd.R_reads' HO489.out).2.2))
    (case side4 => exact (Kd.R_reads' HO489.out).2.1)
    rintro e w17 ⟨rfl, hb⟩
    refine ⟨_, rfl, ?_⟩
    have n0_ := Aside0.mk (Kd.R_below (sE HO489.out) hb)
    have n1_ := sK BK485 hb
    have n2_ := sK BK486 hb
    have n3_ := sB HB hb
    clear HO489
    clear BK485
    clear BK486
    clear HB
    have HO489 := n0_
    have BK485 := n1_
    have BK486 := n2_
    have HB := n3_
    clear n0_ n1_ n2_ n3_
    (try clear hb)
    (try clear hb2)
    (try clear hk)
    (try clear hi)
    refine hK.out _ _ ⟨(blk_cell BK485.out 0).trans rfl, (blk_cell BK485.out 1).trans rfl, (blk_cell BK486.out 0).trans rfl, (blk_cell BK486.out 1).trans rfl, (blk_cell BK486.out 2).trans rfl, (blk_cell BK486.out 3).trans rfl⟩ (fun hHeld => ?_)
    clear hK K
    refine norm_ (a' := ?_) ?_ ?_
    rotate_left
    ·show Act.put _ (some 10) _ = _
     simp only [Act.put, List.setIfInBounds_toArray, List.set_cons_zero, List.set_cons_succ, i64_w, i32_w]
     rfl
    refine one_ (i := 6) (N := some 13) #[true, true, true, true, true, true, true, false, false, false, false] rfl rfl (one_of HT_.out (by kernel_rfl)) (by decide) (fun K hK => ?_)
    refine goes_ Try.func58 (by kernel_rfl) rfl #[.int .i64 a1_0] (by rfl) rfl rfl (by (try simp only [List.map_toArray, List.map_cons, List.map_nil]); first | done | rfl | (simp only [List.length_drop, List.length_take]; rfl)) ?_
    with_reducible refine (impl_refers.calls a1_0 t491 _ A4.out).mono ?_
    rintro e w' ⟨rfl, ⟨nd, rfl⟩⟩
    refine ⟨_, rfl, ?_⟩
    refine hK.out _ _ ⟨(blk_cell BK485.out 0).trans rfl, (blk_cell BK485.out 1).trans rfl, (blk_cell BK486.out 0).trans rfl, (blk_cell BK486.out 1).trans rfl, (blk_cell BK486.out 2).trans rfl, (blk_cell BK486.out 3).trans rfl⟩ (fun hHeld => ?_)
    clear hK K
    refine norm_ (a' := ?_) ?_ ?_
    rotate_left
    ·show Act.put _ (some 13) _ = _
     simp only [Act.put, List.setIfInBounds_toArray, List.set_cons_zero, List.set_cons_succ, i64_w, i32_w]
     rfl
    refine one_ (i := 7) (N := some 14) #[true, true, true, true, true, true, true, true, false, false, false] rfl rfl (one_of HT_.out (by kernel_rfl)) (by decide) (fun K hK => ?_)
    refine goes_ Try.func57 (by kernel_rfl) rfl #[.bool t491, .int .i64 4] (by rfl) rfl rfl (by (try simp only [List.map_toArray, List.map_cons, List.map_nil]); first | done | rfl | (simp only [List.length_drop, List.length_take]; rfl)) ?_
    with_reducible refine (impl_unless.calls t491 4 t492 _ A5.out).mono ?_
    rintro e w' ⟨rfl, ⟨nd, rfl⟩⟩
    refine ⟨_, rfl, ?_⟩
    refine hK.out _ _ ⟨(blk_cell BK485.out 0).trans rfl, (blk_cell BK485.out 1).trans rfl, (blk_cell BK486.out 0).trans rfl, (blk_cell BK486.out 1).trans rfl, (blk_cell BK486.out 2).trans rfl, (blk_cell BK486.out 3).trans rfl⟩ (fun hHeld => ?_)
    clear hK K
    refine norm_ (a' := ?_) ?_ ?_
    rotate_left
    ·show Act.put _ (some 14) _ = _
     simp only [Act.put, List.setIfInBounds_toArray, List.set_cons_zero, List.set_cons_succ, i64_w, i32_w]
     rfl
    refine one_ (i := 8) (N := some 15) #[true, true, true, true, true, true, true, true, true, false, false] rfl rfl (one_of HT_.out (by kernel_rfl)) (by decide) (fun K hK => ?_)
    refine Kd.R_lit_step (Kd.int .i64) _ 2 ?hg (N := 15) ?hd (xs := ([t490, t492] : List Int)) (inner := [.int .i64 t490, .int .i64 t492]) (ok := fun _ => True) (okp := fun _ => True) ?hr ?hp (fun _ hk => hk) trivial (Below.refl _ _) (Nat.le_refl _) (by simp) ?_; (case hd => rfl); (case hg => rfl); (case hr => first | (go_simp; done) | (go_simp; rfl)); (case hp => exact (Reps.one (show Kd.M (Kd.int .i64) _ _ _ t490 [.int .i64 t490] from rfl) (Reps.one (show Kd.M (Kd.int .i64) _ _ _ t492 [.int .i64 t492] from rfl) (Reps.none _ _))))
    intro v494 w18 ho19 hb hg_ hnew_
    clear hg_ hnew_
    (first | rw [← Ny493.out] at ho19 | (simp only [Int.reduceToNat] at ho19; rw [← Ny493.out] at ho19))
    have n0_ := Aside0.mk (Kd.R_below (sE HO489.out) hb)
    have n1_ := Aside0.mk (Kd.R_lower ho19 (below_size (by repeat (first | (with_reducible first | exact HB.out | apply below_alloc | apply pw_below_drewN | apply below_drew1 | refine below_set ?_ GE485.out | refine below_set ?_ GE486.out) | exact HB.out))))
    have n2_ := sK BK485 hb
    have n3_ := sK BK486 hb
    have n4_ := sB HB hb
    clear HO489
    clear BK485
    clear BK486
    clear HB
    have HO489 := n0_
    have HO495 := n1_
    have BK485 := n2_
    have BK486 := n3_
    have HB := n4_
    clear n0_ n1_ n2_ n3_ n4_
    clear hb ho19
    obtain ⟨Ao20, co20, eo20⟩ := Kd.R_slice HO495.out
    (first | subst eo20 | (injection eo20 with f1_ f2_ f3_; have f4_ := f1_.symm; have f5_ := f3_.symm; clear f1_ f2_ f3_; subst f4_; subst f5_))
    refine hK.out _ _ ⟨(blk_cell BK485.out 0).trans rfl, (blk_cell BK485.out 1).trans rfl, (blk_cell BK486.out 0).trans rfl, (blk_cell BK486.out 1).trans rfl, (blk_cell BK486.out 2).trans rfl, (blk_cell BK486.out 3).trans rfl⟩ (fun hHeld => ?_)
    clear hK K
    refine norm_ (a' := ?_) ?_ ?_
    rotate_left
    ·show Act.put _ (some 15) _ = _
     simp only [Act.put, List.setIfInBounds_toArray, List.set_cons_zero, List.set_cons_succ, i64_w, i32_w]
     rfl
    refine one_ (i := 9) (N := some 16) #[true, true, true, true, true, true, true, true, true, true, false] rfl rfl (one_of HT_.out (by kernel_rfl)) (by decide) (fun K hK => ?_)
    refine goes_ Try.func55 (by kernel_rfl) rfl #[.slice Ao20 y493.length co20] (by rfl) rfl rfl (by (try simp only [List.map_toArray, List.map_cons, List.map_nil]); first | done | rfl | (simp only [List.length_drop, List.length_take]; rfl)) ?_
    with_reducible refine (impl_first.calls k _ _ y493 t496 _ ?side1 ?side2 A6.out).mono ?_
    (case side1 => exact sD ((Kd.R_reads' HO495.out).2.2))
    (case side2 => exact (Kd.R_reads' HO495.out).2.1)
    rintro e w' ⟨rfl, ⟨nd, rfl⟩⟩
    refine ⟨_, rfl, ?_⟩
    refine hK.out _ _ ⟨(blk_cell BK485.out 0).trans rfl, (blk_cell BK485.out 1).trans rfl, (blk_cell BK486.out 0).trans rfl, (blk_cell BK486.out 1).trans rfl, (blk_cell BK486.out 2).trans rfl, (blk_cell BK486.out 3).trans rfl⟩ (fun hHeld => ?_)
    clear hK K
    refine norm_ (a' := ?_) ?_ ?_
    rotate_left
    ·show Act.put _ (some 16) _ = _
     simp only [Act.put, List.setIfInBounds_toArray, List.set_cons_zero, List.set_cons_succ, i64_w, i32_w]
     rfl
    refine pure_ (i := 10) (N := some 6) (v := ?_) (a' := ?_) #[true, true, true, true, true, true, true, true, true, true, true] rfl rfl (any_of HT_.out (by kernel_rfl)) (fun _ _ _ h => h) (Or.inl ⟨by rfl, ?_⟩) ?_ ?_
    rotate_left
    ·intro w'
     go_simp
     with_reducible rfl
    rotate_left
    ·simp only [Act.put, List.setIfInBounds_toArray, List.set_cons_zero, List.set_cons_succ, i64_w, i32_w]
     rfl
    refine done_ (done_of HT_.out (by kernel_rfl)) ?_
    try go_wp2
    (try (rw [drewN_self w18]; generalize hq_ : World.drewN w18 _ = w18; have n0_ : Aside0 (Kd.R k30 30 w18 w.heap.size (fun k_ => k_ ≠ gb486) (.slice Ao16 y487.length co16) y487) := ⟨by rw [← hq_]; exact (by (with_reducible repeat (first | apply Kd.R_alloc | apply Kd.R_drewN | apply Kd.R_drew)); exact Kd.R_mono HO489.out (fun _ hk => hk.2))⟩; have n1_ : Aside0 (Kd.R (Kd.int .i64) 2 w18 w.heap.size (fun _ => True) (.slice Ao20 y493.length co20) y493) := ⟨by rw [← hq_]; exact (sE HO495.out)⟩; have n2_ : Aside0 (w18.heap[gb485]? = some (.cells #[.int .i64 a0_0, .slice A0_1 l0_1.length c0_1] 43 (0, 0))) := ⟨by rw [← hq_]; exact (sT BK485.out)⟩; have n3_ : Aside0 (w18.heap[gb486]? = some (.cells #[.int .i64 a1_0, .int .i64 a1_1, .string a1_2, .int .i64 a1_3] 30 (0, 0))) := ⟨by rw [← hq_]; exact (sT BK486.out)⟩; have n4_ : Aside0 (Below w.heap.size w w18) := ⟨by rw [← hq_]; exact (by repeat (first | (with_reducible first | exact HB.out | apply below_alloc | apply pw_below_drewN | apply below_drew1 | refine below_set ?_ GE485.out | refine below_set ?_ GE486.out) | exact HB.out))⟩; clear HO489 HO495 BK485 BK486 HB hq_; have HO489 := n0_; have HO495 := n1_; have BK485 := n2_; have BK486 := n3_; have HB := n4_; clear n0_ n1_ n2_ n3_ n4_))
    have n0_ := Aside0.mk (Kd.R_drew HO489.out)
    have n1_ := Aside0.mk (Kd.R_drew HO495.out)
    have n2_ := Aside0.mk (blk_drew BK485.out)
    have n3_ := Aside0.mk (blk_drew BK486.out)
    have n4_ := Aside0.mk (below_drew1 HB.out)
    clear HO489
    clear HO495
    clear BK485
    clear BK486
    clear HB
    have HO489 := n0_
    have HO495 := n1_
    have BK485 := n2_
    have BK486 := n3_
    have HB := n4_
    clear n0_ n1_ n2_ n3_ n4_
    have p498 : 0 ≤ (t497 : Int) := of_decide_eq_true (by first | (with_reducible assumption) | assumption)
    have q498 : t497 < (l0_1.length : Int) := of_decide_eq_true (by first | (with_reducible assumption) | assumption)
    obtain ⟨ad498, A498_4, c498_4, A498_5, c498_5, e498, hx498_0, hx498_1, hx498_2, hx498_3, hx498_4, hx498_5, hx498_6, hx498_7, hx498_8, hx498_9, hl498_4, hi498_4, hl498_5, hi498_5⟩ := at_T32 HR0_1.out t497 p498 q498
    have hw498_9 := hx498_9
    have hw498_8 := hx498_8
    have hw498_7 := hx498_7
    have hw498_6 := hx498_6
    have hw498_5 := hx498_5
    have hw498_4 := hx498_4
    have hw498_3 := hx498_3
    have hw498_2 := hx498_2
    have hw498_1 := hx498_1
    have hw498_0 := hx498_0
    cases e498
    replace hx498_0 := sX HB hx498_0
    replace hx498_1 := sX HB hx498_1
    replace hx498_2 := sX HB hx498_2
    replace hx498_3 := sX HB hx498_3
    replace hx498_4 := sX HB hx498_4
    replace hx498_5 := sX HB hx498_5
    replace hx498_6 := sX HB hx498_6
    replace hx498_7 := sX HB hx498_7
    replace hx498_8 := sX HB hx498_8
    replace hx498_9 := sX HB hx498_9
    have HR498_4 := Aside0.mk hi498_4
    have HC498_4 := Aside0.mk hl498_4
    clear hi498_4 hl498_4
    have HR498_5 := Aside0.mk hi498_5
    have HC498_5 := Aside0.mk hl498_5
    clear hi498_5 hl498_5
    replace p498 := eq_true p498
    replace q498 := eq_true q498
    refine start_ (n := 11) (S := fun w' => w'.cell? ⟨gb485, 0, none⟩ = some (.int .i64 a0_0) ∧ w'.cell? ⟨gb485, 1, none⟩ = some (.slice (some ad498) l0_1.length c0_1) ∧ w'.cell? ⟨gb486, 0, none⟩ = some (.int .i64 a1_0) ∧ w'.cell? ⟨gb486, 1, none⟩ = some (.int .i64 a1_1) ∧ w'.cell? ⟨gb486, 2, none⟩ = some (.string a1_2) ∧ w'.cell? ⟨gb486, 3, none⟩ = some (.int .i64 a1_3) ∧ w'.cell? (ad498.add ((t497).toNat * 10)) = some (.int .i64 ((rd_T32 l0_1 t497).f0)) ∧ w'.cell? ⟨(ad498.add ((t497).toNat * 10)).block, (ad498.add ((t497).toNat * 10)).off + 1, none⟩ = some (.int .i64 ((rd_T32 l0_1 t497).f1)) ∧ w'.cell? ⟨(ad498.add ((t497).toNat * 10)).block, (ad498.add ((t497).toNat * 10)).off + 2, none⟩ = some (.string ((rd_T32 l0_1 t497).f2)) ∧ w'.cell? ⟨(ad498.add ((t497).toNat * 10)).block, (ad498.add ((t497).toNat * 10)).off + 3, none⟩ = some (.int .i64 ((rd_T32 l0_1 t497).f3)) ∧ w'.cell? ⟨(ad498.add ((t497).toNat * 10)).block, (ad498.add ((t497).toNat * 10)).off + 4, none⟩ = some (.slice A498_4 ((rd_T32 l0_1 t497).f4).length c498_4) ∧ w'.cell? ⟨(ad498.add ((t497).toNat * 10)).block, (ad498.add ((t497).toNat * 10)).off + 5, none⟩ = some (.slice A498_5 ((rd_T32 l0_1 t497).f5).length c498_5) ∧ w'.cell? ⟨(ad498.add ((t497).toNat * 10)).block, (ad498.add ((t497).toNat * 10)).off + 6, none⟩ = some (.int .i64 ((rd_T32 l0_1 t497).f6.f0)) ∧ w'.cell? ⟨(ad498.add ((t497).toNat * 10)).block, (ad498.add ((t497).toNat * 10)).off + 7, none⟩ = some (.int .i64 ((rd_T32 l0_1 t497).f6.f1)) ∧ w'.cell? ⟨(ad498.add ((t497).toNat * 10)).block, (ad498.add ((t497).toNat * 10)).off + 8, none⟩ = some (.string ((rd_T32 l0_1 t497).f6.f2)) ∧ w'.cell? ⟨(ad498.add ((t497).toNat * 10)).block, (ad498.add ((t497).toNat * 10)).off + 9, none⟩ = some (.int .i64 ((rd_T32 l0_1 t497).f6.f3))) (ds := []) #[false, false, false, false, false, false, false, false, false, false, false] (by kernel_rfl) rfl rfl ⟨(blk_cell BK485.out 0).trans rfl, (blk_cell BK485.out 1).trans rfl, (blk_cell BK486.out 0).trans rfl, (blk_cell BK486.out 1).trans rfl, (blk_cell BK486.out 2).trans rfl, (blk_cell BK486.out 3).trans rfl, ((HB.out.cell (World.block_lt_of_cell? w _ hw498_0)).trans hw498_0), ((HB.out.cell (World.block_lt_of_cell? w _ hw498_1)).trans hw498_1), ((HB.out.cell (World.block_lt_of_cell? w _ hw498_2)).trans hw498_2), ((HB.out.cell (World.block_lt_of_cell? w _ hw498_3)).trans hw498_3), ((HB.out.cell (World.block_lt_of_cell? w _ hw498_4)).trans hw498_4), ((HB.out.cell (World.block_lt_of_cell? w _ hw498_5)).trans hw498_5), ((HB.out.cell (World.block_lt_of_cell? w _ hw498_6)).trans hw498_6), ((HB.out.cell (World.block_lt_of_cell? w _ hw498_7)).trans hw498_7), ((HB.out.cell (World.block_lt_of_cell? w _ hw498_8)).trans hw498_8), ((HB.out.cell (World.block_lt_of_cell? w _ hw498_9)).trans hw498_9)⟩ (fun hHeld => ?_); refine with_tabW impl_SizeOf.tab4 impl_SizeOf.bits4 (fun HT_ HW_ => ?_)
    generalize w18.drew = w21 at HO489 HO495 BK485 BK486 HB HR498_4 HR498_5 hx498_0 hx498_1 hx498_2 hx498_3 hx498_4 hx498_5 hx498_6 hx498_7 hx498_8 hx498_9 hHeld ⊢
    refine pure_ (i := 0) (N := some 20) (v := ?_) (a' := ?_) #[true, false, false, false, false, false, false, false, false, false, false] rfl rfl (any_of HT_.out (by kernel_rfl)) (fun _ _ _ h => h) (Or.inl ⟨by rfl, ?_⟩) ?_ ?_
    rotate_left
    ·intro w'
     go_simp
     with_reducible rfl
    rotate_left
    ·simp only [Act.put, List.setIfInBounds_toArray, List.set_cons_zero, List.set_cons_succ, i64_w, i32_w]
     rfl
    refine take_ (i := 1) (N := some 21) (v := ?_) (a' := ?_) #[true, true, false, false, false, false, false, false, false, false, false] rfl rfl (take_ofW HT_.out HW_.out (by kernel_rfl)) (fun _ _ _ h => h) (Or.inl ⟨by rfl, ?_⟩) hHeld ?_ ?_
    rotate_left
    ·rintro w' ⟨s0, s1, s2, s3, s4, s5, s6, s7, s8, s9, s10, s11, s12, s13, s14, s15⟩
     go_simp
     with_reducible rfl
    rotate_left
    ·simp only [Act.put, List.setIfInBounds_toArray, List.set_cons_zero, List.set_cons_succ, i64_w, i32_w]
     rfl
    refine take_ (i := 2) (N := some 22) (v := ?_) (a' := ?_) #[true, true, true, false, false, false, false, false, false, false, false] rfl rfl (take_ofW HT_.out HW_.out (by kernel_rfl)) (fun _ _ _ h => h) (Or.inl ⟨by rfl, ?_⟩) hHeld ?_ ?_
    rotate_left
    ·rintro w' ⟨s0, s1, s2, s3, s4, s5, s6, s7, s8, s9, s10, s11, s12, s13, s14, s15⟩
     go_simp
     with_reducible rfl
    rotate_left
    ·simp only [Act.put, List.setIfInBounds_toArray, List.set_cons_zero, List.set_cons_succ, i64_w, i32_w]
     rfl
    refine take_ (i := 3) (N := some 23) (v := ?_) (a' := ?_) #[true, true, true, true, false, false, false, false, false, false, false] rfl rfl (take_ofW HT_.out HW_.out (by kernel_rfl)) (fun _ _ _ h => h) (Or.inl ⟨by rfl, ?_⟩) hHeld ?_ ?_
    rotate_left
    ·rintro w' ⟨s0, s1, s2, s3, s4, s5, s6, s7, s8, s9, s10, s11, s12, s13, s14, s15⟩
     go_simp
     with_reducible rfl
    rotate_left
    ·simp only [Act.put, List.setIfInBounds_toArray, List.set_cons_zero, List.set_cons_succ, i64_w, i32_w]
     rfl
    refine one_ (i := 4) (N := some 24) #[true, true, true, true, true, false, false, false, false, false, false] rfl rfl (one_of HT_.out (by kernel_rfl)) (by decide) (fun K hK => ?_)
    refine goes_ Try.func59 (by kernel_rfl) rfl #[.agg #[.int .i64 a0_0, .slice (some ad498) l0_1.length c0_1], .agg #[.int .i64 a1_0, .int .i64 a1_1, .string a1_2, .int .i64 a1_3]] (by rfl) rfl rfl (by (try simp only [List.map_toArray, List.map_cons, List.map_nil]); first | done | rfl | (simp only [List.length_drop, List.length_take]; rfl)) ?_
    with_reducible refine (impl_Heap_object.calls k a0_0 _ _ l0_1 a1_0 a1_1 a1_2 a1_3 t497 _ ?side1 ?side2 A8.out).mono ?_
    (case side1 => exact sD (Kd.C_below HR0_1.out HB.out))
    (case side2 => exact HC0_1.out)
    rintro e w22 ⟨rfl, hb⟩
    refine ⟨_, rfl, ?_⟩
    have n0_ := Aside0.mk (Kd.R_below (sE HO489.out) hb)
    have n1_ := Aside0.mk (Kd.R_below (sE HO495.out) hb)
    have n2_ := sK BK485 hb
    have n3_ := sK BK486 hb
    have n4_ := sB HB hb
    clear HO489
    clear HO495
    clear BK485
    clear BK486
    clear HB
    have HO489 := n0_
    have HO495 := n1_
    have BK485 := n2_
    have BK486 := n3_
    have HB := n4_
    clear n0_ n1_ n2_ n3_ n4_
    (try clear hb)
    (try clear hb2)
    (try clear hk)
    (try clear hi)
    refine hK.out _ _ ⟨(blk_cell BK485.out 0).trans rfl, (blk_cell BK485.out 1).trans rfl, (blk_cell BK486.out 0).trans rfl, (blk_cell BK486.out 1).trans rfl, (blk_cell BK486.out 2).trans rfl, (blk_cell BK486.out 3).trans rfl, ((HB.out.cell (World.block_lt_of_cell? w _ hw498_0)).trans hw498_0), ((HB.out.cell (World.block_lt_of_cell? w _ hw498_1)).trans hw498_1), ((HB.out.cell (World.block_lt_of_cell? w _ hw498_2)).trans hw498_2), ((HB.out.cell (World.block_lt_of_cell? w _ hw498_3)).trans hw498_3), ((HB.out.cell (World.block_lt_of_cell? w _ hw498_4)).trans hw498_4), ((HB.out.cell (World.block_lt_of_cell? w _ hw498_5)).trans hw498_5), ((HB.out.cell (World.block_lt_of_cell? w _ hw498_6)).trans hw498_6), ((HB.out.cell (World.block_lt_of_cell? w _ hw498_7)).trans hw498_7), ((HB.out.cell (World.block_lt_of_cell? w _ hw498_8)).trans hw498_8), ((HB.out.cell (World.block_lt_of_cell? w _ hw498_9)).trans hw498_9)⟩ (fun hHeld => ?_)
    clear hK K
    refine norm_ (a' := ?_) ?_ ?_
    rotate_left
    ·show Act.put _ (some 24) _ = _
     simp only [Act.put, List.setIfInBounds_toArray, List.set_cons_zero, List.set_cons_succ, i64_w, i32_w]
     rfl
    refine pure_ (i := 5) (N := some 25) (v := ?_) (a' := ?_) #[true, true, true, true, true, true, false, false, false, false, false] rfl rfl (any_of HT_.out (by kernel_rfl)) (fun _ _ _ h => h) (Or.inl ⟨by rfl, ?_⟩) ?_ ?_
    rotate_left
    ·intro w'
     go_simp
     with_reducible rfl
    rotate_left
    ·simp only [Act.put, List.setIfInBounds_toArray, List.set_cons_zero, List.set_cons_succ, i64_w, i32_w]
     rfl
    refine pure_ (i := 6) (N := some 26) (v := ?_) (a' := ?_) #[true, true, true, true, true, true, true, false, false, false, false] rfl rfl (any_of HT_.out (by kernel_rfl)) (fun _ _ _ h => h) (Or.inl ⟨by rfl, ?_⟩) ?_ ?_
    rotate_left
    ·intro w'
     go_simp
     with_reducible rfl
    rotate_left
    ·simp only [Act.put, List.setIfInBounds_toArray, List.set_cons_zero, List.set_cons_succ, i64_w, i32_w]
     rfl
    refine take_ (i := 7) (N := some 27) (v := ?_) (a' := ?_) #[true, true, true, true, true, true, true, true, false, false, false] rfl rfl (take_ofW HT_.out HW_.out (by kernel_rfl)) (fun _ _ _ h => h) (Or.inl ⟨by rfl, ?_⟩) hHeld ?_ ?_
    rotate_left
    ·rintro w' ⟨s0, s1, s2, s3, s4, s5, s6, s7, s8, s9, s10, s11, s12, s13, s14, s15⟩
     go_simp
     with_reducible rfl
    rotate_left
    ·simp only [Act.put, List.setIfInBounds_toArray, List.set_cons_zero, List.set_cons_succ, i64_w, i32_w]
     rfl
    refine pure_ (i := 8) (N := some 28) (v := ?_) (a' := ?_) #[true, true, true, true, true, true, true, true, true, false, false] rfl rfl (any_of HT_.out (by kernel_rfl)) (fun _ _ _ h => h) (Or.inl ⟨by rfl, ?_⟩) ?_ ?_
    rotate_left
    ·intro w'
     go_simp
     with_reducible rfl
    rotate_left
    ·simp only [Act.put, List.setIfInBounds_toArray, List.set_cons_zero, List.set_cons_succ, i64_w, i32_w]
     rfl
    refine pure_ (i := 9) (N := some 4) (v := ?_) (a' := ?_) #[true, true, true, true, true, true, true, true, true, true, false] rfl rfl (any_of HT_.out (by kernel_rfl)) (fun _ _ _ h => h) (Or.inl ⟨by rfl, ?_⟩) ?_ ?_
    rotate_left
    ·intro w'
     go_simp
     with_reducible rfl
    rotate_left
    ·simp only [Act.put, List.setIfInBounds_toArray, List.set_cons_zero, List.set_cons_succ, i64_w, i32_w]
     rfl
    refine pure_ (i := 10) (N := some 5) (v := ?_) (a' := ?_) #[true, true, true, true, true, true, true, true, true, true, true] rfl rfl (any_of HT_.out (by kernel_rfl)) (fun _ _ _ h => h) (Or.inl ⟨by rfl, ?_⟩) ?_ ?_
    rotate_left
    ·intro w'
     go_simp
     with_reducible rfl
    rotate_left
    ·simp only [Act.put, List.setIfInBounds_toArray, List.set_cons_zero, List.set_cons_succ, i64_w, i32_w]
     rfl
    refine done_ (done_of HT_.out (by kernel_rfl)) ?_
    try go_wp2
    go_ret2
    exact ⟨sq, sb⟩
   ·rw [if_neg c10] at H
    exact absurd H (by simp)
  ·rw [if_neg c9] at H
   exact absurd H (by simp)
 ·rw [if_neg c7] at H
  have c7b0 : (t496 == 0) = false := beq_eq_false_iff_ne.mpr c7
  have c7b1 : (t496 != 0) = true := bne_iff_ne.mpr c7
  simp only [Option.some.injEq, Prod.mk.injEq] at H
  obtain ⟨rfl, rfl⟩ := H
  go_enter Try.func31, Try.ntmps31
  try go_wp2_with (first | ((with_reducible refine gate_dst (N := 2) rfl ?_); refine sV (N := 2) (cs := #[.int .i64 a0_0, .slice A0_1 l0_1.length c0_1]) (t := 43) ?_; intro gb485 hg w23 hbox hb; have n0_ := sB HB hb; have n1_ := Aside0.mk (hbox); have n2_ := sG HB hg; have n3_ := sG HB hg; clear HB; have HB := n0_; have BK485 := n1_; have GW485 := n2_; have GE485 := n3_; clear n0_ n1_ n2_ n3_; clear hb hbox hg) | ((with_reducible refine gate_dst (N := 3) rfl ?_); refine sV (N := 3) (cs := #[.int .i64 a1_0, .int .i64 a1_1, .string a1_2, .int .i64 a1_3]) (t := 30) ?_; intro gb486 hg w24 hbox hb; have n0_ := sK BK485 hb; have n1_ := sB HB hb; have n2_ := Aside0.mk (hbox); have n3_ := sG HB hg; have n4_ := sG HB hg; have n5_ := sN BK485 hg; have n6_ := sM BK485 hg; clear BK485; clear HB; have BK485 := n0_; have HB := n1_; have BK486 := n2_; have GW486 := n3_; have GE486 := n4_; have NB485_486 := n5_; have NB486_485 := n6_; clear n0_ n1_ n2_ n3_ n4_ n5_ n6_; clear hb hbox hg))
  have n0_ := Aside0.mk (blk_drew BK485.out)
  have n1_ := Aside0.mk (blk_drew BK486.out)
  have n2_ := Aside0.mk (below_drew1 HB.out)
  clear BK485
  clear BK486
  clear HB
  have BK485 := n0_
  have BK486 := n1_
  have HB := n2_
  clear n0_ n1_ n2_
  refine start_ (n := 11) (S := fun w' => w'.cell? ⟨gb485, 0, none⟩ = some (.int .i64 a0_0) ∧ w'.cell? ⟨gb485, 1, none⟩ = some (.slice A0_1 l0_1.length c0_1) ∧ w'.cell? ⟨gb486, 0, none⟩ = some (.int .i64 a1_0) ∧ w'.cell? ⟨gb486, 1, none⟩ = some (.int .i64 a1_1) ∧ w'.cell? ⟨gb486, 2, none⟩ = some (.string a1_2) ∧ w'.cell? ⟨gb486, 3, none⟩ = some (.int .i64 a1_3)) (ds := []) #[false, false, false, false, false, false, false, false, false, false, false] (by kernel_rfl) rfl rfl ⟨(blk_cell BK485.out 0).trans rfl, (blk_cell BK485.out 1).trans rfl, (blk_cell BK486.out 0).trans rfl, (blk_cell BK486.out 1).trans rfl, (blk_cell BK486.out 2).trans rfl, (blk_cell BK486.out 3).trans rfl⟩ (fun hHeld => ?_); refine with_tabW impl_SizeOf.tab1 impl_SizeOf.bits1 (fun HT_ HW_ => ?_)
  generalize w24.drew = w25 at BK485 BK486 HB hHeld ⊢
  refine pure_ (i := 4) (N := some 11) (v := ?_) (a' := ?_) #[false, false, false, false, true, false, false, false, false, false, false] rfl rfl (any_of HT_.out (by kernel_rfl)) (fun _ _ _ h => h) (Or.inl ⟨by rfl, ?_⟩) ?_ ?_
  rotate_left
  ·intro w'
   go_simp
   with_reducible rfl
  rotate_left
  ·simp only [Act.put, List.setIfInBounds_toArray, List.set_cons_zero, List.set_cons_succ, i64_w, i32_w]
   rfl
  refine take_ (i := 0) (N := some 7) (v := ?_) (a' := ?_) #[true, false, false, false, true, false, false, false, false, false, false] rfl rfl (take_ofW HT_.out HW_.out (by kernel_rfl)) (fun _ _ _ h => h) (Or.inl ⟨by rfl, ?_⟩) hHeld ?_ ?_
  rotate_left
  ·rintro w' ⟨s0, s1, s2, s3, s4, s5⟩
   go_simp
   with_reducible rfl
  rotate_left
  ·simp only [Act.put, List.setIfInBounds_toArray, List.set_cons_zero, List.set_cons_succ, i64_w, i32_w]
   rfl
  refine take_ (i := 1) (N := some 8) (v := ?_) (a' := ?_) #[true, true, false, false, true, false, false, false, false, false, false] rfl rfl (take_ofW HT_.out HW_.out (by kernel_rfl)) (fun _ _ _ h => h) (Or.inl ⟨by rfl, ?_⟩) hHeld ?_ ?_
  rotate_left
  ·rintro w' ⟨s0, s1, s2, s3, s4, s5⟩
   go_simp
   with_reducible rfl
  rotate_left
  ·simp only [Act.put, List.setIfInBounds_toArray, List.set_cons_zero, List.set_cons_succ, i64_w, i32_w]
   rfl
  refine take_ (i := 5) (N := some 12) (v := ?_) (a' := ?_) #[true, true, false, false, true, true, false, false, false, false, false] rfl rfl (take_ofW HT_.out HW_.out (by kernel_rfl)) (fun _ _ _ h => h) (Or.inl ⟨by rfl, ?_⟩) hHeld ?_ ?_
  rotate_left
  ·rintro w' ⟨s0, s1, s2, s3, s4, s5⟩
   go_simp
   with_reducible rfl
  rotate_left
  ·simp only [Act.put, List.setIfInBounds_toArray, List.set_cons_zero, List.set_cons_succ, i64_w, i32_w]
   rfl
  refine one_ (i := 2) (N := some 9) #[true, true, true, false, true, true, false, false, false, false, false] rfl rfl (one_of HT_.out (by kernel_rfl)) (by decide) (fun K hK => ?_)
  refine Kd.R_lit_step k30 _ 30 ?hg (N := 9) ?hd (xs := ([(⟨a1_0, a1_1, a1_2, a1_3⟩ : S30)] : List (S30))) (inner := [.int .i64 a1_0, .int .i64 a1_1, .string a1_2, .int .i64 a1_3]) (ok := fun _ => True) (okp := fun _ => True) ?hr ?hp (fun _ hk => hk) trivial (Below.refl _ _) (Nat.le_refl _) (by simp) ?_; (case hd => rfl); (case hg => rfl); (case hr => first | (go_simp; done) | (go_simp; rfl)); (case hp => exact (Reps.c4 (show Kd.M k30 _ _ _ (⟨a1_0, a1_1, a1_2, a1_3⟩ : S30) [.int .i64 a1_0, .int .i64 a1_1, .string a1_2, .int .i64 a1_3] from (k30_mkM _ _ _ (⟨a1_0, a1_1, a1_2, a1_3⟩ : S30) )) (Reps.none _ _)))
  intro v488 w26 ho27 hb hg_ hnew_
  clear hg_ hnew_
  (first | rw [← Ny487.out] at ho27 | (simp only [Int.reduceToNat] at ho27; rw [← Ny487.out] at ho27))
  have n0_ := Aside0.mk (Kd.R_lower (Kd.R_newB ho27 (g := gb486) (o := .cells #[.int .i64 a1_0, .int .i64 a1_1, .string a1_2, .int .i64 a1_3] 30 (0, 0)) (sT BK486.out)) (below_size (by repeat (first | (with_reducible first | exact HB.out | apply below_alloc | apply pw_below_drewN | apply below_drew1 | refine below_set ?_ GE485.out | refine below_set ?_ GE486.out) | exact HB.out))))
  have n1_ := sK BK485 hb
  have n2_ := sK BK486 hb
  have n3_ := sB HB hb
  clear BK485
  clear BK486
  clear HB
  have HO489 := n0_
  have BK485 := n1_
  have BK486 := n2_
  have HB := n3_
  clear n0_ n1_ n2_ n3_
  clear hb ho27
  obtain ⟨Ao28, co28, eo28⟩ := Kd.R_slice HO489.out
  (first | subst eo28 | (injection eo28 with f1_ f2_ f3_; have f4_ := f1_.symm; have f5_ := f3_.symm; clear f1_ f2_ f3_; subst f4_; subst f5_))
  refine hK.out _ _ ⟨(blk_cell BK485.out 0).trans rfl, (blk_cell BK485.out 1).trans rfl, (blk_cell BK486.out 0).trans rfl, (blk_cell BK486.out 1).trans rfl, (blk_cell BK486.out 2).trans rfl, (blk_cell BK486.out 3).trans rfl⟩ (fun hHeld => ?_)
  clear hK K
  refine norm_ (a' := ?_) ?_ ?_
  rotate_left
  ·show Act.put _ (some 9) _ = _
   simp only [Act.put, List.setIfInBounds_toArray, List.set_cons_zero, List.set_cons_succ, i64_w, i32_w]
   rfl
  refine one_ (i := 3) (N := some 10) #[true, true, true, true, true, true, false, false, false, false, false] rfl rfl (one_of HT_.out (by kernel_rfl)) (by decide) (fun K hK => ?_)
  refine goes_ Try.func56 (by kernel_rfl) rfl #[.agg #[.int .i64 a0_0, .slice A0_1 l0_1.length c0_1], .slice Ao28 y487.length co28] (by rfl) rfl rfl (by (try simp only [List.map_toArray, List.map_cons, List.map_nil]); first | done | rfl | (simp only [List.length_drop, List.length_take]; rfl)) ?_
  with_reducible refine (impl_fitAll.calls k a0_0 _ _ l0_1 _ _ y487 t490 _ ?side1 ?side2 ?side3 ?side4 A3.out).mono ?_
  (case side1 => exact sD (Kd.C_below HR0_1.out HB.out))
  (case side2 => exact HC0_1.out)
  (case side3 => exact sD ((Kd.R_reads' HO489.out).2.2))
  (case side4 => exact (Kd.R_reads' HO489.out).2.1)
  rintro e w29 ⟨rfl, hb⟩
  refine ⟨_, rfl, ?_⟩
  have n0_ := Aside0.mk (Kd.R_below (sE HO489.out) hb)
  have n1_ := sK BK485 hb
  have n2_ := sK BK486 hb
  have n3_ := sB HB hb
  clear HO489
  clear BK485
  clear BK486
  clear HB
  have HO489 := n0_
  have BK485 := n1_
  have BK486 := n2_
  have HB := n3_
  clear n0_ n1_ n2_ n3_
  (try clear hb)
  (try clear hb2)
  (try clear hk)
  (try clear hi)
  refine hK.out _ _ ⟨(blk_cell BK485.out 0).trans rfl, (blk_cell BK485.out 1).trans rfl, (blk_cell BK486.out 0).trans rfl, (blk_cell BK486.out 1).trans rfl, (blk_cell BK486.out 2).trans rfl, (blk_cell BK486.out 3).trans rfl⟩ (fun hHeld => ?_)
  clear hK K
  refine norm_ (a' := ?_) ?_ ?_
  rotate_left
  ·show Act.put _ (some 10) _ = _
   simp only [Act.put, List.setIfInBounds_toArray, List.set_cons_zero, List.set_cons_succ, i64_w, i32_w]
   rfl
  refine one_ (i := 6) (N := some 13) #[true, true, true, true, true, true, true, false, false, false, false] rfl rfl (one_of HT_.out (by kernel_rfl)) (by decide) (fun K hK => ?_)
  refine goes_ Try.func58 (by kernel_rfl) rfl #[.int .i64 a1_0] (by rfl) rfl rfl (by (try simp only [List.map_toArray, List.map_cons, List.map_nil]); first | done | rfl | (simp only [List.length_drop, List.length_take]; rfl)) ?_
  with_reducible refine (impl_refers.calls a1_0 t491 _ A4.out).mono ?_
  rintro e w' ⟨rfl, ⟨nd, rfl⟩⟩
  refine ⟨_, rfl, ?_⟩
  refine hK.out _ _ ⟨(blk_cell BK485.out 0).trans rfl, (blk_cell BK485.out 1).trans rfl, (blk_cell BK486.out 0).trans rfl, (blk_cell BK486.out 1).trans rfl, (blk_cell BK486.out 2).trans rfl, (blk_cell BK486.out 3).trans rfl⟩ (fun hHeld => ?_)
  clear hK K
  refine norm_ (a' := ?_) ?_ ?_
  rotate_left
  ·show Act.put _ (some 13) _ = _
   simp only [Act.put, List.setIfInBounds_toArray, List.set_cons_zero, List.set_cons_succ, i64_w, i32_w]
   rfl
  refine one_ (i := 7) (N := some 14) #[true, true, true, true, true, true, true, true, false, false, false] rfl rfl (one_of HT_.out (by kernel_rfl)) (by decide) (fun K hK => ?_)
  refine goes_ Try.func57 (by kernel_rfl) rfl #[.bool t491, .int .i64 4] (by rfl) rfl rfl (by (try simp only [List.map_toArray, List.map_cons, List.map_nil]); first | done | rfl | (simp only [List.length_drop, List.length_take]; rfl)) ?_
  with_reducible refine (impl_unless.calls t491 4 t492 _ A5.out).mono ?_
  rintro e w' ⟨rfl, ⟨nd, rfl⟩⟩
  refine ⟨_, rfl, ?_⟩
  refine hK.out _ _ ⟨(blk_cell BK485.out 0).trans rfl, (blk_cell BK485.out 1).trans rfl, (blk_cell BK486.out 0).trans rfl, (blk_cell BK486.out 1).trans rfl, (blk_cell BK486.out 2).trans rfl, (blk_cell BK486.out 3).trans rfl⟩ (fun hHeld => ?_)
  clear hK K
  refine norm_ (a' := ?_) ?_ ?_
  rotate_left
  ·show Act.put _ (some 14) _ = _
   simp only [Act.put, List.setIfInBounds_toArray, List.set_cons_zero, List.set_cons_succ, i64_w, i32_w]
   rfl
  refine one_ (i := 8) (N := some 15) #[true, true, true, true, true, true, true, true, true, false, false] rfl rfl (one_of HT_.out (by kernel_rfl)) (by decide) (fun K hK => ?_)
  refine Kd.R_lit_step (Kd.int .i64) _ 2 ?hg (N := 15) ?hd (xs := ([t490, t492] : List Int)) (inner := [.int .i64 t490, .int .i64 t492]) (ok := fun _ => True) (okp := fun _ => True) ?hr ?hp (fun _ hk => hk) trivial (Below.refl _ _) (Nat.le_refl _) (by simp) ?_; (case hd => rfl); (case hg => rfl); (case hr => first | (go_simp; done) | (go_simp; rfl)); (case hp => exact (Reps.one (show Kd.M (Kd.int .i64) _ _ _ t490 [.int .i64 t490] from rfl) (Reps.one (show Kd.M (Kd.int .i64) _ _ _ t492 [.int .i64 t492] from rfl) (Reps.none _ _))))
  intro v494 w30 ho31 hb hg_ hnew_
  clear hg_ hnew_
  (first | rw [← Ny493.out] at ho31 | (simp only [Int.reduceToNat] at ho31; rw [← Ny493.out] at ho31))
  have n0_ := Aside0.mk (Kd.R_below (sE HO489.out) hb)
  have n1_ := Aside0.mk (Kd.R_lower ho31 (below_size (by repeat (first | (with_reducible first | exact HB.out | apply below_alloc | apply pw_below_drewN | apply below_drew1 | refine below_set ?_ GE485.out | refine below_set ?_ GE486.out) | exact HB.out))))
  have n2_ := sK BK485 hb
  have n3_ := sK BK486 hb
  have n4_ := sB HB hb
  clear HO489
  clear BK485
  clear BK486
  clear HB
  have HO489 := n0_
  have HO495 := n1_
  have BK485 := n2_
  have BK486 := n3_
  have HB := n4_
  clear n0_ n1_ n2_ n3_ n4_
  clear hb ho31
  obtain ⟨Ao32, co32, eo32⟩ := Kd.R_slice HO495.out
  (first | subst eo32 | (injection eo32 with f1_ f2_ f3_; have f4_ := f1_.symm; have f5_ := f3_.symm; clear f1_ f2_ f3_; subst f4_; subst f5_))
  refine hK.out _ _ ⟨(blk_cell BK485.out 0).trans rfl, (blk_cell BK485.out 1).trans rfl, (blk_cell BK486.out 0).trans rfl, (blk_cell BK486.out 1).trans rfl, (blk_cell BK486.out 2).trans rfl, (blk_cell BK486.out 3).trans rfl⟩ (fun hHeld => ?_)
  clear hK K
  refine norm_ (a' := ?_) ?_ ?_
  rotate_left
  ·show Act.put _ (some 15) _ = _
   simp only [Act.put, List.setIfInBounds_toArray, List.set_cons_zero, List.set_cons_succ, i64_w, i32_w]
   rfl
  refine one_ (i := 9) (N := some 16) #[true, true, true, true, true, true, true, true, true, true, false] rfl rfl (one_of HT_.out (by kernel_rfl)) (by decide) (fun K hK => ?_)
  refine goes_ Try.func55 (by kernel_rfl) rfl #[.slice Ao32 y493.length co32] (by rfl) rfl rfl (by (try simp only [List.map_toArray, List.map_cons, List.map_nil]); first | done | rfl | (simp only [List.length_drop, List.length_take]; rfl)) ?_
  with_reducible refine (impl_first.calls k _ _ y493 t496 _ ?side1 ?side2 A6.out).mono ?_
  (case side1 => exact sD ((Kd.R_reads' HO495.out).2.2))
  (case side2 => exact (Kd.R_reads' HO495.out).2.1)
  rintro e w' ⟨rfl, ⟨nd, rfl⟩⟩
  refine ⟨_, rfl, ?_⟩
  refine hK.out _ _ ⟨(blk_cell BK485.out 0).trans rfl, (blk_cell BK485.out 1).trans rfl, (blk_cell BK486.out 0).trans rfl, (blk_cell BK486.out 1).trans rfl, (blk_cell BK486.out 2).trans rfl, (blk_cell BK486.out 3).trans rfl⟩ (fun hHeld => ?_)
  clear hK K
  refine norm_ (a' := ?_) ?_ ?_
  rotate_left
  ·show Act.put _ (some 16) _ = _
   simp only [Act.put, List.setIfInBounds_toArray, List.set_cons_zero, List.set_cons_succ, i64_w, i32_w]
   rfl
  refine pure_ (i := 10) (N := some 6) (v := ?_) (a' := ?_) #[true, true, true, true, true, true, true, true, true, true, true] rfl rfl (any_of HT_.out (by kernel_rfl)) (fun _ _ _ h => h) (Or.inl ⟨by rfl, ?_⟩) ?_ ?_
  rotate_left
  ·intro w'
   go_simp
   with_reducible rfl
  rotate_left
  ·simp only [Act.put, List.setIfInBounds_toArray, List.set_cons_zero, List.set_cons_succ, i64_w, i32_w]
   rfl
  refine done_ (done_of HT_.out (by kernel_rfl)) ?_
  try go_wp2
  go_ret2
  exact ⟨sq, sb⟩
end Go.Proofs.Ytamegncijkfbhaa.PFnExactFitsHeap
