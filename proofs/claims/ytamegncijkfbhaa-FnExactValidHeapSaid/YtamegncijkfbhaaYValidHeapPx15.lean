-- PRINTED by print.py (a twelfth state) out of the translation. Not trusted: Lean checks it.
import Derived.Test.YtamegncijkfbhaaYValidHeapPx0
import Derived.Test.YtamegncijkfbhaaYValidHeapPx2
import Derived.Test.YtamegncijkfbhaaYValidHeapPx9
import Derived.Test.YtamegncijkfbhaaYValidHeapPx13
import Derived.Test.YtamegncijkfbhaaYValidHeapPx14
namespace Go.Proofs.Ytamegncijkfbhaa.PFnExactValidHeap
open Go.RowKit Go.Proofs.YtamegncijkfbhaaG Go.Proofs.YtamegncijkfbhaaW.PrintWords Go.Proofs.YtamegncijkfbhaaW.PrintLast Go.Proofs.YtamegncijkfbhaaW.PrintMore
attribute [local go_sem] max2_int min2_int max_two min_two max_three min_three max_four min_four   -- for this text's walks alone
set_option linter.unusedVariables false
set_option linter.unusedSimpArgs false

/-! ### laws_eqObjectS: function 48 -/
def laws_eqObjectS.l0 : Nat → List (S32) → List (S32) → Int → Option (Bool)
 | 0, _, _, _ => none
 | k + 1, x0, x1, x5 => if x5 < (x0.length : Int) then (if 0 ≤ x5 then (if x5 < (x1.length : Int) then ((laws_eqObject.f k ((rd_T32 x0 x5).f0) ((rd_T32 x0 x5).f1) ((rd_T32 x0 x5).f2) ((rd_T32 x0 x5).f3) ((rd_T32 x0 x5).f4) ((rd_T32 x0 x5).f5) ((rd_T32 x0 x5).f6.f0) ((rd_T32 x0 x5).f6.f1) ((rd_T32 x0 x5).f6.f2) ((rd_T32 x0 x5).f6.f3) ((rd_T32 x1 x5).f0) ((rd_T32 x1 x5).f1) ((rd_T32 x1 x5).f2) ((rd_T32 x1 x5).f3) ((rd_T32 x1 x5).f4) ((rd_T32 x1 x5).f5) ((rd_T32 x1 x5).f6.f0) ((rd_T32 x1 x5).f6.f1) ((rd_T32 x1 x5).f6.f2) ((rd_T32 x1 x5).f6.f3)).bind fun t362 => (if t362 = true then (laws_eqObjectS.l0 k x0 x1 (wrap64 (x5 + 1))) else (some false))) else (none)) else (none)) else (some true)
def laws_eqObjectS.f (k : Nat) (l0 : List (S32)) (l1 : List (S32)) : Option (Bool) := if (l0.length : Int) = (l1.length : Int) then (laws_eqObjectS.l0 k l0 l1 0) else (some false)
def laws_eqObjectS.T6 : Bool × List (List Nat × List Nat) := (true, [([], []), ([], []), ([0, 1], [0, 1]), ([2], [2]), ([], []), ([], []), ([4, 5], [4, 5]), ([6], [6]), ([3, 7], [3, 7]), ([8], [8])])
def laws_eqObjectS.B6 : List Nat := [0, 0, 3, 7, 0, 0, 48, 112, 255, 511]
theorem laws_eqObjectS.tab6 : rtab .any (opsOf Try.f48 6) = laws_eqObjectS.T6 := by kernel_rfl
theorem laws_eqObjectS.bits6 : waitsOk laws_eqObjectS.T6.2 laws_eqObjectS.B6 = true := by kernel_rfl
set_option maxHeartbeats 8000000 in
set_option maxRecDepth 100000 in
theorem laws_eqObjectS.calls (k : Nat) (A0 : Option Addr) (c0 : Nat) (l0 : List (S32)) (A1 : Option Addr) (c1 : Nat) (l1 : List (S32)) (r : Bool) (w : World) (hr0 : Kd.C k32 w A0 l0.length l0) (hc0 : l0.length ≤ c0) (hr1 : Kd.C k32 w A1 l1.length l1) (hc1 : l1.length ≤ c1) (h : laws_eqObjectS.f k l0 l1 = some r) :
  Calls Try.prog 48 #[.slice A0 l0.length c0, .slice A1 l1.length c1] w fun e w' => e = .returned (.bool r) ∧ Below w.heap.size w w' := by
 have hu32 := Try.underlying32
 have HR0 := Aside0.mk hr0
 have HC0 := Aside0.mk hc0
 clear hr0 hc0
 have HR1 := Aside0.mk hr1
 have HC1 := Aside0.mk hc1
 clear hr1 hc1
 have HB := Aside0.mk (Below.refl w.heap.size w)
 have H : (if (l0.length : Int) = (l1.length : Int) then (laws_eqObjectS.l0 k l0 l1 0) else (some false)) = some r := h
 clear h
 by_cases c3 : (l0.length : Int) = (l1.length : Int)
 ·rw [if_pos c3] at H
  have c3b0 : ((l0.length : Int) == (l1.length : Int)) = true := beq_iff_eq.mpr c3
  have c3b1 : ((l0.length : Int) != (l1.length : Int)) = false := bne_eq_false_iff_eq.mpr c3
  have c3b2 : (l0.length == l1.length) = true := by first | simpa using c3 | (simp at c3 ⊢; omega)
  clear c3
  have H' := Aside0.mk H
  clear H
  go_enter Try.func48, Try.ntmps48
  go_wp2
  go_loopg [5] k (fun kq v5 w' => ∃ (x5_1 : Int), v5 = .int .i64 x5_1 ∧ Aside0 (laws_eqObjectS.l0 kq l0 l1 x5_1 = some r) ∧ Aside0 (kq ≤ k) ∧ Aside0 (Below w.heap.size w w'))
  case atStart => exact ⟨(0), sr, H', ⟨Nat.le_refl _⟩, ⟨sb⟩⟩
  case round =>
   clear H'
   try clear c1
   try clear p2
   try clear c3
   try clear c3b0
   try clear c3b1
   try clear c3b2
   obtain ⟨x5_1, rfl, HA, HK1, HB⟩ := hrel
   cases gk with
   | zero => exact absurd HA.out (by simp [laws_eqObjectS.l0])
   | succ k1 =>
    have H := HA.out
    clear HA
    simp only [laws_eqObjectS.l0] at H
    by_cases c4 : x5_1 < (l0.length : Int)
    ·rw [if_pos c4] at H
     have c4b0 := decide_eq_true c4
     clear c4
     by_cases c5 : 0 ≤ x5_1
     ·rw [if_pos c5] at H
      have c5b0 := decide_eq_true c5
      clear c5
      by_cases c6 : x5_1 < (l1.length : Int)
      ·rw [if_pos c6] at H
       have c6b0 := decide_eq_true c6
       clear c6
       replace H := Option.bind_eq_some_iff.mp H
       obtain ⟨t362, A70, H⟩ := H
       replace H : (if t362 = true then (laws_eqObjectS.l0 k1 l0 l1 (wrap64 (x5_1 + 1))) else (some false)) = some r := H
       have A7 := Aside0.mk A70
       clear A70
       by_cases c8 : t362 = true
       ·subst c8
        have H1 : (laws_eqObjectS.l0 k1 l0 l1 (wrap64 (x5_1 + 1))) = some r := by rw [if_pos rfl] at H; exact H
        clear H
        have H := H1
        clear H1
        have H' := Aside0.mk H
        clear H
        try go_wp2
        have n0_ := Aside0.mk (below_drew1 HB.out)
        clear HB
        have HB := n0_
        clear n0_
        have p360 : 0 ≤ (x5_1 : Int) := of_decide_eq_true (by first | (with_reducible assumption) | assumption)
        have q360 : x5_1 < (l0.length : Int) := of_decide_eq_true (by first | (with_reducible assumption) | assumption)
        obtain ⟨ad360, A360_4, c360_4, A360_5, c360_5, e360, hx360_0, hx360_1, hx360_2, hx360_3, hx360_4, hx360_5, hx360_6, hx360_7, hx360_8, hx360_9, hl360_4, hi360_4, hl360_5, hi360_5⟩ := at_T32 HR0.out x5_1 p360 q360
        have hw360_9 := hx360_9
        have hw360_8 := hx360_8
        have hw360_7 := hx360_7
        have hw360_6 := hx360_6
        have hw360_5 := hx360_5
        have hw360_4 := hx360_4
        have hw360_3 := hx360_3
        have hw360_2 := hx360_2
        have hw360_1 := hx360_1
        have hw360_0 := hx360_0
        cases e360
        replace hx360_0 := sX HB hx360_0
        replace hx360_1 := sX HB hx360_1
        replace hx360_2 := sX HB hx360_2
        replace hx360_3 := sX HB hx360_3
        replace hx360_4 := sX HB hx360_4
        replace hx360_5 := sX HB hx360_5
        replace hx360_6 := sX HB hx360_6
        replace hx360_7 := sX HB hx360_7
        replace hx360_8 := sX HB hx360_8
        replace hx360_9 := sX HB hx360_9
        have HR360_4 := Aside0.mk hi360_4
        have HC360_4 := Aside0.mk hl360_4
        clear hi360_4 hl360_4
        have HR360_5 := Aside0.mk hi360_5
        have HC360_5 := Aside0.mk hl360_5
        clear hi360_5 hl360_5
        replace p360 := eq_true p360
        replace q360 := eq_true q360
        have p361 : 0 ≤ (x5_1 : Int) := of_decide_eq_true (by first | (with_reducible assumption) | assumption)
        have q361 : x5_1 < (l1.length : Int) := of_decide_eq_true (by first | (with_reducible assumption) | assumption)
        obtain ⟨ad361, A361_4, c361_4, A361_5, c361_5, e361, hx361_0, hx361_1, hx361_2, hx361_3, hx361_4, hx361_5, hx361_6, hx361_7, hx361_8, hx361_9, hl361_4, hi361_4, hl361_5, hi361_5⟩ := at_T32 HR1.out x5_1 p361 q361
        have hw361_9 := hx361_9
        have hw361_8 := hx361_8
        have hw361_7 := hx361_7
        have hw361_6 := hx361_6
        have hw361_5 := hx361_5
        have hw361_4 := hx361_4
        have hw361_3 := hx361_3
        have hw361_2 := hx361_2
        have hw361_1 := hx361_1
        have hw361_0 := hx361_0
        cases e361
        replace hx361_0 := sX HB hx361_0
        replace hx361_1 := sX HB hx361_1
        replace hx361_2 := sX HB hx361_2
        replace hx361_3 := sX HB hx361_3
        replace hx361_4 := sX HB hx361_4
        replace hx361_5 := sX HB hx361_5
        replace hx361_6 := sX HB hx361_6
        replace hx361_7 := sX HB hx361_7
        replace hx361_8 := sX HB hx361_8
        replace hx361_9 := sX HB hx361_9
        have HR361_4 := Aside0.mk hi361_4
        have HC361_4 := Aside0.mk hl361_4
        clear hi361_4 hl361_4
        have HR361_5 := Aside0.mk hi361_5
        have HC361_5 := Aside0.mk hl361_5
        clear hi361_5 hl361_5
        replace p361 := eq_true p361
        replace q361 := eq_true q361
        refine start_ (n := 10) (S := fun w' => w'.cell? (ad360.add ((x5_1).toNat * 10)) = some (.int .i64 ((rd_T32 l0 x5_1).f0)) ∧ w'.cell? ⟨(ad360.add ((x5_1).toNat * 10)).block, (ad360.add ((x5_1).toNat * 10)).off + 1, none⟩ = some (.int .i64 ((rd_T32 l0 x5_1).f1)) ∧ w'.cell? ⟨(ad360.add ((x5_1).toNat * 10)).block, (ad360.add ((x5_1).toNat * 10)).off + 2, none⟩ = some (.string ((rd_T32 l0 x5_1).f2)) ∧ w'.cell? ⟨(ad360.add ((x5_1).toNat * 10)).block, (ad360.add ((x5_1).toNat * 10)).off + 3, none⟩ = some (.int .i64 ((rd_T32 l0 x5_1).f3)) ∧ w'.cell? ⟨(ad360.add ((x5_1).toNat * 10)).block, (ad360.add ((x5_1).toNat * 10)).off + 4, none⟩ = some (.slice A360_4 ((rd_T32 l0 x5_1).f4).length c360_4) ∧ w'.cell? ⟨(ad360.add ((x5_1).toNat * 10)).block, (ad360.add ((x5_1).toNat * 10)).off + 5, none⟩ = some (.slice A360_5 ((rd_T32 l0 x5_1).f5).length c360_5) ∧ w'.cell? ⟨(ad360.add ((x5_1).toNat * 10)).block, (ad360.add ((x5_1).toNat * 10)).off + 6, none⟩ = some (.int .i64 ((rd_T32 l0 x5_1).f6.f0)) ∧ w'.cell? ⟨(ad360.add ((x5_1).toNat * 10)).block, (ad360.add ((x5_1).toNat * 10)).off + 7, none⟩ = some (.int .i64 ((rd_T32 l0 x5_1).f6.f1)) ∧ w'.cell? ⟨(ad360.add ((x5_1).toNat * 10)).block, (ad360.add ((x5_1).toNat * 10)).off + 8, none⟩ = some (.string ((rd_T32 l0 x5_1).f6.f2)) ∧ w'.cell? ⟨(ad360.add ((x5_1).toNat * 10)).block, (ad360.add ((x5_1).toNat * 10)).off + 9, none⟩ = some (.int .i64 ((rd_T32 l0 x5_1).f6.f3)) ∧ w'.cell? (ad361.add ((x5_1).toNat * 10)) = some (.int .i64 ((rd_T32 l1 x5_1).f0)) ∧ w'.cell? ⟨(ad361.add ((x5_1).toNat * 10)).block, (ad361.add ((x5_1).toNat * 10)).off + 1, none⟩ = some (.int .i64 ((rd_T32 l1 x5_1).f1)) ∧ w'.cell? ⟨(ad361.add ((x5_1).toNat * 10)).block, (ad361.add ((x5_1).toNat * 10)).off + 2, none⟩ = some (.string ((rd_T32 l1 x5_1).f2)) ∧ w'.cell? ⟨(ad361.add ((x5_1).toNat * 10)).block, (ad361.add ((x5_1).toNat * 10)).off + 3, none⟩ = some (.int .i64 ((rd_T32 l1 x5_1).f3)) ∧ w'.cell? ⟨(ad361.add ((x5_1).toNat * 10)).block, (ad361.add ((x5_1).toNat * 10)).off + 4, none⟩ = some (.slice A361_4 ((rd_T32 l1 x5_1).f4).length c361_4) ∧ w'.cell? ⟨(ad361.add ((x5_1).toNat * 10)).block, (ad361.add ((x5_1).toNat * 10)).off + 5, none⟩ = some (.slice A361_5 ((rd_T32 l1 x5_1).f5).length c361_5) ∧ w'.cell? ⟨(ad361.add ((x5_1).toNat * 10)).block, (ad361.add ((x5_1).toNat * 10)).off + 6, none⟩ = some (.int .i64 ((rd_T32 l1 x5_1).f6.f0)) ∧ w'.cell? ⟨(ad361.add ((x5_1).toNat * 10)).block, (ad361.add ((x5_1).toNat * 10)).off + 7, none⟩ = some (.int .i64 ((rd_T32 l1 x5_1).f6.f1)) ∧ w'.cell? ⟨(ad361.add ((x5_1).toNat * 10)).block, (ad361.add ((x5_1).toNat * 10)).off + 8, none⟩ = some (.string ((rd_T32 l1 x5_1).f6.f2)) ∧ w'.cell? ⟨(ad361.add ((x5_1).toNat * 10)).block, (ad361.add ((x5_1).toNat * 10)).off + 9, none⟩ = some (.int .i64 ((rd_T32 l1 x5_1).f6.f3))) (ds := []) #[false, false, false, false, false, false, false, false, false, false] (by kernel_rfl) rfl rfl ⟨((HB.out.cell (World.block_lt_of_cell? w _ hw360_0)).trans hw360_0), ((HB.out.cell (World.block_lt_of_cell? w _ hw360_1)).trans hw360_1), ((HB.out.cell (World.block_lt_of_cell? w _ hw360_2)).trans hw360_2), ((HB.out.cell (World.block_lt_of_cell? w _ hw360_3)).trans hw360_3), ((HB.out.cell (World.block_lt_of_cell? w _ hw360_4)).trans hw360_4), ((HB.out.cell (World.block_lt_of_cell? w _ hw360_5)).trans hw360_5), ((HB.out.cell (World.block_lt_of_cell? w _ hw360_6)).trans hw360_6), ((HB.out.cell (World.block_lt_of_cell? w _ hw360_7)).trans hw360_7), ((HB.out.cell (World.block_lt_of_cell? w _ hw360_8)).trans hw360_8), ((HB.out.cell (World.block_lt_of_cell? w _ hw360_9)).trans hw360_9), ((HB.out.cell (World.block_lt_of_cell? w _ hw361_0)).trans hw361_0), ((HB.out.cell (World.block_lt_of_cell? w _ hw361_1)).trans hw361_1), ((HB.out.cell (World.block_lt_of_cell? w _ hw361_2)).trans hw361_2), ((HB.out.cell (World.block_lt_of_cell? w _ hw361_3)).trans hw361_3), ((HB.out.cell (World.block_lt_of_cell? w _ hw361_4)).trans hw361_4), ((HB.out.cell (World.block_lt_of_cell? w _ hw361_5)).trans hw361_5), ((HB.out.cell (World.block_lt_of_cell? w _ hw361_6)).trans hw361_6), ((HB.out.cell (World.block_lt_of_cell? w _ hw361_7)).trans hw361_7), ((HB.out.cell (World.block_lt_of_cell? w _ hw361_8)).trans hw361_8), ((HB.out.cell (World.block_lt_of_cell? w _ hw361_9)).trans hw361_9)⟩ (fun hHeld => ?_); refine with_tabW laws_eqObjectS.tab6 laws_eqObjectS.bits6 (fun HT_ HW_ => ?_)
        generalize wr.drew = w9 at HB HR360_4 HR360_5 HR361_4 HR361_5 hx360_0 hx360_1 hx360_2 hx360_3 hx360_4 hx360_5 hx360_6 hx360_7 hx360_8 hx360_9 hx361_0 hx361_1 hx361_2 hx361_3 hx361_4 hx361_5 hx361_6 hx361_7 hx361_8 hx361_9 hHeld ⊢
        refine pure_ (i := 0) (N := some 17) (v := ?_) (a' := ?_) #[true, false, false, false, false, false, false, false, false, false] rfl rfl (any_of HT_.out (by kernel_rfl)) (fun _ _ _ h => h) (Or.inl ⟨by rfl, ?_⟩) ?_ ?_
        rotate_left
        ·intro w'
         go_simp
         with_reducible rfl
        rotate_left
        ·simp only [Act.put, List.setIfInBounds_toArray, List.set_cons_zero, List.set_cons_succ, i64_w, i32_w]
         rfl
        refine pure_ (i := 1) (N := some 18) (v := ?_) (a' := ?_) #[true, true, false, false, false, false, false, false, false, false] rfl rfl (any_of HT_.out (by kernel_rfl)) (fun _ _ _ h => h) (Or.inl ⟨by rfl, ?_⟩) ?_ ?_
        rotate_left
        ·intro w'
         go_simp
         with_reducible rfl
        rotate_left
        ·simp only [Act.put, List.setIfInBounds_toArray, List.set_cons_zero, List.set_cons_succ, i64_w, i32_w]
         rfl
        refine pure_ (i := 2) (N := some 19) (v := ?_) (a' := ?_) #[true, true, true, false, false, false, false, false, false, false] rfl rfl (any_of HT_.out (by kernel_rfl)) (fun _ _ _ h => h) (Or.inl ⟨by rfl, ?_⟩) ?_ ?_
        rotate_left
        ·intro w'
         go_simp
         with_reducible rfl
        rotate_left
        ·simp only [Act.put, List.setIfInBounds_toArray, List.set_cons_zero, List.set_cons_succ, i64_w, i32_w]
         rfl
        refine pure_ (i := 4) (N := some 21) (v := ?_) (a' := ?_) #[true, true, true, false, true, false, false, false, false, false] rfl rfl (any_of HT_.out (by kernel_rfl)) (fun _ _ _ h => h) (Or.inl ⟨by rfl, ?_⟩) ?_ ?_
        rotate_left
        ·intro w'
         go_simp
         with_reducible rfl
        rotate_left
        ·simp only [Act.put, List.setIfInBounds_toArray, List.set_cons_zero, List.set_cons_succ, i64_w, i32_w]
         rfl
        refine pure_ (i := 5) (N := some 22) (v := ?_) (a' := ?_) #[true, true, true, false, true, true, false, false, false, false] rfl rfl (any_of HT_.out (by kernel_rfl)) (fun _ _ _ h => h) (Or.inl ⟨by rfl, ?_⟩) ?_ ?_
        rotate_left
        ·intro w'
         go_simp
         with_reducible rfl
        rotate_left
        ·simp only [Act.put, List.setIfInBounds_toArray, List.set_cons_zero, List.set_cons_succ, i64_w, i32_w]
         rfl
        refine pure_ (i := 6) (N := some 23) (v := ?_) (a' := ?_) #[true, true, true, false, true, true, true, false, false, false] rfl rfl (any_of HT_.out (by kernel_rfl)) (fun _ _ _ h => h) (Or.inl ⟨by rfl, ?_⟩) ?_ ?_
        rotate_left
        ·intro w'
         go_simp
         with_reducible rfl
        rotate_left
        ·simp only [Act.put, List.setIfInBounds_toArray, List.set_cons_zero, List.set_cons_succ, i64_w, i32_w]
         rfl
        refine take_ (i := 3) (N := some 20) (v := ?_) (a' := ?_) #[true, true, true, true, true, true, true, false, false, false] rfl rfl (take_ofW HT_.out HW_.out (by kernel_rfl)) (fun _ _ _ h => h) (Or.inl ⟨by rfl, ?_⟩) hHeld ?_ ?_
        rotate_left
        ·rintro w' ⟨s0, s1, s2, s3, s4, s5, s6, s7, s8, s9, s10, s11, s12, s13, s14, s15, s16, s17, s18, s19⟩
         go_simp
         with_reducible rfl
        rotate_left
        ·simp only [Act.put, List.setIfInBounds_toArray, List.set_cons_zero, List.set_cons_succ, i64_w, i32_w]
         rfl
        refine take_ (i := 7) (N := some 24) (v := ?_) (a' := ?_) #[true, true, true, true, true, true, true, true, false, false] rfl rfl (take_ofW HT_.out HW_.out (by kernel_rfl)) (fun _ _ _ h => h) (Or.inl ⟨by rfl, ?_⟩) hHeld ?_ ?_
        rotate_left
        ·rintro w' ⟨s0, s1, s2, s3, s4, s5, s6, s7, s8, s9, s10, s11, s12, s13, s14, s15, s16, s17, s18, s19⟩
         go_simp
         with_reducible rfl
        rotate_left
        ·simp only [Act.put, List.setIfInBounds_toArray, List.set_cons_zero, List.set_cons_succ, i64_w, i32_w]
         rfl
        refine one_ (i := 8) (N := some 25) #[true, true, true, true, true, true, true, true, true, false] rfl rfl (one_of HT_.out (by kernel_rfl)) (by decide) (fun K hK => ?_)
        refine goes_ Try.func13 (by kernel_rfl) rfl #[.agg #[.int .i64 ((rd_T32 l0 x5_1).f0), .int .i64 ((rd_T32 l0 x5_1).f1), .string ((rd_T32 l0 x5_1).f2), .int .i64 ((rd_T32 l0 x5_1).f3), .slice A360_4 ((rd_T32 l0 x5_1).f4).length c360_4, .slice A360_5 ((rd_T32 l0 x5_1).f5).length c360_5, .int .i64 ((rd_T32 l0 x5_1).f6.f0), .int .i64 ((rd_T32 l0 x5_1).f6.f1), .string ((rd_T32 l0 x5_1).f6.f2), .int .i64 ((rd_T32 l0 x5_1).f6.f3)], .agg #[.int .i64 ((rd_T32 l1 x5_1).f0), .int .i64 ((rd_T32 l1 x5_1).f1), .string ((rd_T32 l1 x5_1).f2), .int .i64 ((rd_T32 l1 x5_1).f3), .slice A361_4 ((rd_T32 l1 x5_1).f4).length c361_4, .slice A361_5 ((rd_T32 l1 x5_1).f5).length c361_5, .int .i64 ((rd_T32 l1 x5_1).f6.f0), .int .i64 ((rd_T32 l1 x5_1).f6.f1), .string ((rd_T32 l1 x5_1).f6.f2), .int .i64 ((rd_T32 l1 x5_1).f6.f3)]] (by rfl) rfl rfl (by (try simp only [List.map_toArray, List.map_cons, List.map_nil]); first | done | rfl | (simp only [List.length_drop, List.length_take]; rfl)) ?_
        with_reducible refine (laws_eqObject.calls k1 ((rd_T32 l0 x5_1).f0) ((rd_T32 l0 x5_1).f1) ((rd_T32 l0 x5_1).f2) ((rd_T32 l0 x5_1).f3) _ _ ((rd_T32 l0 x5_1).f4) _ _ ((rd_T32 l0 x5_1).f5) ((rd_T32 l0 x5_1).f6.f0) ((rd_T32 l0 x5_1).f6.f1) ((rd_T32 l0 x5_1).f6.f2) ((rd_T32 l0 x5_1).f6.f3) ((rd_T32 l1 x5_1).f0) ((rd_T32 l1 x5_1).f1) ((rd_T32 l1 x5_1).f2) ((rd_T32 l1 x5_1).f3) _ _ ((rd_T32 l1 x5_1).f4) _ _ ((rd_T32 l1 x5_1).f5) ((rd_T32 l1 x5_1).f6.f0) ((rd_T32 l1 x5_1).f6.f1) ((rd_T32 l1 x5_1).f6.f2) ((rd_T32 l1 x5_1).f6.f3) true _ ?side1 ?side2 ?side3 ?side4 ?side5 ?side6 ?side7 ?side8 A7.out).mono ?_
        (case side1 => repeat (first | exact (Kd.C_below HR360_4.out HB.out) | (with_reducible refine Kd.C_alloc ?_ _) | (with_reducible refine Kd.C_drewN ?_ _) | (with_reducible refine Kd.C_drew ?_)))
        (case side2 => exact HC360_4.out)
        (case side3 => repeat (first | exact (Kd.C_below HR360_5.out HB.out) | (with_reducible refine Kd.C_alloc ?_ _) | (with_reducible refine Kd.C_drewN ?_ _) | (with_reducible refine Kd.C_drew ?_)))
        (case side4 => exact HC360_5.out)
        (case side5 => repeat (first | exact (Kd.C_below HR361_4.out HB.out) | (with_reducible refine Kd.C_alloc ?_ _) | (with_reducible refine Kd.C_drewN ?_ _) | (with_reducible refine Kd.C_drew ?_)))
        (case side6 => exact HC361_4.out)
        (case side7 => repeat (first | exact (Kd.C_below HR361_5.out HB.out) | (with_reducible refine Kd.C_alloc ?_ _) | (with_reducible refine Kd.C_drewN ?_ _) | (with_reducible refine Kd.C_drew ?_)))
        (case side8 => exact HC361_5.out)
        rintro e w10 ⟨rfl, hb⟩
        refine ⟨_, rfl, ?_⟩
        have n0_ := sB HB hb
        clear HB
        have HB := n0_
        clear n0_
        (try clear hb)
        (try clear hb2)
        (try clear hk)
        (try clear hi)
        refine hK.out _ _ ⟨((HB.out.cell (World.block_lt_of_cell? w _ hw360_0)).trans hw360_0), ((HB.out.cell (World.block_lt_of_cell? w _ hw360_1)).trans hw360_1), ((HB.out.cell (World.block_lt_of_cell? w _ hw360_2)).trans hw360_2), ((HB.out.cell (World.block_lt_of_cell? w _ hw360_3)).trans hw360_3), ((HB.out.cell (World.block_lt_of_cell? w _ hw360_4)).trans hw360_4), ((HB.out.cell (World.block_lt_of_cell? w _ hw360_5)).trans hw360_5), ((HB.out.cell (World.block_lt_of_cell? w _ hw360_6)).trans hw360_6), ((HB.out.cell (World.block_lt_of_cell? w _ hw360_7)).trans hw360_7), ((HB.out.cell (World.block_lt_of_cell? w _ hw360_8)).trans hw360_8), ((HB.out.cell (World.block_lt_of_cell? w _ hw360_9)).trans hw360_9), ((HB.out.cell (World.block_lt_of_cell? w _ hw361_0)).trans hw361_0), ((HB.out.cell (World.block_lt_of_cell? w _ hw361_1)).trans hw361_1), ((HB.out.cell (World.block_lt_of_cell? w _ hw361_2)).trans hw361_2), ((HB.out.cell (World.block_lt_of_cell? w _ hw361_3)).trans hw361_3), ((HB.out.cell (World.block_lt_of_cell? w _ hw361_4)).trans hw361_4), ((HB.out.cell (World.block_lt_of_cell? w _ hw361_5)).trans hw361_5), ((HB.out.cell (World.block_lt_of_cell? w _ hw361_6)).trans hw361_6), ((HB.out.cell (World.block_lt_of_cell? w _ hw361_7)).trans hw361_7), ((HB.out.cell (World.block_lt_of_cell? w _ hw361_8)).trans hw361_8), ((HB.out.cell (World.block_lt_of_cell? w _ hw361_9)).trans hw361_9)⟩ (fun hHeld => ?_)
        clear hK K
        refine norm_ (a' := ?_) ?_ ?_
        rotate_left
        ·show Act.put _ (some 25) _ = _
         simp only [Act.put, List.setIfInBounds_toArray, List.set_cons_zero, List.set_cons_succ, i64_w, i32_w]
         rfl
        refine pure_ (i := 9) (N := some 26) (v := ?_) (a' := ?_) #[true, true, true, true, true, true, true, true, true, true] rfl rfl (any_of HT_.out (by kernel_rfl)) (fun _ _ _ h => h) (Or.inl ⟨by rfl, ?_⟩) ?_ ?_
        rotate_left
        ·intro w'
         go_simp
         with_reducible rfl
        rotate_left
        ·simp only [Act.put, List.setIfInBounds_toArray, List.set_cons_zero, List.set_cons_succ, i64_w, i32_w]
         rfl
        refine done_ (done_of HT_.out (by kernel_rfl)) ?_
        try go_wp2
        go_roundg k1
        case measure => have := HK1.out; omega
        case rel => exact ⟨(wrap64 (x5_1 + 1)), sr, H', ⟨by have := HK1.out; omega⟩, ⟨sb⟩⟩
       ·replace c8 := Bool.eq_false_iff.mpr c8
        subst c8
        have H1 : (some false) = some r := by rw [if_neg (show ¬ (false = true) by decide)] at H; exact H
        clear H
        have H := H1
        clear H1
        obtain rfl := Option.some.inj H
        try go_wp2
        have n0_ := Aside0.mk (below_drew1 HB.out)
        clear HB
        have HB := n0_
        clear n0_
        have p360 : 0 ≤ (x5_1 : Int) := of_decide_eq_true (by first | (with_reducible assumption) | assumption)
        have q360 : x5_1 < (l0.length : Int) := of_decide_eq_true (by first | (with_reducible assumption) | assumption)
        obtain ⟨ad360, A360_4, c360_4, A360_5, c360_5, e360, hx360_0, hx360_1, hx360_2, hx360_3, hx360_4, hx360_5, hx360_6, hx360_7, hx360_8, hx360_9, hl360_4, hi360_4, hl360_5, hi360_5⟩ := at_T32 HR0.out x5_1 p360 q360
        have hw360_9 := hx360_9
        have hw360_8 := hx360_8
        have hw360_7 := hx360_7
        have hw360_6 := hx360_6
        have hw360_5 := hx360_5
        have hw360_4 := hx360_4
        have hw360_3 := hx360_3
        have hw360_2 := hx360_2
        have hw360_1 := hx360_1
        have hw360_0 := hx360_0
        cases e360
        replace hx360_0 := sX HB hx360_0
        replace hx360_1 := sX HB hx360_1
        replace hx360_2 := sX HB hx360_2
        replace hx360_3 := sX HB hx360_3
        replace hx360_4 := sX HB hx360_4
        replace hx360_5 := sX HB hx360_5
        replace hx360_6 := sX HB hx360_6
        replace hx360_7 := sX HB hx360_7
        replace hx360_8 := sX HB hx360_8
        replace hx360_9 := sX HB hx360_9
        have HR360_4 := Aside0.mk hi360_4
        have HC360_4 := Aside0.mk hl360_4
        clear hi360_4 hl360_4
        have HR360_5 := Aside0.mk hi360_5
        have HC360_5 := Aside0.mk hl360_5
        clear hi360_5 hl360_5
        replace p360 := eq_true p360
        replace q360 := eq_true q360
        have p361 : 0 ≤ (x5_1 : Int) := of_decide_eq_true (by first | (with_reducible assumption) | assumption)
        have q361 : x5_1 < (l1.length : Int) := of_decide_eq_true (by first | (with_reducible assumption) | assumption)
        obtain ⟨ad361, A361_4, c361_4, A361_5, c361_5, e361, hx361_0, hx361_1, hx361_2, hx361_3, hx361_4, hx361_5, hx361_6, hx361_7, hx361_8, hx361_9, hl361_4, hi361_4, hl361_5, hi361_5⟩ := at_T32 HR1.out x5_1 p361 q361
        have hw361_9 := hx361_9
        have hw361_8 := hx361_8
        have hw361_7 := hx361_7
        have hw361_6 := hx361_6
        have hw361_5 := hx361_5
        have hw361_4 := hx361_4
        have hw361_3 := hx361_3
        have hw361_2 := hx361_2
        have hw361_1 := hx361_1
        have hw361_0 := hx361_0
        cases e361
        replace hx361_0 := sX HB hx361_0
        replace hx361_1 := sX HB hx361_1
        replace hx361_2 := sX HB hx361_2
        replace hx361_3 := sX HB hx361_3
        replace hx361_4 := sX HB hx361_4
        replace hx361_5 := sX HB hx361_5
        replace hx361_6 := sX HB hx361_6
        replace hx361_7 := sX HB hx361_7
        replace hx361_8 := sX HB hx361_8
        replace hx361_9 := sX HB hx361_9
        have HR361_4 := Aside0.mk hi361_4
        have HC361_4 := Aside0.mk hl361_4
        clear hi361_4 hl361_4
        have HR361_5 := Aside0.mk hi361_5
        have HC361_5 := Aside0.mk hl361_5
        clear hi361_5 hl361_5
        replace p361 := eq_true p361
        replace q361 := eq_true q361
        refine start_ (n := 10) (S := fun w' => w'.cell? (ad360.add ((x5_1).toNat * 10)) = some (.int .i64 ((rd_T32 l0 x5_1).f0)) ∧ w'.cell? ⟨(ad360.add ((x5_1).toNat * 10)).block, (ad360.add ((x5_1).toNat * 10)).off + 1, none⟩ = some (.int .i64 ((rd_T32 l0 x5_1).f1)) ∧ w'.cell? ⟨(ad360.add ((x5_1).toNat * 10)).block, (ad360.add ((x5_1).toNat * 10)).off + 2, none⟩ = some (.string ((rd_T32 l0 x5_1).f2)) ∧ w'.cell? ⟨(ad360.add ((x5_1).toNat * 10)).block, (ad360.add ((x5_1).toNat * 10)).off + 3, none⟩ = some (.int .i64 ((rd_T32 l0 x5_1).f3)) ∧ w'.cell? ⟨(ad360.add ((x5_1).toNat * 10)).block, (ad360.add ((x5_1).toNat * 10)).off + 4, none⟩ = some (.slice A360_4 ((rd_T32 l0 x5_1).f4).length c360_4) ∧ w'.cell? ⟨(ad360.add ((x5_1).toNat * 10)).block, (ad360.add ((x5_1).toNat * 10)).off + 5, none⟩ = some (.slice A360_5 ((rd_T32 l0 x5_1).f5).length c360_5) ∧ w'.cell? ⟨(ad360.add ((x5_1).toNat * 10)).block, (ad360.add ((x5_1).toNat * 10)).off + 6, none⟩ = some (.int .i64 ((rd_T32 l0 x5_1).f6.f0)) ∧ w'.cell? ⟨(ad360.add ((x5_1).toNat * 10)).block, (ad360.add ((x5_1).toNat * 10)).off + 7, none⟩ = some (.int .i64 ((rd_T32 l0 x5_1).f6.f1)) ∧ w'.cell? ⟨(ad360.add ((x5_1).toNat * 10)).block, (ad360.add ((x5_1).toNat * 10)).off + 8, none⟩ = some (.string ((rd_T32 l0 x5_1).f6.f2)) ∧ w'.cell? ⟨(ad360.add ((x5_1).toNat * 10)).block, (ad360.add ((x5_1).toNat * 10)).off + 9, none⟩ = some (.int .i64 ((rd_T32 l0 x5_1).f6.f3)) ∧ w'.cell? (ad361.add ((x5_1).toNat * 10)) = some (.int .i64 ((rd_T32 l1 x5_1).f0)) ∧ w'.cell? ⟨(ad361.add ((x5_1).toNat * 10)).block, (ad361.add ((x5_1).toNat * 10)).off + 1, none⟩ = some (.int .i64 ((rd_T32 l1 x5_1).f1)) ∧ w'.cell? ⟨(ad361.add ((x5_1).toNat * 10)).block, (ad361.add ((x5_1).toNat * 10)).off + 2, none⟩ = some (.string ((rd_T32 l1 x5_1).f2)) ∧ w'.cell? ⟨(ad361.add ((x5_1).toNat * 10)).block, (ad361.add ((x5_1).toNat * 10)).off + 3, none⟩ = some (.int .i64 ((rd_T32 l1 x5_1).f3)) ∧ w'.cell? ⟨(ad361.add ((x5_1).toNat * 10)).block, (ad361.add ((x5_1).toNat * 10)).off + 4, none⟩ = some (.slice A361_4 ((rd_T32 l1 x5_1).f4).length c361_4) ∧ w'.cell? ⟨(ad361.add ((x5_1).toNat * 10)).block, (ad361.add ((x5_1).toNat * 10)).off + 5, none⟩ = some (.slice A361_5 ((rd_T32 l1 x5_1).f5).length c361_5) ∧ w'.cell? ⟨(ad361.add ((x5_1).toNat * 10)).block, (ad361.add ((x5_1).toNat * 10)).off + 6, none⟩ = some (.int .i64 ((rd_T32 l1 x5_1).f6.f0)) ∧ w'.cell? ⟨(ad361.add ((x5_1).toNat * 10)).block, (ad361.add ((x5_1).toNat * 10)).off + 7, none⟩ = some (.int .i64 ((rd_T32 l1 x5_1).f6.f1)) ∧ w'.cell? ⟨(ad361.add ((x5_1).toNat * 10)).block, (ad361.add ((x5_1).toNat * 10)).off + 8, none⟩ = some (.string ((rd_T32 l1 x5_1).f6.f2)) ∧ w'.cell? ⟨(ad361.add ((x5_1).toNat * 10)).block, (ad361.add ((x5_1).toNat * 10)).off + 9, none⟩ = some (.int .i64 ((rd_T32 l1 x5_1).f6.f3))) (ds := []) #[false, false, false, false, false, false, false, false, false, false] (by kernel_rfl) rfl rfl ⟨((HB.out.cell (World.block_lt_of_cell? w _ hw360_0)).trans hw360_0), ((HB.out.cell (World.block_lt_of_cell? w _ hw360_1)).trans hw360_1), ((HB.out.cell (World.block_lt_of_cell? w _ hw360_2)).trans hw360_2), ((HB.out.cell (World.block_lt_of_cell? w _ hw360_3)).trans hw360_3), ((HB.out.cell (World.block_lt_of_cell? w _ hw360_4)).trans hw360_4), ((HB.out.cell (World.block_lt_of_cell? w _ hw360_5)).trans hw360_5), ((HB.out.cell (World.block_lt_of_cell? w _ hw360_6)).trans hw360_6), ((HB.out.cell (World.block_lt_of_cell? w _ hw360_7)).trans hw360_7), ((HB.out.cell (World.block_lt_of_cell? w _ hw360_8)).trans hw360_8), ((HB.out.cell (World.block_lt_of_cell? w _ hw360_9)).trans hw360_9), ((HB.out.cell (World.block_lt_of_cell? w _ hw361_0)).trans hw361_0), ((HB.out.cell (World.block_lt_of_cell? w _ hw361_1)).trans hw361_1), ((HB.out.cell (World.block_lt_of_cell? w _ hw361_2)).trans hw361_2), ((HB.out.cell (World.block_lt_of_cell? w _ hw361_3)).trans hw361_3), ((HB.out.cell (World.block_lt_of_cell? w _ hw361_4)).trans hw361_4), ((HB.out.cell (World.block_lt_of_cell? w _ hw361_5)).trans hw361_5), ((HB.out.cell (World.block_lt_of_cell? w _ hw361_6)).trans hw361_6), ((HB.out.cell (World.block_lt_of_cell? w _ hw361_7)).trans hw361_7), ((HB.out.cell (World.block_lt_of_cell? w _ hw361_8)).trans hw361_8), ((HB.out.cell (World.block_lt_of_cell? w _ hw361_9)).trans hw361_9)⟩ (fun hHeld => ?_); refine with_tabW laws_eqObjectS.tab6 laws_eqObjectS.bits6 (fun HT_ HW_ => ?_)
        generalize wr.drew = w11 at HB HR360_4 HR360_5 HR361_4 HR361_5 hx360_0 hx360_1 hx360_2 hx360_3 hx360_4 hx360_5 hx360_6 hx360_7 hx360_8 hx360_9 hx361_0 hx361_1 hx361_2 hx361_3 hx361_4 hx361_5 hx361_6 hx361_7 hx361_8 hx361_9 hHeld ⊢
        refine pure_ (i := 0) (N := some 17) (v := ?_) (a' := ?_) #[true, false, false, false, false, false, false, false, false, false] rfl rfl (any_of HT_.out (by kernel_rfl)) (fun _ _ _ h => h) (Or.inl ⟨by rfl, ?_⟩) ?_ ?_
        rotate_left
        ·intro w'
         go_simp
         with_reducible rfl
        rotate_left
        ·simp only [Act.put, List.setIfInBounds_toArray, List.set_cons_zero, List.set_cons_succ, i64_w, i32_w]
         rfl
        refine pure_ (i := 1) (N := some 18) (v := ?_) (a' := ?_) #[true, true, false, false, false, false, false, false, false, false] rfl rfl (any_of HT_.out (by kernel_rfl)) (fun _ _ _ h => h) (Or.inl ⟨by rfl, ?_⟩) ?_ ?_
        rotate_left
        ·intro w'
         go_simp
         with_reducible rfl
        rotate_left
        ·simp only [Act.put, List.setIfInBounds_toArray, List.set_cons_zero, List.set_cons_succ, i64_w, i32_w]
         rfl
        refine pure_ (i := 2) (N := some 19) (v := ?_) (a' := ?_) #[true, true, true, false, false, false, false, false, false, false] rfl rfl (any_of HT_.out (by kernel_rfl)) (fun _ _ _ h => h) (Or.inl ⟨by rfl, ?_⟩) ?_ ?_
        rotate_left
        ·intro w'
         go_simp
         with_reducible rfl
        rotate_left
        ·simp only [Act.put, List.setIfInBounds_toArray, List.set_cons_zero, List.set_cons_succ, i64_w, i32_w]
         rfl
        refine pure_ (i := 4) (N := some 21) (v := ?_) (a' := ?_) #[true, true, true, false, true, false, false, false, false, false] rfl rfl (any_of HT_.out (by kernel_rfl)) (fun _ _ _ h => h) (Or.inl ⟨by rfl, ?_⟩) ?_ ?_
        rotate_left
        ·intro w'
         go_simp
         with_reducible rfl
        rotate_left
        ·simp only [Act.put, List.setIfInBounds_toArray, List.set_cons_zero, List.set_cons_succ, i64_w, i32_w]
         rfl
        refine pure_ (i := 5) (N := some 22) (v := ?_) (a' := ?_) #[true, true, true, false, true, true, false, false, false, false] rfl rfl (any_of HT_.out (by kernel_rfl)) (fun _ _ _ h => h) (Or.inl ⟨by rfl, ?_⟩) ?_ ?_
        rotate_left
        ·intro w'
         go_simp
         with_reducible rfl
        rotate_left
        ·simp only [Act.put, List.setIfInBounds_toArray, List.set_cons_zero, List.set_cons_succ, i64_w, i32_w]
         rfl
        refine pure_ (i := 6) (N := some 23) (v := ?_) (a' := ?_) #[true, true, true, false, true, true, true, false, false, false] rfl rfl (any_of HT_.out (by kernel_rfl)) (fun _ _ _ h => h) (Or.inl ⟨by rfl, ?_⟩) ?_ ?_
        rotate_left
        ·intro w'
         go_simp
         with_reducible rfl
        rotate_left
        ·simp only [Act.put, List.setIfInBounds_toArray, List.set_cons_zero, List.set_cons_succ, i64_w, i32_w]
         rfl
        refine take_ (i := 3) (N := some 20) (v := ?_) (a' := ?_) #[true, true, true, true, true, true, true, false, false, false] rfl rfl (take_ofW HT_.out HW_.out (by kernel_rfl)) (fun _ _ _ h => h) (Or.inl ⟨by rfl, ?_⟩) hHeld ?_ ?_
        rotate_left
        ·rintro w' ⟨s0, s1, s2, s3, s4, s5, s6, s7, s8, s9, s10, s11, s12, s13, s14, s15, s16, s17, s18, s19⟩
         go_simp
         with_reducible rfl
        rotate_left
        ·simp only [Act.put, List.setIfInBounds_toArray, List.set_cons_zero, List.set_cons_succ, i64_w, i32_w]
         rfl
        refine take_ (i := 7) (N := some 24) (v := ?_) (a' := ?_) #[true, true, true, true, true, true, true, true, false, false] rfl rfl (take_ofW HT_.out HW_.out (by kernel_rfl)) (fun _ _ _ h => h) (Or.inl ⟨by rfl, ?_⟩) hHeld ?_ ?_
        rotate_left
        ·rintro w' ⟨s0, s1, s2, s3, s4, s5, s6, s7, s8, s9, s10, s11, s12, s13, s14, s15, s16, s17, s18, s19⟩
         go_simp
         with_reducible rfl
        rotate_left
        ·simp only [Act.put, List.setIfInBounds_toArray, List.set_cons_zero, List.set_cons_succ, i64_w, i32_w]
         rfl
        refine one_ (i := 8) (N := some 25) #[true, true, true, true, true, true, true, true, true, false] rfl rfl (one_of HT_.out (by kernel_rfl)) (by decide) (fun K hK => ?_)
        refine goes_ Try.func13 (by kernel_rfl) rfl #[.agg #[.int .i64 ((rd_T32 l0 x5_1).f0), .int .i64 ((rd_T32 l0 x5_1).f1), .string ((rd_T32 l0 x5_1).f2), .int .i64 ((rd_T32 l0 x5_1).f3), .slice A360_4 ((rd_T32 l0 x5_1).f4).length c360_4, .slice A360_5 ((rd_T32 l0 x5_1).f5).length c360_5, .int .i64 ((rd_T32 l0 x5_1).f6.f0), .int .i64 ((rd_T32 l0 x5_1).f6.f1), .string ((rd_T32 l0 x5_1).f6.f2), .int .i64 ((rd_T32 l0 x5_1).f6.f3)], .agg #[.int .i64 ((rd_T32 l1 x5_1).f0), .int .i64 ((rd_T32 l1 x5_1).f1), .string ((rd_T32 l1 x5_1).f2), .int .i64 ((rd_T32 l1 x5_1).f3), .slice A361_4 ((rd_T32 l1 x5_1).f4).length c361_4, .slice A361_5 ((rd_T32 l1 x5_1).f5).length c361_5, .int .i64 ((rd_T32 l1 x5_1).f6.f0), .int .i64 ((rd_T32 l1 x5_1).f6.f1), .string ((rd_T32 l1 x5_1).f6.f2), .int .i64 ((rd_T32 l1 x5_1).f6.f3)]] (by rfl) rfl rfl (by (try simp only [List.map_toArray, List.map_cons, List.map_nil]); first | done | rfl | (simp only [List.length_drop, List.length_take]; rfl)) ?_
        with_reducible refine (laws_eqObject.calls k1 ((rd_T32 l0 x5_1).f0) ((rd_T32 l0 x5_1).f1) ((rd_T32 l0 x5_1).f2) ((rd_T32 l0 x5_1).f3) _ _ ((rd_T32 l0 x5_1).f4) _ _ ((rd_T32 l0 x5_1).f5) ((rd_T32 l0 x5_1).f6.f0) ((rd_T32 l0 x5_1).f6.f1) ((rd_T32 l0 x5_1).f6.f2) ((rd_T32 l0 x5_1).f6.f3) ((rd_T32 l1 x5_1).f0) ((rd_T32 l1 x5_1).f1) ((rd_T32 l1 x5_1).f2) ((rd_T32 l1 x5_1).f3) _ _ ((rd_T32 l1 x5_1).f4) _ _ ((rd_T32 l1 x5_1).f5) ((rd_T32 l1 x5_1).f6.f0) ((rd_T32 l1 x5_1).f6.f1) ((rd_T32 l1 x5_1).f6.f2) ((rd_T32 l1 x5_1).f6.f3) false _ ?side1 ?side2 ?side3 ?side4 ?side5 ?side6 ?side7 ?side8 A7.out).mono ?_
        (case side1 => repeat (first | exact (Kd.C_below HR360_4.out HB.out) | (with_reducible refine Kd.C_alloc ?_ _) | (with_reducible refine Kd.C_drewN ?_ _) | (with_reducible refine Kd.C_drew ?_)))
        (case side2 => exact HC360_4.out)
        (case side3 => repeat (first | exact (Kd.C_below HR360_5.out HB.out) | (with_reducible refine Kd.C_alloc ?_ _) | (with_reducible refine Kd.C_drewN ?_ _) | (with_reducible refine Kd.C_drew ?_)))
        (case side4 => exact HC360_5.out)
        (case side5 => repeat (first | exact (Kd.C_below HR361_4.out HB.out) | (with_reducible refine Kd.C_alloc ?_ _) | (with_reducible refine Kd.C_drewN ?_ _) | (with_reducible refine Kd.C_drew ?_)))
        (case side6 => exact HC361_4.out)
        (case side7 => repeat (first | exact (Kd.C_below HR361_5.out HB.out) | (with_reducible refine Kd.C_alloc ?_ _) | (with_reducible refine Kd.C_drewN ?_ _) | (with_reducible refine Kd.C_drew ?_)))
        (case side8 => exact HC361_5.out)
        rintro e w12 ⟨rfl, hb⟩
        refine ⟨_, rfl, ?_⟩
        have n0_ := sB HB hb
        clear HB
        have HB := n0_
        clear n0_
        (try clear hb)
        (try clear hb2)
        (try clear hk)
        (try clear hi)
        refine hK.out _ _ ⟨((HB.out.cell (World.block_lt_of_cell? w _ hw360_0)).trans hw360_0), ((HB.out.cell (World.block_lt_of_cell? w _ hw360_1)).trans hw360_1), ((HB.out.cell (World.block_lt_of_cell? w _ hw360_2)).trans hw360_2), ((HB.out.cell (World.block_lt_of_cell? w _ hw360_3)).trans hw360_3), ((HB.out.cell (World.block_lt_of_cell? w _ hw360_4)).trans hw360_4), ((HB.out.cell (World.block_lt_of_cell? w _ hw360_5)).trans hw360_5), ((HB.out.cell (World.block_lt_of_cell? w _ hw360_6)).trans hw360_6), ((HB.out.cell (World.block_lt_of_cell? w _ hw360_7)).trans hw360_7), ((HB.out.cell (World.block_lt_of_cell? w _ hw360_8)).trans hw360_8), ((HB.out.cell (World.block_lt_of_cell? w _ hw360_9)).trans hw360_9), ((HB.out.cell (World.block_lt_of_cell? w _ hw361_0)).trans hw361_0), ((HB.out.cell (World.block_lt_of_cell? w _ hw361_1)).trans hw361_1), ((HB.out.cell (World.block_lt_of_cell? w _ hw361_2)).trans hw361_2), ((HB.out.cell (World.block_lt_of_cell? w _ hw361_3)).trans hw361_3), ((HB.out.cell (World.block_lt_of_cell? w _ hw361_4)).trans hw361_4), ((HB.out.cell (World.block_lt_of_cell? w _ hw361_5)).trans hw361_5), ((HB.out.cell (World.block_lt_of_cell? w _ hw361_6)).trans hw361_6), ((HB.out.cell (World.block_lt_of_cell? w _ hw361_7)).trans hw361_7), ((HB.out.cell (World.block_lt_of_cell? w _ hw361_8)).trans hw361_8), ((HB.out.cell (World.block_lt_of_cell? w _ hw361_9)).trans hw361_9)⟩ (fun hHeld => ?_)
        clear hK K
        refine norm_ (a' := ?_) ?_ ?_
        rotate_left
        ·show Act.put _ (some 25) _ = _
         simp only [Act.put, List.setIfInBounds_toArray, List.set_cons_zero, List.set_cons_succ, i64_w, i32_w]
         rfl
        refine pure_ (i := 9) (N := some 26) (v := ?_) (a' := ?_) #[true, true, true, true, true, true, true, true, true, true] rfl rfl (any_of HT_.out (by kernel_rfl)) (fun _ _ _ h => h) (Or.inl ⟨by rfl, ?_⟩) ?_ ?_
        rotate_left
        ·intro w'
         go_simp
         with_reducible rfl
        rotate_left
        ·simp only [Act.put, List.setIfInBounds_toArray, List.set_cons_zero, List.set_cons_succ, i64_w, i32_w]
         rfl
        refine done_ (done_of HT_.out (by kernel_rfl)) ?_
        try go_wp2
        go_ret
        exact ⟨sq, sb⟩
      ·rw [if_neg c6] at H
       exact absurd H (by simp)
     ·rw [if_neg c5] at H
      exact absurd H (by simp)
    ·rw [if_neg c4] at H
     have c4b0 := decide_eq_false c4
     clear c4
     obtain rfl := Option.some.inj H
     go_wp2
     go_ret
     exact ⟨sq, sb⟩
 ·rw [if_neg c3] at H
  have c3b0 : ((l0.length : Int) == (l1.length : Int)) = false := beq_eq_false_iff_ne.mpr c3
  have c3b1 : ((l0.length : Int) != (l1.length : Int)) = true := bne_iff_ne.mpr c3
  have c3b2 : (l0.length == l1.length) = false := by first | simpa using c3 | (simp at c3 ⊢; omega)
  obtain rfl := Option.some.inj H
  go_enter Try.func48, Try.ntmps48
  go_wp2
  go_ret
  exact ⟨sq, sb⟩

/-! ### laws_eqHeap: function 18 -/
def laws_eqHeap.f (k : Nat) (a0_0 : Int) (l0_1 : List (S32)) (a1_0 : Int) (l1_1 : List (S32)) : Option (Bool) := if a0_0 = a1_0 then ((laws_eqObjectS.f k l0_1 l1_1).bind fun t365 => (if t365 = true then (some true) else (some false))) else (some false)
set_option maxHeartbeats 8000000 in
set_option maxRecDepth 100000 in
theorem laws_eqHeap.calls (k : Nat) (a0_0 : Int) (A0_1 : Option Addr) (c0_1 : Nat) (l0_1 : List (S32)) (a1_0 : Int) (A1_1 : Option Addr) (c1_1 : Nat) (l1_1 : List (S32)) (r : Bool) (w : World) (hr0_1 : Kd.C k32 w A0_1 l0_1.length l0_1) (hc0_1 : l0_1.length ≤ c0_1) (hr1_1 : Kd.C k32 w A1_1 l1_1.length l1_1) (hc1_1 : l1_1.length ≤ c1_1) (h : laws_eqHeap.f k a0_0 l0_1 a1_0 l1_1 = some r) :
  Calls Try.prog 18 #[.agg #[.int .i64 a0_0, .slice A0_1 l0_1.length c0_1], .agg #[.int .i64 a1_0, .slice A1_1 l1_1.length c1_1]] w fun e w' => e = .returned (.bool r) ∧ Below w.heap.size w w' := by
 have hu43 := Try.underlying43
 have HR0_1 := Aside0.mk hr0_1
 have HC0_1 := Aside0.mk hc0_1
 clear hr0_1 hc0_1
 have HR1_1 := Aside0.mk hr1_1
 have HC1_1 := Aside0.mk hc1_1
 clear hr1_1 hc1_1
 have HB := Aside0.mk (Below.refl w.heap.size w)
 have H : (if a0_0 = a1_0 then ((laws_eqObjectS.f k l0_1 l1_1).bind fun t365 => (if t365 = true then (some true) else (some false))) else (some false)) = some r := h
 clear h
 by_cases c3 : a0_0 = a1_0
 ·rw [if_pos c3] at H
  have c3b0 : (a0_0 == a1_0) = true := beq_iff_eq.mpr c3
  have c3b1 : (a0_0 != a1_0) = false := bne_eq_false_iff_eq.mpr c3
  clear c3
  replace H := Option.bind_eq_some_iff.mp H
  obtain ⟨t365, A40, H⟩ := H
  replace H : (if t365 = true then (some true) else (some false)) = some r := H
  have A4 := Aside0.mk A40
  clear A40
  by_cases c5 : t365 = true
  ·subst c5
   have H1 : (some true) = some r := by rw [if_pos rfl] at H; exact H
   clear H
   have H := H1
   clear H1
   obtain rfl := Option.some.inj H
   go_enter Try.func18, Try.ntmps18
   go_wp2_with (first | ((with_reducible refine gate_dst (N := 2) rfl ?_); refine sV (N := 2) (cs := #[.int .i64 a0_0, .slice A0_1 l0_1.length c0_1]) (t := 43) ?_; intro gb363 hg w6 hbox hb; have n0_ := sB HB hb; have n1_ := Aside0.mk (hbox); have n2_ := sG HB hg; have n3_ := sG HB hg; clear HB; have HB := n0_; have BK363 := n1_; have GW363 := n2_; have GE363 := n3_; clear n0_ n1_ n2_ n3_; clear hb hbox hg) | ((with_reducible refine gate_dst (N := 3) rfl ?_); refine sV (N := 3) (cs := #[.int .i64 a1_0, .slice A1_1 l1_1.length c1_1]) (t := 43) ?_; intro gb364 hg w7 hbox hb; have n0_ := sK BK363 hb; have n1_ := sB HB hb; have n2_ := Aside0.mk (hbox); have n3_ := sG HB hg; have n4_ := sG HB hg; have n5_ := sN BK363 hg; have n6_ := sM BK363 hg; clear BK363; clear HB; have BK363 := n0_; have HB := n1_; have BK364 := n2_; have GW364 := n3_; have GE364 := n4_; have NB363_364 := n5_; have NB364_363 := n6_; clear n0_ n1_ n2_ n3_ n4_ n5_ n6_; clear hb hbox hg; have hnb8 := NB363_364.out; have hnc8 := NB364_363.out; obtain ⟨hcz9_0, hcz9_1, hfz9_0, hfz9_1⟩ := cells2 BK363.out; obtain ⟨hcz10_0, hcz10_1, hfz10_0, hfz10_1⟩ := cells2 BK364.out) | ((with_reducible refine gate_callee (f := 48) rfl ?_); refine sC (some 14) Try.func48 #[.slice A0_1 l0_1.length c0_1, .slice A1_1 l1_1.length c1_1] (laws_eqObjectS.calls k _ _ l0_1 _ _ l1_1 true _ ?side1 ?side2 ?side3 ?side4 A4.out) ?_; (case side1 => repeat (first | exact (Kd.C_below HR0_1.out HB.out) | (with_reducible refine Kd.C_alloc ?_ _) | (with_reducible refine Kd.C_drewN ?_ _) | (with_reducible refine Kd.C_drew ?_))); (case side2 => exact HC0_1.out); (case side3 => repeat (first | exact (Kd.C_below HR1_1.out HB.out) | (with_reducible refine Kd.C_alloc ?_ _) | (with_reducible refine Kd.C_drewN ?_ _) | (with_reducible refine Kd.C_drew ?_))); (case side4 => exact HC1_1.out); rintro e w11 ⟨rfl, hb⟩; refine ⟨_, rfl, ?_⟩; have n0_ := sK BK363 hb; have n1_ := sK BK364 hb; have n2_ := sB HB hb; clear BK363; clear BK364; clear HB; have BK363 := n0_; have BK364 := n1_; have HB := n2_; clear n0_ n1_ n2_; (try clear hb); (try clear hb2); (try clear hk); (try clear hi)))
   go_ret
   exact ⟨sq, sb⟩
  ·replace c5 := Bool.eq_false_iff.mpr c5
   subst c5
   have H1 : (some false) = some r := by rw [if_neg (show ¬ (false = true) by decide)] at H; exact H
   clear H
   have H := H1
   clear H1
   obtain rfl := Option.some.inj H
   go_enter Try.func18, Try.ntmps18
   go_wp2_with (first | ((with_reducible refine gate_dst (N := 2) rfl ?_); refine sV (N := 2) (cs := #[.int .i64 a0_0, .slice A0_1 l0_1.length c0_1]) (t := 43) ?_; intro gb363 hg w12 hbox hb; have n0_ := sB HB hb; have n1_ := Aside0.mk (hbox); have n2_ := sG HB hg; have n3_ := sG HB hg; clear HB; have HB := n0_; have BK363 := n1_; have GW363 := n2_; have GE363 := n3_; clear n0_ n1_ n2_ n3_; clear hb hbox hg) | ((with_reducible refine gate_dst (N := 3) rfl ?_); refine sV (N := 3) (cs := #[.int .i64 a1_0, .slice A1_1 l1_1.length c1_1]) (t := 43) ?_; intro gb364 hg w13 hbox hb; have n0_ := sK BK363 hb; have n1_ := sB HB hb; have n2_ := Aside0.mk (hbox); have n3_ := sG HB hg; have n4_ := sG HB hg; have n5_ := sN BK363 hg; have n6_ := sM BK363 hg; clear BK363; clear HB; have BK363 := n0_; have HB := n1_; have BK364 := n2_; have GW364 := n3_; have GE364 := n4_; have NB363_364 := n5_; have NB364_363 := n6_; clear n0_ n1_ n2_ n3_ n4_ n5_ n6_; clear hb hbox hg; have hnb14 := NB363_364.out; have hnc14 := NB364_363.out; obtain ⟨hcz15_0, hcz15_1, hfz15_0, hfz15_1⟩ := cells2 BK363.out; obtain ⟨hcz16_0, hcz16_1, hfz16_0, hfz16_1⟩ := cells2 BK364.out) | ((with_reducible refine gate_callee (f := 48) rfl ?_); refine sC (some 14) Try.func48 #[.slice A0_1 l0_1.length c0_1, .slice A1_1 l1_1.length c1_1] (laws_eqObjectS.calls k _ _ l0_1 _ _ l1_1 false _ ?side1 ?side2 ?side3 ?side4 A4.out) ?_; (case side1 => repeat (first | exact (Kd.C_below HR0_1.out HB.out) | (with_reducible refine Kd.C_alloc ?_ _) | (with_reducible refine Kd.C_drewN ?_ _) | (with_reducible refine Kd.C_drew ?_))); (case side2 => exact HC0_1.out); (case side3 => repeat (first | exact (Kd.C_below HR1_1.out HB.out) | (with_reducible refine Kd.C_alloc ?_ _) | (with_reducible refine Kd.C_drewN ?_ _) | (with_reducible refine Kd.C_drew ?_))); (case side4 => exact HC1_1.out); rintro e w17 ⟨rfl, hb⟩; refine ⟨_, rfl, ?_⟩; have n0_ := sK BK363 hb; have n1_ := sK BK364 hb; have n2_ := sB HB hb; clear BK363; clear BK364; clear HB; have BK363 := n0_; have BK364 := n1_; have HB := n2_; clear n0_ n1_ n2_; (try clear hb); (try clear hb2); (try clear hk); (try clear hi)))
   go_ret
   exact ⟨sq, sb⟩
 ·rw [if_neg c3] at H
  have c3b0 : (a0_0 == a1_0) = false := beq_eq_false_iff_ne.mpr c3
  have c3b1 : (a0_0 != a1_0) = true := bne_iff_ne.mpr c3
  obtain rfl := Option.some.inj H
  go_enter Try.func18, Try.ntmps18
  go_wp2_with (first | ((with_reducible refine gate_dst (N := 2) rfl ?_); refine sV (N := 2) (cs := #[.int .i64 a0_0, .slice A0_1 l0_1.length c0_1]) (t := 43) ?_; intro gb363 hg w18 hbox hb; have n0_ := sB HB hb; have n1_ := Aside0.mk (hbox); have n2_ := sG HB hg; have n3_ := sG HB hg; clear HB; have HB := n0_; have BK363 := n1_; have GW363 := n2_; have GE363 := n3_; clear n0_ n1_ n2_ n3_; clear hb hbox hg) | ((with_reducible refine gate_dst (N := 3) rfl ?_); refine sV (N := 3) (cs := #[.int .i64 a1_0, .slice A1_1 l1_1.length c1_1]) (t := 43) ?_; intro gb364 hg w19 hbox hb; have n0_ := sK BK363 hb; have n1_ := sB HB hb; have n2_ := Aside0.mk (hbox); have n3_ := sG HB hg; have n4_ := sG HB hg; have n5_ := sN BK363 hg; have n6_ := sM BK363 hg; clear BK363; clear HB; have BK363 := n0_; have HB := n1_; have BK364 := n2_; have GW364 := n3_; have GE364 := n4_; have NB363_364 := n5_; have NB364_363 := n6_; clear n0_ n1_ n2_ n3_ n4_ n5_ n6_; clear hb hbox hg; have hnb20 := NB363_364.out; have hnc20 := NB364_363.out; obtain ⟨hcz21_0, hcz21_1, hfz21_0, hfz21_1⟩ := cells2 BK363.out; obtain ⟨hcz22_0, hcz22_1, hfz22_0, hfz22_1⟩ := cells2 BK364.out))
  go_ret
  exact ⟨sq, sb⟩

/-! ### laws_FnExactValidHeap: function 4 -/
def laws_FnExactValidHeap.f (k : Nat) (a0_0 : Int) (l0_1 : List (S26)) : Option (Bool) := (laws_szHeap.f k a0_0 l0_1 1048576).bind fun t367 => (if t367 < 0 then (some true) else ((laws_toHeap.f k a0_0 l0_1).bind fun bt368 => ((spec_ValidHeap.f k bt368.1 bt368.2).bind fun t372 => ((laws_toHeap.f k a0_0 l0_1).bind fun bt373 => ((impl_ValidHeap.f k bt373.1 bt373.2).bind fun t378 => (if (t378 != t372) = true then (some false) else ((laws_toHeap.f k a0_0 l0_1).bind fun bt379 => ((laws_eqHeap.f k bt373.1 bt373.2 bt379.1 bt379.2).bind fun t383 => (if t383 = true then (some true) else (some false))))))))))
set_option maxHeartbeats 8000000 in
set_option maxRecDepth 100000 in
theorem laws_FnExactValidHeap.calls (k : Nat) (a0_0 : Int) (A0_1 : Option Addr) (c0_1 : Nat) (l0_1 : List (S26)) (w : World) (hr0_1 : Kd.C k26 w A0_1 l0_1.length l0_1) (hc0_1 : l0_1.length ≤ c0_1) (h : laws_FnExactValidHeap.f k a0_0 l0_1 = some true) :
  Calls Try.prog 4 #[.agg #[.int .i64 a0_0, .slice A0_1 l0_1.length c0_1]] w fun e w' => e = .returned (.bool true) ∧ Below w.heap.size w w' := by
 have hu38 := Try.underlying38
 have hu43 := Try.underlying43
 have HR0_1 := Aside0.mk hr0_1
 have HC0_1 := Aside0.mk hc0_1
 clear hr0_1 hc0_1
 have HB := Aside0.mk (Below.refl w.heap.size w)
 have H : ((laws_szHeap.f k a0_0 l0_1 1048576).bind fun t367 => (if t367 < 0 then (some true) else ((laws_toHeap.f k a0_0 l0_1).bind fun bt368 => ((spec_ValidHeap.f k bt368.1 bt368.2).bind fun t372 => ((laws_toHeap.f k a0_0 l0_1).bind fun bt373 => ((impl_ValidHeap.f k bt373.1 bt373.2).bind fun t378 => (if (t378 != t372) = true then (some false) else ((laws_toHeap.f k a0_0 l0_1).bind fun bt379 => ((laws_eqHeap.f k bt373.1 bt373.2 bt379.1 bt379.2).bind fun t383 => (if t383 = true then (some true) else (some false))))))))))) = some true := h
 clear h
 replace H := Option.bind_eq_some_iff.mp H
 obtain ⟨t367, A20, H⟩ := H
 replace H : (if t367 < 0 then (some true) else ((laws_toHeap.f k a0_0 l0_1).bind fun bt368 => ((spec_ValidHeap.f k bt368.1 bt368.2).bind fun t372 => ((laws_toHeap.f k a0_0 l0_1).bind fun bt373 => ((impl_ValidHeap.f k bt373.1 bt373.2).bind fun t378 => (if (t378 != t372) = true then (some false) else ((laws_toHeap.f k a0_0 l0_1).bind fun bt379 => ((laws_eqHeap.f k bt373.1 bt373.2 bt379.1 bt379.2).bind fun t383 => (if t383 = true then (some true) else (some false)))))))))) = some true := H
 have A2 := Aside0.mk A20
 clear A20
 by_cases c3 : t367 < 0
 ·rw [if_pos c3] at H
  have c3b0 := decide_eq_true c3
  clear c3
  clear H
  go_enter Try.func4, Try.ntmps4
  go_wp2_with (first | ((with_reducible refine gate_dst (N := 1) rfl ?_); refine sV (N := 1) (cs := #[.int .i64 a0_0, .slice A0_1 l0_1.length c0_1]) (t := 38) ?_; intro gb366 hg w4 hbox hb; have n0_ := sB HB hb; have n1_ := Aside0.mk (hbox); have n2_ := sG HB hg; have n3_ := sG HB hg; clear HB; have HB := n0_; have BK366 := n1_; have GW366 := n2_; have GE366 := n3_; clear n0_ n1_ n2_ n3_; clear hb hbox hg; obtain ⟨hcz5_0, hcz5_1, hfz5_0, hfz5_1⟩ := cells2 BK366.out) | ((with_reducible refine gate_callee (f := 14) rfl ?_); refine sC (some 9) Try.func14 #[.agg #[.int .i64 a0_0, .slice A0_1 l0_1.length c0_1], .int .i64 1048576] (laws_szHeap.calls k a0_0 _ _ l0_1 1048576 t367 _ ?side1 ?side2 A2.out) ?_; (case side1 => repeat (first | exact (Kd.C_below HR0_1.out HB.out) | (with_reducible refine Kd.C_alloc ?_ _) | (with_reducible refine Kd.C_drewN ?_ _) | (with_reducible refine Kd.C_drew ?_))); (case side2 => exact HC0_1.out); rintro e w6 ⟨rfl, hb⟩; refine ⟨_, rfl, ?_⟩; have n0_ := sK BK366 hb; have n1_ := sB HB hb; clear BK366; clear HB; have BK366 := n0_; have HB := n1_; clear n0_ n1_; (try clear hb); (try clear hb2); (try clear hk); (try clear hi)))
  go_ret
  exact ⟨sq, sb⟩
 ·rw [if_neg c3] at H
  have c3b0 := decide_eq_false c3
  clear c3
  replace H := Option.bind_eq_some_iff.mp H
  obtain ⟨⟨t368, t369⟩, A70, H⟩ := H
  replace H : ((spec_ValidHeap.f k t368 t369).bind fun t372 => ((laws_toHeap.f k a0_0 l0_1).bind fun bt373 => ((impl_ValidHeap.f k bt373.1 bt373.2).bind fun t378 => (if (t378 != t372) = true then (some false) else ((laws_toHeap.f k a0_0 l0_1).bind fun bt379 => ((laws_eqHeap.f k bt373.1 bt373.2 bt379.1 bt379.2).bind fun t383 => (if t383 = true then (some true) else (some false)))))))) = some true := H
  have A7 := Aside0.mk A70
  clear A70
  replace H := Option.bind_eq_some_iff.mp H
  obtain ⟨t372, A80, H⟩ := H
  replace H : ((laws_toHeap.f k a0_0 l0_1).bind fun bt373 => ((impl_ValidHeap.f k bt373.1 bt373.2).bind fun t378 => (if (t378 != t372) = true then (some false) else ((laws_toHeap.f k a0_0 l0_1).bind fun bt379 => ((laws_eqHeap.f k bt373.1 bt373.2 bt379.1 bt379.2).bind fun t383 => (if t383 = true then (some true) else (some false))))))) = some true := H
  have A8 := Aside0.mk A80
  clear A80
  replace H := Option.bind_eq_some_iff.mp H
  obtain ⟨⟨t373, t374⟩, A90, H⟩ := H
  replace H : ((impl_ValidHeap.f k t373 t374).bind fun t378 => (if (t378 != t372) = true then (some false) else ((laws_toHeap.f k a0_0 l0_1).bind fun bt379 => ((laws_eqHeap.f k t373 t374 bt379.1 bt379.2).bind fun t383 => (if t383 = true then (some true) else (some false)))))) = some true := H
  have A9 := Aside0.mk A90
  clear A90
  replace H := Option.bind_eq_some_iff.mp H
  obtain ⟨t378, A100, H⟩ := H
  replace H : (if (t378 != t372) = true then (some false) else ((laws_toHeap.f k a0_0 l0_1).bind fun bt379 => ((laws_eqHeap.f k t373 t374 bt379.1 bt379.2).bind fun t383 => (if t383 = true then (some true) else (some false))))) = some true := H
  have A10 := Aside0.mk A100
  clear A100
  by_cases c11 : (t378 != t372) = true
  ·rw [if_pos c11] at H
   have c11b0 : (t378 != t372) = true := c11
   (try (have c11b1 : decide (t378 = t372) = false := by simpa using c11))
   (try (have c11b2 : (t378 == t372) = false := by simpa using c11))
   (try (have c11b3 : ¬ (t378 = t372) := by simpa using c11))
   clear c11
   exact absurd H (by simp)
  ·rw [if_neg c11] at H
   have c11b0 : (t378 != t372) = false := by simpa using c11
   (try (have c11b1 : decide (t378 = t372) = true := by simpa using c11))
   (try (have c11b2 : (t378 == t372) = true := by simpa using c11))
   clear c11
   replace H := Option.bind_eq_some_iff.mp H
   obtain ⟨⟨t379, t380⟩, A120, H⟩ := H
   replace H : ((laws_eqHeap.f k t373 t374 t379 t380).bind fun t383 => (if t383 = true then (some true) else (some false))) = some true := H
   have A12 := Aside0.mk A120
   clear A120
   replace H := Option.bind_eq_some_iff.mp H
   obtain ⟨t383, A130, H⟩ := H
   replace H : (if t383 = true then (some true) else (some false)) = some true := H
   have A13 := Aside0.mk A130
   clear A130
   by_cases c14 : t383 = true
   ·subst c14
    have H1 : (some true) = some true := rfl
    clear H
    have H := H1
    clear H1
    clear H
    go_enter Try.func4, Try.ntmps4
    try go_wp2_with (first | ((with_reducible refine gate_dst (N := 1) rfl ?_); refine sV (N := 1) (cs := #[.int .i64 a0_0, .slice A0_1 l0_1.length c0_1]) (t := 38) ?_; intro gb366 hg w15 hbox hb; have n0_ := sB HB hb; have n1_ := Aside0.mk (hbox); have n2_ := sG HB hg; have n3_ := sG HB hg; clear HB; have HB := n0_; have BK366 := n1_; have GW366 := n2_; have GE366 := n3_; clear n0_ n1_ n2_ n3_; clear hb hbox hg; obtain ⟨hcz16_0, hcz16_1, hfz16_0, hfz16_1⟩ := cells2 BK366.out) | ((with_reducible refine gate_callee (f := 14) rfl ?_); refine sC (some 9) Try.func14 #[.agg #[.int .i64 a0_0, .slice A0_1 l0_1.length c0_1], .int .i64 1048576] (laws_szHeap.calls k a0_0 _ _ l0_1 1048576 t367 _ ?side1 ?side2 A2.out) ?_; (case side1 => repeat (first | exact (Kd.C_below HR0_1.out HB.out) | (with_reducible refine Kd.C_alloc ?_ _) | (with_reducible refine Kd.C_drewN ?_ _) | (with_reducible refine Kd.C_drew ?_))); (case side2 => exact HC0_1.out); rintro e w17 ⟨rfl, hb⟩; refine ⟨_, rfl, ?_⟩; have n0_ := sK BK366 hb; have n1_ := sB HB hb; clear BK366; clear HB; have BK366 := n0_; have HB := n1_; clear n0_ n1_; (try clear hb); (try clear hb2); (try clear hk); (try clear hi); obtain ⟨hcz18_0, hcz18_1, hfz18_0, hfz18_1⟩ := cells2 BK366.out) | ((with_reducible refine gate_callee (f := 16) rfl ?_); refine sC (some 13) Try.func16 #[.agg #[.int .i64 a0_0, .slice A0_1 l0_1.length c0_1]] (laws_toHeap.calls k a0_0 _ _ l0_1 t368 t369 _ ?side1 ?side2 A7.out) ?_; (case side1 => repeat (first | exact (Kd.C_below HR0_1.out HB.out) | (with_reducible refine Kd.C_alloc ?_ _) | (with_reducible refine Kd.C_drewN ?_ _) | (with_reducible refine Kd.C_drew ?_))); (case side2 => exact HC0_1.out); rintro e w19 ⟨v370, rfl, ho0, hb⟩; refine ⟨_, rfl, ?_⟩; have n0_ := Aside0.mk (Kd.S_lower ho0 (below_size (by repeat (first | (with_reducible first | exact HB.out | apply below_alloc | apply pw_below_drewN | apply below_drew1 | refine below_set ?_ GE366.out) | exact HB.out)))); have n1_ := sK BK366 hb; have n2_ := sB HB hb; clear BK366; clear HB; have HO371 := n0_; have BK366 := n1_; have HB := n2_; clear n0_ n1_ n2_; (try clear hb); (try clear hb2); (try clear hk); (try clear hi); (try clear ho0); obtain ⟨Ao20, co20, eo20⟩ := Kd.S_slice HO371.out; subst eo20) | ((with_reducible refine gate_callee (f := 15) rfl ?_); refine sC (some 14) Try.func15 #[.agg #[.int .i64 t368, .slice Ao20 t369.length co20]] (spec_ValidHeap.calls k t368 _ _ t369 t372 _ ?side1 ?side2 A8.out) ?_; (case side1 => repeat (first | exact (Kd.S_reads' HO371.out).2.2 | (with_reducible refine Kd.C_alloc ?_ _) | (with_reducible refine Kd.C_drewN ?_ _) | (with_reducible refine Kd.C_drew ?_))); (case side2 => exact (Kd.S_reads' HO371.out).2.1); rintro e w21 ⟨rfl, hb⟩; refine ⟨_, rfl, ?_⟩; have n0_ := Aside0.mk (Kd.S_below (by (with_reducible repeat (first | apply Kd.S_alloc | apply Kd.S_drewN | apply Kd.S_drew)); exact HO371.out) hb); have n1_ := sK BK366 hb; have n2_ := sB HB hb; clear HO371; clear BK366; clear HB; have HO371 := n0_; have BK366 := n1_; have HB := n2_; clear n0_ n1_ n2_; (try clear hb); (try clear hb2); (try clear hk); (try clear hi); obtain ⟨hcz22_0, hcz22_1, hfz22_0, hfz22_1⟩ := cells2 BK366.out) | ((with_reducible refine gate_callee (f := 16) rfl ?_); refine sC (some 16) Try.func16 #[.agg #[.int .i64 a0_0, .slice A0_1 l0_1.length c0_1]] (laws_toHeap.calls k a0_0 _ _ l0_1 t373 t374 _ ?side1 ?side2 A9.out) ?_; (case side1 => repeat (first | exact (Kd.C_below HR0_1.out HB.out) | (with_reducible refine Kd.C_alloc ?_ _) | (with_reducible refine Kd.C_drewN ?_ _) | (with_reducible refine Kd.C_drew ?_))); (case side2 => exact HC0_1.out); rintro e w23 ⟨v375, rfl, ho0, hb⟩; refine ⟨_, rfl, ?_⟩; have n0_ := Aside0.mk (Kd.S_elder' (by (with_reducible repeat (first | apply Kd.S_alloc | apply Kd.S_drewN | apply Kd.S_drew)); exact HO371.out) (Kd.S_base ho0) hb); have n1_ := Aside0.mk (Kd.S_lower (Kd.S_new' ho0 (Kd.S_lt (by (with_reducible repeat (first | apply Kd.S_alloc | apply Kd.S_drewN | apply Kd.S_drew)); exact HO371.out))) (below_size (by repeat (first | (with_reducible first | exact HB.out | apply below_alloc | apply pw_below_drewN | apply below_drew1 | refine below_set ?_ GE366.out) | exact HB.out)))); have n2_ := sK BK366 hb; have n3_ := sB HB hb; clear HO371; clear BK366; clear HB; have HO371 := n0_; have HO376 := n1_; have BK366 := n2_; have HB := n3_; clear n0_ n1_ n2_ n3_; (try clear hb); (try clear hb2); (try clear hk); (try clear hi); (try clear ho0)) | ((with_reducible refine gate_dst (N := 5) rfl ?_); refine sV (N := 5) (cs := #[.int .i64 0, .slice none 0 0]) (t := 43) ?_; intro gb377 hg w24 hbox hb; have n0_ := Aside0.mk (Kd.S_below (by (with_reducible repeat (first | apply Kd.S_alloc | apply Kd.S_drewN | apply Kd.S_drew)); exact HO371.out) hb); have n1_ := Aside0.mk (Kd.S_below (by (with_reducible repeat (first | apply Kd.S_alloc | apply Kd.S_drewN | apply Kd.S_drew)); exact HO376.out) hb); have n2_ := sK BK366 hb; have n3_ := sB HB hb; have n4_ := Aside0.mk (hbox); have n5_ := sG HB hg; have n6_ := sG HB hg; have n7_ := sN BK366 hg; have n8_ := sM BK366 hg; clear HO371; clear HO376; clear BK366; clear HB; have HO371 := n0_; have HO376 := n1_; have BK366 := n2_; have HB := n3_; have BK377 := n4_; have GW377 := n5_; have GE377 := n6_; have NB366_377 := n7_; have NB377_366 := n8_; clear n0_ n1_ n2_ n3_ n4_ n5_ n6_ n7_ n8_; clear hb hbox hg; have hnb25 := NB377_366.out; have hnc25 := NB366_377.out; obtain ⟨hcz26_0, hcz26_1, hfz26_0, hfz26_1⟩ := cells2 BK377.out; obtain ⟨Ao27, co27, eo27⟩ := Kd.S_slice HO376.out; subst eo27) | ((with_reducible refine gate_callee (f := 17) rfl ?_); refine sC (some 18) Try.func17 #[.agg #[.int .i64 t373, .slice Ao27 t374.length co27]] (impl_ValidHeap.calls k t373 _ _ t374 t378 _ ?side1 ?side2 A10.out) ?_; (case side1 => refine (Kd.S_reads' (e := 32) (base := w.heap.size) (ok := fun k_ => (True ∧ some k_ ≠ (.slice Ao20 t369.length co20 : Value).ownBlock)) (n := t374.length) (c := co27) ?_).2.2; exact (by (with_reducible repeat (first | apply Kd.S_alloc | apply Kd.S_drewN | apply Kd.S_drew)); exact (Kd.S_mono (Kd.S_far (p := ⟨gb377, 1, none⟩) (Kd.S_far (p := ⟨gb377, 0, none⟩) (Kd.S_types HO376.out BK377.out (by decide)) (fun _ hk => hk.2) (.int .i64 t373)) (fun _ hk => hk.2) (.slice Ao27 t374.length co27)) (fun _ h_ => h_.1)))); (case side2 => exact (Kd.S_reads' HO376.out).2.1); rintro e w28 ⟨rfl, hb⟩; refine ⟨_, rfl, ?_⟩; have n0_ := Aside0.mk (Kd.S_below (by (with_reducible repeat (first | apply Kd.S_alloc | apply Kd.S_drewN | apply Kd.S_drew)); exact (Kd.S_mono (Kd.S_far (p := ⟨gb377, 1, none⟩) (Kd.S_far (p := ⟨gb377, 0, none⟩) (Kd.S_types HO371.out BK377.out (by decide)) (fun _ hk => hk.2) (.int .i64 t373)) (fun _ hk => hk.2) (.slice Ao27 t374.length co27)) (fun _ h_ => h_.1))) hb); have n1_ := Aside0.mk (Kd.S_below (by (with_reducible repeat (first | apply Kd.S_alloc | apply Kd.S_drewN | apply Kd.S_drew)); exact (Kd.S_mono (Kd.S_far (p := ⟨gb377, 1, none⟩) (Kd.S_far (p := ⟨gb377, 0, none⟩) (Kd.S_types HO376.out BK377.out (by decide)) (fun _ hk => hk.2) (.int .i64 t373)) (fun _ hk => hk.2) (.slice Ao27 t374.length co27)) (fun _ h_ => h_.1))) hb); have n2_ := Aside0.mk (blk_below (g := gb366) (o := .cells #[.int .i64 a0_0, .slice A0_1 l0_1.length c0_1] 38 (0, 0)) (by (with_reducible repeat (first | refine blk_drewN ?_ _ | refine blk_drew ?_ | refine blk_alloc ?_ _)); refine blk_far ?_ NB366_377.out _; (with_reducible repeat (first | refine blk_drewN ?_ _ | refine blk_drew ?_ | refine blk_alloc ?_ _)); refine blk_far ?_ NB366_377.out _; (with_reducible repeat (first | refine blk_drewN ?_ _ | refine blk_drew ?_ | refine blk_alloc ?_ _)); exact BK366.out) hb); have n3_ := Aside0.mk (blk_below (g := gb377) (o := .cells #[.int .i64 t373, .slice Ao27 t374.length co27] 43 (0, 0)) (by (with_reducible repeat (first | refine blk_drewN ?_ _ | refine blk_drew ?_ | refine blk_alloc ?_ _)); refine blk_put (cs := #[.int .i64 t373, .slice none 0 0]) ?_ 1 _ rfl; (with_reducible repeat (first | refine blk_drewN ?_ _ | refine blk_drew ?_ | refine blk_alloc ?_ _)); refine blk_put (cs := #[.int .i64 0, .slice none 0 0]) ?_ 0 _ rfl; (with_reducible repeat (first | refine blk_drewN ?_ _ | refine blk_drew ?_ | refine blk_alloc ?_ _)); exact BK377.out) hb); have n4_ := sB HB hb; clear HO371; clear HO376; clear BK366; clear BK377; clear HB; have HO371 := n0_; have HO376 := n1_; have BK366 := n2_; have BK377 := n3_; have HB := n4_; clear n0_ n1_ n2_ n3_ n4_; (try clear hb); (try clear hb2); (try clear hk); (try clear hi)))
    have n0_ := Aside0.mk (Kd.S_drew HO371.out)
    have n1_ := Aside0.mk (Kd.S_drew HO376.out)
    have n2_ := Aside0.mk (blk_drew BK366.out)
    have n3_ := Aside0.mk (blk_drew BK377.out)
    have n4_ := Aside0.mk (below_drew1 HB.out)
    clear HO371
    clear HO376
    clear BK366
    clear BK377
    clear HB
    have HO371 := n0_
    have HO376 := n1_
    have BK366 := n2_
    have BK377 := n3_
    have HB := n4_
    clear n0_ n1_ n2_ n3_ n4_
    refine start_ (n := 5) (S := fun w' => w'.cell? ⟨gb377, 0, none⟩ = some (.int .i64 t373) ∧ w'.cell? ⟨gb377, 1, none⟩ = some (.slice Ao27 t374.length co27) ∧ w'.cell? ⟨gb366, 0, none⟩ = some (.int .i64 a0_0) ∧ w'.cell? ⟨gb366, 1, none⟩ = some (.slice A0_1 l0_1.length c0_1)) (ds := []) #[false, false, false, false, false] (by kernel_rfl) rfl rfl ⟨(blk_cell BK377.out 0).trans rfl, (blk_cell BK377.out 1).trans rfl, (blk_cell BK366.out 0).trans rfl, (blk_cell BK366.out 1).trans rfl⟩ (fun hHeld => ?_)
    generalize w28.drew = w29 at HO371 HO376 BK366 BK377 HB hHeld ⊢
    refine take_ (i := 0) (N := some 22) (v := ?_) (a' := ?_) #[true, false, false, false, false] rfl rfl (by kernel_rfl) (fun _ _ _ h => h) (Or.inl ⟨by rfl, ?_⟩) hHeld ?_ ?_
    rotate_left
    ·rintro w' ⟨s0, s1, s2, s3⟩
     go_simp
     with_reducible rfl
    rotate_left
    ·simp only [Act.put, List.setIfInBounds_toArray, List.set_cons_zero, List.set_cons_succ, i64_w, i32_w]
     rfl
    refine take_ (i := 1) (N := some 23) (v := ?_) (a' := ?_) #[true, true, false, false, false] rfl rfl (by kernel_rfl) (fun _ _ _ h => h) (Or.inl ⟨by rfl, ?_⟩) hHeld ?_ ?_
    rotate_left
    ·rintro w' ⟨s0, s1, s2, s3⟩
     go_simp
     with_reducible rfl
    rotate_left
    ·simp only [Act.put, List.setIfInBounds_toArray, List.set_cons_zero, List.set_cons_succ, i64_w, i32_w]
     rfl
    refine one_ (i := 2) (N := some 24) #[true, true, true, false, false] rfl rfl (by kernel_rfl) (by decide) (fun K hK => ?_)
    refine goes_ Try.func16 (by kernel_rfl) rfl #[.agg #[.int .i64 a0_0, .slice A0_1 l0_1.length c0_1]] (by rfl) rfl rfl (by (try simp only [List.map_toArray, List.map_cons, List.map_nil]); first | done | rfl | (simp only [List.length_drop, List.length_take]; rfl)) ?_
    with_reducible refine (laws_toHeap.calls k a0_0 _ _ l0_1 t379 t380 _ ?side1 ?side2 A12.out).mono ?_
    (case side1 => repeat (first | exact (Kd.C_below HR0_1.out HB.out) | (with_reducible refine Kd.C_alloc ?_ _) | (with_reducible refine Kd.C_drewN ?_ _) | (with_reducible refine Kd.C_drew ?_)))
    (case side2 => exact HC0_1.out)
    rintro e w30 ⟨v381, rfl, ho0, hb⟩
    refine ⟨_, rfl, ?_⟩
    have n0_ := Aside0.mk (Kd.S_elder' (by (with_reducible repeat (first | apply Kd.S_alloc | apply Kd.S_drewN | apply Kd.S_drew)); exact HO371.out) (Kd.S_base ho0) hb)
    have n1_ := Aside0.mk (Kd.S_elder' (by (with_reducible repeat (first | apply Kd.S_alloc | apply Kd.S_drewN | apply Kd.S_drew)); exact HO376.out) (Kd.S_base ho0) hb)
    have n2_ := Aside0.mk (Kd.S_lower (Kd.S_new' (Kd.S_new' ho0 (Kd.S_lt (by (with_reducible repeat (first | apply Kd.S_alloc | apply Kd.S_drewN | apply Kd.S_drew)); exact HO371.out))) (Kd.S_lt (by (with_reducible repeat (first | apply Kd.S_alloc | apply Kd.S_drewN | apply Kd.S_drew)); exact HO376.out))) (below_size (by repeat (first | (with_reducible first | exact HB.out | apply below_alloc | apply pw_below_drewN | apply below_drew1 | refine below_set ?_ GE366.out | refine below_set ?_ GE377.out) | exact HB.out))))
    have n3_ := sK BK366 hb
    have n4_ := sK BK377 hb
    have n5_ := sB HB hb
    clear HO371
    clear HO376
    clear BK366
    clear BK377
    clear HB
    have HO371 := n0_
    have HO376 := n1_
    have HO382 := n2_
    have BK366 := n3_
    have BK377 := n4_
    have HB := n5_
    clear n0_ n1_ n2_ n3_ n4_ n5_
    (try clear hb)
    (try clear hb2)
    (try clear hk)
    (try clear hi)
    (try clear ho0)
    obtain ⟨Ao31, co31, eo31⟩ := Kd.S_slice HO382.out
    (first | subst eo31 | (injection eo31 with f1_ f2_ f3_; have f4_ := f1_.symm; have f5_ := f3_.symm; clear f1_ f2_ f3_; subst f4_; subst f5_))
    refine hK.out _ _ ⟨(blk_cell BK377.out 0).trans rfl, (blk_cell BK377.out 1).trans rfl, (blk_cell BK366.out 0).trans rfl, (blk_cell BK366.out 1).trans rfl⟩ (fun hHeld => ?_)
    clear hK K
    refine norm_ (a' := ?_) ?_ ?_
    rotate_left
    ·show Act.put _ (some 24) _ = _
     simp only [Act.put, List.setIfInBounds_toArray, List.set_cons_zero, List.set_cons_succ, i64_w, i32_w]
     rfl
    refine one_ (i := 3) (N := some 25) #[true, true, true, true, false] rfl rfl (by kernel_rfl) (by decide) (fun K hK => ?_)
    refine goes_ Try.func18 (by kernel_rfl) rfl #[.agg #[.int .i64 t373, .slice Ao27 t374.length co27], .agg #[.int .i64 t379, .slice Ao31 t380.length co31]] (by rfl) rfl rfl (by (try simp only [List.map_toArray, List.map_cons, List.map_nil]); first | done | rfl | (simp only [List.length_drop, List.length_take]; rfl)) ?_
    with_reducible refine (laws_eqHeap.calls k t373 _ _ t374 t379 _ _ t380 true _ ?side1 ?side2 ?side3 ?side4 A13.out).mono ?_
    (case side1 => repeat (first | exact (Kd.S_reads' HO376.out).2.2 | (with_reducible refine Kd.C_alloc ?_ _) | (with_reducible refine Kd.C_drewN ?_ _) | (with_reducible refine Kd.C_drew ?_)))
    (case side2 => exact (Kd.S_reads' HO376.out).2.1)
    (case side3 => repeat (first | exact (Kd.S_reads' HO382.out).2.2 | (with_reducible refine Kd.C_alloc ?_ _) | (with_reducible refine Kd.C_drewN ?_ _) | (with_reducible refine Kd.C_drew ?_)))
    (case side4 => exact (Kd.S_reads' HO382.out).2.1)
    rintro e w32 ⟨rfl, hb⟩
    refine ⟨_, rfl, ?_⟩
    have n0_ := Aside0.mk (Kd.S_below (by (with_reducible repeat (first | apply Kd.S_alloc | apply Kd.S_drewN | apply Kd.S_drew)); exact HO371.out) hb)
    have n1_ := Aside0.mk (Kd.S_below (by (with_reducible repeat (first | apply Kd.S_alloc | apply Kd.S_drewN | apply Kd.S_drew)); exact HO376.out) hb)
    have n2_ := Aside0.mk (Kd.S_below (by (with_reducible repeat (first | apply Kd.S_alloc | apply Kd.S_drewN | apply Kd.S_drew)); exact HO382.out) hb)
    have n3_ := sK BK366 hb
    have n4_ := sK BK377 hb
    have n5_ := sB HB hb
    clear HO371
    clear HO376
    clear HO382
    clear BK366
    clear BK377
    clear HB
    have HO371 := n0_
    have HO376 := n1_
    have HO382 := n2_
    have BK366 := n3_
    have BK377 := n4_
    have HB := n5_
    clear n0_ n1_ n2_ n3_ n4_ n5_
    (try clear hb)
    (try clear hb2)
    (try clear hk)
    (try clear hi)
    refine hK.out _ _ ⟨(blk_cell BK377.out 0).trans rfl, (blk_cell BK377.out 1).trans rfl, (blk_cell BK366.out 0).trans rfl, (blk_cell BK366.out 1).trans rfl⟩ (fun hHeld => ?_)
    clear hK K
    refine norm_ (a' := ?_) ?_ ?_
    rotate_left
    ·show Act.put _ (some 25) _ = _
     simp only [Act.put, List.setIfInBounds_toArray, List.set_cons_zero, List.set_cons_succ, i64_w, i32_w]
     rfl
    refine pure_ (i := 4) (N := some 26) (v := ?_) (a' := ?_) #[true, true, true, true, true] rfl rfl (by kernel_rfl) (fun _ _ _ h => h) (Or.inl ⟨by rfl, ?_⟩) ?_ ?_
    rotate_left
    ·intro w'
     go_simp
     with_reducible rfl
    rotate_left
    ·simp only [Act.put, List.setIfInBounds_toArray, List.set_cons_zero, List.set_cons_succ, i64_w, i32_w]
     rfl
    refine done_ (by kernel_rfl) ?_
    try go_wp2
    go_ret
    exact ⟨sq, sb⟩
   ·replace c14 := Bool.eq_false_iff.mpr c14
    subst c14
    have H1 : (some false) = some true := by rw [if_neg (show ¬ (false = true) by decide)] at H; exact H
    clear H
    have H := H1
    clear H1
    exact absurd H (by simp)

end Go.Proofs.Ytamegncijkfbhaa.PFnExactValidHeap
