/- Printed functions: laws_eqObjectS, laws_eqHeap. -/
import Derived.Test.YtnjkhdhaiicefaaYGfP0
import Derived.Test.YtnjkhdhaiicefaaYGfP28
namespace Go.Proofs.Ytnjkhdhaiicefaa.PFnExactGetField
open Go.RowKit Go.Proofs.YtnjkhdhaiicefaaG Go.Proofs.YtnjkhdhaiicefaaW.PrintWords Go.Proofs.YtnjkhdhaiicefaaW.PrintLast Go.Proofs.YtnjkhdhaiicefaaW.PrintMore
attribute [local go_sem] max2_int min2_int max_two min_two max_three min_three max_four min_four   -- for this text's walks alone
set_option linter.unusedVariables false
set_option linter.unusedSimpArgs false
/-! ### laws_eqObjectS: function 67 -/
def laws_eqObjectS.l0 : Nat → List (S56) → List (S56) → Int → Option (Bool)
 | 0, _, _, _ => none
 | k + 1, x0, x1, x5 => if x5 < (x0.length : Int) then (if 0 ≤ x5 then (if x5 < (x1.length : Int) then ((laws_eqObject.f k ((rd_T56 x0 x5).f0) ((rd_T56 x0 x5).f1) ((rd_T56 x0 x5).f2) ((rd_T56 x0 x5).f3) ((rd_T56 x0 x5).f4) ((rd_T56 x0 x5).f5) ((rd_T56 x0 x5).f6.f0) ((rd_T56 x0 x5).f6.f1) ((rd_T56 x0 x5).f6.f2) ((rd_T56 x0 x5).f6.f3) ((rd_T56 x1 x5).f0) ((rd_T56 x1 x5).f1) ((rd_T56 x1 x5).f2) ((rd_T56 x1 x5).f3) ((rd_T56 x1 x5).f4) ((rd_T56 x1 x5).f5) ((rd_T56 x1 x5).f6.f0) ((rd_T56 x1 x5).f6.f1) ((rd_T56 x1 x5).f6.f2) ((rd_T56 x1 x5).f6.f3)).bind fun t410 => (if t410 = true then (laws_eqObjectS.l0 k x0 x1 (wrap64 (x5 + 1))) else (some false))) else (none)) else (none)) else (some true)
def laws_eqObjectS.f (k : Nat) (l0 : List (S56)) (l1 : List (S56)) : Option (Bool) := if (l0.length : Int) = (l1.length : Int) then (laws_eqObjectS.l0 k l0 l1 0) else (some false)
def laws_eqObjectS.T6 : Bool × List (List Nat × List Nat) := (true, [([], []), ([], []), ([0, 1], [0, 1]), ([2], [2]), ([], []), ([], []), ([4, 5], [4, 5]), ([6], [6]), ([3, 7], [3, 7]), ([8], [8])])
def laws_eqObjectS.B6 : List Nat := [0, 0, 3, 7, 0, 0, 48, 112, 255, 511]
theorem laws_eqObjectS.tab6 : rtab .any (opsOf Try.f67 6) = laws_eqObjectS.T6 := by kernel_rfl
theorem laws_eqObjectS.bits6 : waitsOk laws_eqObjectS.T6.2 laws_eqObjectS.B6 = true := by kernel_rfl
set_option maxHeartbeats 8000000 in
set_option maxRecDepth 100000 in
theorem laws_eqObjectS.calls (k : Nat) (A0 : Option Addr) (c0 : Nat) (l0 : List (S56)) (A1 : Option Addr) (c1 : Nat) (l1 : List (S56)) (r : Bool) (w : World) (hr0 : Kd.C k56 w A0 l0.length l0) (hc0 : l0.length ≤ c0) (hr1 : Kd.C k56 w A1 l1.length l1) (hc1 : l1.length ≤ c1) (h : laws_eqObjectS.f k l0 l1 = some r) :
  Calls Try.prog 67 #[.slice A0 l0.length c0, .slice A1 l1.length c1] w fun e w' => e = .returned (.bool r) ∧ Below w.heap.size w w' := by
 have hu56 := Try.underlying56
 have HR0 := Aside0.mk hr0
 have HC0 := Aside0.mk hc0
 clear hr0 hc0
 have HR1 := Aside0.mk hr1
 have HC1 := Aside0.mk hc1
 clear hr1 hc1
 have HB := Aside0.mk (Below.refl w.heap.size w)
 have H : (if (l0.length : Int) = (l1.length : Int) then (laws_eqObjectS.l0 k l0 l1 0) else (some false)) = some r := h
 clear h
 by_cases c3 : (l0.length : Int) = (l1.length : Int)
 ·rw [if_pos c3] at H
  have c3b0 : ((l0.length : Int) == (l1.length : Int)) = true := beq_iff_eq.mpr c3
  have c3b1 : ((l0.length : Int) != (l1.length : Int)) = false := bne_eq_false_iff_eq.mpr c3
  have c3b2 : (l0.length == l1.length) = true := by first | simpa using c3 | (simp at c3 ⊢; omega)
  clear c3
  have H' := Aside0.mk H
  clear H
  go_enter Try.func67, Try.ntmps67
  go_wp2
  go_loopg [5] k (fun kq v5 w' => ∃ (x5_1 : Int), v5 = .int .i64 x5_1 ∧ Aside0 (laws_eqObjectS.l0 kq l0 l1 x5_1 = some r) ∧ Aside0 (kq ≤ k) ∧ Aside0 (Below w.heap.size w w'))
  case atStart => exact ⟨(0), sr, H', ⟨Nat.le_refl _⟩, ⟨sb⟩⟩
  case round =>
   clear H'
   try clear c1
   try clear p2
   try clear c3
   try clear c3b0
   try clear c3b1
   try clear c3b2
   obtain ⟨x5_1, rfl, HA, HK1, HB⟩ := hrel
   cases gk with
   | zero => exact absurd HA.out (by simp [laws_eqObjectS.l0])
   | succ k1 =>
    have H := HA.out
    clear HA
    simp only [laws_eqObjectS.l0] at H
    by_cases c4 : x5_1 < (l0.length : Int)
    ·rw [if_pos c4] at H
     have c4b0 := decide_eq_true c4
     clear c4
     by_cases c5 : 0 ≤ x5_1
     ·rw [if_pos c5] at H
      have c5b0 := decide_eq_true c5
      clear c5
      by_cases c6 : x5_1 < (l1.length : Int)
      ·rw [if_pos c6] at H
       have c6b0 := decide_eq_true c6
       clear c6
       obtain ⟨t410, A7, H⟩ := sO H
       by_cases c8 : t410 = true
       ·subst c8
        rewrite [if_pos rfl] at H
        have H' := Aside0.mk H
        clear H
        try go_wp2
        have n0_ := Aside0.mk (below_drew1 HB.out)
        clear HB
        have HB := n0_
        clear n0_
        have p408 : 0 ≤ (x5_1 : Int) := of_decide_eq_true (by first | (with_reducible assumption) | assumption)
        have q408 : x5_1 < (l0.length : Int) := of_decide_eq_true (by first | (with_reducible assumption) | assumption)
        obtain ⟨ad408, A408_4, c408_4, A408_5, c408_5, e408, hx408_0, hx408_1, hx408_2, hx408_3, hx408_4, hx408_5, hx408_6, hx408_7, hx408_8, hx408_9, hl408_4, hi408_4, hl408_5, hi408_5⟩ := at_T56 HR0.out x5_1 p408 q408
        have hw408_9 := hx408_9
        have hw408_8 := hx408_8
        have hw408_7 := hx408_7
        have hw408_6 := hx408_6
        have hw408_5 := hx408_5
        have hw408_4 := hx408_4
        have hw408_3 := hx408_3
        have hw408_2 := hx408_2
        have hw408_1 := hx408_1
        have hw408_0 := hx408_0
        cases e408
        replace hx408_0 := sX HB hx408_0
        replace hx408_1 := sX HB hx408_1
        replace hx408_2 := sX HB hx408_2
        replace hx408_3 := sX HB hx408_3
        replace hx408_4 := sX HB hx408_4
        replace hx408_5 := sX HB hx408_5
        replace hx408_6 := sX HB hx408_6
        replace hx408_7 := sX HB hx408_7
        replace hx408_8 := sX HB hx408_8
        replace hx408_9 := sX HB hx408_9
        have HR408_4 := Aside0.mk hi408_4
        have HC408_4 := Aside0.mk hl408_4
        clear hi408_4 hl408_4
        have HR408_5 := Aside0.mk hi408_5
        have HC408_5 := Aside0.mk hl408_5
        clear hi408_5 hl408_5
        replace p408 := eq_true p408
        replace q408 := eq_true q408
        have p409 : 0 ≤ (x5_1 : Int) := of_decide_eq_true (by first | (with_reducible assumption) | assumption)
        have q409 : x5_1 < (l1.length : Int) := of_decide_eq_true (by first | (with_reducible assumption) | assumption)
        obtain ⟨ad409, A409_4, c409_4, A409_5, c409_5, e409, hx409_0, hx409_1, hx409_2, hx409_3, hx409_4, hx409_5, hx409_6, hx409_7, hx409_8, hx409_9, hl409_4, hi409_4, hl409_5, hi409_5⟩ := at_T56 HR1.out x5_1 p409 q409
        have hw409_9 := hx409_9
        have hw409_8 := hx409_8
        have hw409_7 := hx409_7
        have hw409_6 := hx409_6
        have hw409_5 := hx409_5
        have hw409_4 := hx409_4
        have hw409_3 := hx409_3
        have hw409_2 := hx409_2
        have hw409_1 := hx409_1
        have hw409_0 := hx409_0
        cases e409
        replace hx409_0 := sX HB hx409_0
        replace hx409_1 := sX HB hx409_1
        replace hx409_2 := sX HB hx409_2
        replace hx409_3 := sX HB hx409_3
        replace hx409_4 := sX HB hx409_4
        replace hx409_5 := sX HB hx409_5
        replace hx409_6 := sX HB hx409_6
        replace hx409_7 := sX HB hx409_7
        replace hx409_8 := sX HB hx409_8
        replace hx409_9 := sX HB hx409_9
        have HR409_4 := Aside0.mk hi409_4
        have HC409_4 := Aside0.mk hl409_4
        clear hi409_4 hl409_4
        have HR409_5 := Aside0.mk hi409_5
        have HC409_5 := Aside0.mk hl409_5
        clear hi409_5 hl409_5
        replace p409 := eq_true p409
        replace q409 := eq_true q409
        refine start_ (n := 10) (S := fun w' => w'.cell? (ad408.add ((x5_1).toNat * 10)) = some (.int .i64 ((rd_T56 l0 x5_1).f0)) ∧ w'.cell? ⟨(ad408.add ((x5_1).toNat * 10)).block, (ad408.add ((x5_1).toNat * 10)).off + 1, none⟩ = some (.int .i64 ((rd_T56 l0 x5_1).f1)) ∧ w'.cell? ⟨(ad408.add ((x5_1).toNat * 10)).block, (ad408.add ((x5_1).toNat * 10)).off + 2, none⟩ = some (.string ((rd_T56 l0 x5_1).f2)) ∧ w'.cell? ⟨(ad408.add ((x5_1).toNat * 10)).block, (ad408.add ((x5_1).toNat * 10)).off + 3, none⟩ = some (.int .i64 ((rd_T56 l0 x5_1).f3)) ∧ w'.cell? ⟨(ad408.add ((x5_1).toNat * 10)).block, (ad408.add ((x5_1).toNat * 10)).off + 4, none⟩ = some (.slice A408_4 ((rd_T56 l0 x5_1).f4).length c408_4) ∧ w'.cell? ⟨(ad408.add ((x5_1).toNat * 10)).block, (ad408.add ((x5_1).toNat * 10)).off + 5, none⟩ = some (.slice A408_5 ((rd_T56 l0 x5_1).f5).length c408_5) ∧ w'.cell? ⟨(ad408.add ((x5_1).toNat * 10)).block, (ad408.add ((x5_1).toNat * 10)).off + 6, none⟩ = some (.int .i64 ((rd_T56 l0 x5_1).f6.f0)) ∧ w'.cell? ⟨(ad408.add ((x5_1).toNat * 10)).block, (ad408.add ((x5_1).toNat * 10)).off + 7, none⟩ = some (.int .i64 ((rd_T56 l0 x5_1).f6.f1)) ∧ w'.cell? ⟨(ad408.add ((x5_1).toNat * 10)).block, (ad408.add ((x5_1).toNat * 10)).off + 8, none⟩ = some (.string ((rd_T56 l0 x5_1).f6.f2)) ∧ w'.cell? ⟨(ad408.add ((x5_1).toNat * 10)).block, (ad408.add ((x5_1).toNat * 10)).off + 9, none⟩ = some (.int .i64 ((rd_T56 l0 x5_1).f6.f3)) ∧ w'.cell? (ad409.add ((x5_1).toNat * 10)) = some (.int .i64 ((rd_T56 l1 x5_1).f0)) ∧ w'.cell? ⟨(ad409.add ((x5_1).toNat * 10)).block, (ad409.add ((x5_1).toNat * 10)).off + 1, none⟩ = some (.int .i64 ((rd_T56 l1 x5_1).f1)) ∧ w'.cell? ⟨(ad409.add ((x5_1).toNat * 10)).block, (ad409.add ((x5_1).toNat * 10)).off + 2, none⟩ = some (.string ((rd_T56 l1 x5_1).f2)) ∧ w'.cell? ⟨(ad409.add ((x5_1).toNat * 10)).block, (ad409.add ((x5_1).toNat * 10)).off + 3, none⟩ = some (.int .i64 ((rd_T56 l1 x5_1).f3)) ∧ w'.cell? ⟨(ad409.add ((x5_1).toNat * 10)).block, (ad409.add ((x5_1).toNat * 10)).off + 4, none⟩ = some (.slice A409_4 ((rd_T56 l1 x5_1).f4).length c409_4) ∧ w'.cell? ⟨(ad409.add ((x5_1).toNat * 10)).block, (ad409.add ((x5_1).toNat * 10)).off + 5, none⟩ = some (.slice A409_5 ((rd_T56 l1 x5_1).f5).length c409_5) ∧ w'.cell? ⟨(ad409.add ((x5_1).toNat * 10)).block, (ad409.add ((x5_1).toNat * 10)).off + 6, none⟩ = some (.int .i64 ((rd_T56 l1 x5_1).f6.f0)) ∧ w'.cell? ⟨(ad409.add ((x5_1).toNat * 10)).block, (ad409.add ((x5_1).toNat * 10)).off + 7, none⟩ = some (.int .i64 ((rd_T56 l1 x5_1).f6.f1)) ∧ w'.cell? ⟨(ad409.add ((x5_1).toNat * 10)).block, (ad409.add ((x5_1).toNat * 10)).off + 8, none⟩ = some (.string ((rd_T56 l1 x5_1).f6.f2)) ∧ w'.cell? ⟨(ad409.add ((x5_1).toNat * 10)).block, (ad409.add ((x5_1).toNat * 10)).off + 9, none⟩ = some (.int .i64 ((rd_T56 l1 x5_1).f6.f3))) (ds := []) #[false, false, false, false, false, false, false, false, false, false] (by kernel_rfl) rfl rfl ⟨((HB.out.cell (World.block_lt_of_cell? w _ hw408_0)).trans hw408_0), ((HB.out.cell (World.block_lt_of_cell? w _ hw408_1)).trans hw408_1), ((HB.out.cell (World.block_lt_of_cell? w _ hw408_2)).trans hw408_2), ((HB.out.cell (World.block_lt_of_cell? w _ hw408_3)).trans hw408_3), ((HB.out.cell (World.block_lt_of_cell? w _ hw408_4)).trans hw408_4), ((HB.out.cell (World.block_lt_of_cell? w _ hw408_5)).trans hw408_5), ((HB.out.cell (World.block_lt_of_cell? w _ hw408_6)).trans hw408_6), ((HB.out.cell (World.block_lt_of_cell? w _ hw408_7)).trans hw408_7), ((HB.out.cell (World.block_lt_of_cell? w _ hw408_8)).trans hw408_8), ((HB.out.cell (World.block_lt_of_cell? w _ hw408_9)).trans hw408_9), ((HB.out.cell (World.block_lt_of_cell? w _ hw409_0)).trans hw409_0), ((HB.out.cell (World.block_lt_of_cell? w _ hw409_1)).trans hw409_1), ((HB.out.cell (World.block_lt_of_cell? w _ hw409_2)).trans hw409_2), ((HB.out.cell (World.block_lt_of_cell? w _ hw409_3)).trans hw409_3), ((HB.out.cell (World.block_lt_of_cell? w _ hw409_4)).trans hw409_4), ((HB.out.cell (World.block_lt_of_cell? w _ hw409_5)).trans hw409_5), ((HB.out.cell (World.block_lt_of_cell? w _ hw409_6)).trans hw409_6), ((HB.out.cell (World.block_lt_of_cell? w _ hw409_7)).trans hw409_7), ((HB.out.cell (World.block_lt_of_cell? w _ hw409_8)).trans hw409_8), ((HB.out.cell (World.block_lt_of_cell? w _ hw409_9)).trans hw409_9)⟩ (fun hHeld => ?_); refine with_tabW laws_eqObjectS.tab6 laws_eqObjectS.bits6 (fun HT_ HW_ => ?_)
        generalize wr.drew = w9 at HB HR408_4 HR408_5 HR409_4 HR409_5 hx408_0 hx408_1 hx408_2 hx408_3 hx408_4 hx408_5 hx408_6 hx408_7 hx408_8 hx408_9 hx409_0 hx409_1 hx409_2 hx409_3 hx409_4 hx409_5 hx409_6 hx409_7 hx409_8 hx409_9 hHeld ⊢
        refine pure_ (i := 0) (N := some 17) (v := ?_) (a' := ?_) (bN 10 1) rfl rfl (any_of HT_.out (by kernel_rfl)) (fun _ _ _ h => h) (Or.inl ⟨by rfl, ?_⟩) ?_ ?_
        rotate_left
        ·intro w'
         go_simp
         with_reducible rfl
        rotate_left
        ·simp only [Act.put, List.setIfInBounds_toArray, List.set_cons_zero, List.set_cons_succ, i64_w, i32_w]
         rfl
        refine pure_ (i := 1) (N := some 18) (v := ?_) (a' := ?_) (bN 10 3) rfl rfl (any_of HT_.out (by kernel_rfl)) (fun _ _ _ h => h) (Or.inl ⟨by rfl, ?_⟩) ?_ ?_
        rotate_left
        ·intro w'
         go_simp
         with_reducible rfl
        rotate_left
        ·simp only [Act.put, List.setIfInBounds_toArray, List.set_cons_zero, List.set_cons_succ, i64_w, i32_w]
         rfl
        refine pure_ (i := 2) (N := some 19) (v := ?_) (a' := ?_) (bN 10 7) rfl rfl (any_of HT_.out (by kernel_rfl)) (fun _ _ _ h => h) (Or.inl ⟨by rfl, ?_⟩) ?_ ?_
        rotate_left
        ·intro w'
         go_simp
         with_reducible rfl
        rotate_left
        ·simp only [Act.put, List.setIfInBounds_toArray, List.set_cons_zero, List.set_cons_succ, i64_w, i32_w]
         rfl
        refine pure_ (i := 4) (N := some 21) (v := ?_) (a' := ?_) (bN 10 23) rfl rfl (any_of HT_.out (by kernel_rfl)) (fun _ _ _ h => h) (Or.inl ⟨by rfl, ?_⟩) ?_ ?_
        rotate_left
        ·intro w'
         go_simp
         with_reducible rfl
        rotate_left
        ·simp only [Act.put, List.setIfInBounds_toArray, List.set_cons_zero, List.set_cons_succ, i64_w, i32_w]
         rfl
        refine pure_ (i := 5) (N := some 22) (v := ?_) (a' := ?_) (bN 10 55) rfl rfl (any_of HT_.out (by kernel_rfl)) (fun _ _ _ h => h) (Or.inl ⟨by rfl, ?_⟩) ?_ ?_
        rotate_left
        ·intro w'
         go_simp
         with_reducible rfl
        rotate_left
        ·simp only [Act.put, List.setIfInBounds_toArray, List.set_cons_zero, List.set_cons_succ, i64_w, i32_w]
         rfl
        refine pure_ (i := 6) (N := some 23) (v := ?_) (a' := ?_) (bN 10 119) rfl rfl (any_of HT_.out (by kernel_rfl)) (fun _ _ _ h => h) (Or.inl ⟨by rfl, ?_⟩) ?_ ?_
        rotate_left
        ·intro w'
         go_simp
         with_reducible rfl
        rotate_left
        ·simp only [Act.put, List.setIfInBounds_toArray, List.set_cons_zero, List.set_cons_succ, i64_w, i32_w]
         rfl
        refine take_ (i := 3) (N := some 20) (v := ?_) (a' := ?_) (bN 10 127) rfl rfl (take_ofW HT_.out HW_.out (by kernel_rfl)) (fun _ _ _ h => h) (Or.inl ⟨by rfl, ?_⟩) hHeld ?_ ?_
        rotate_left
        ·rintro w' ⟨s0, s1, s2, s3, s4, s5, s6, s7, s8, s9, s10, s11, s12, s13, s14, s15, s16, s17, s18, s19⟩
         go_simp
         with_reducible rfl
        rotate_left
        ·simp only [Act.put, List.setIfInBounds_toArray, List.set_cons_zero, List.set_cons_succ, i64_w, i32_w]
         rfl
        refine take_ (i := 7) (N := some 24) (v := ?_) (a' := ?_) (bN 10 255) rfl rfl (take_ofW HT_.out HW_.out (by kernel_rfl)) (fun _ _ _ h => h) (Or.inl ⟨by rfl, ?_⟩) hHeld ?_ ?_
        rotate_left
        ·rintro w' ⟨s0, s1, s2, s3, s4, s5, s6, s7, s8, s9, s10, s11, s12, s13, s14, s15, s16, s17, s18, s19⟩
         go_simp
         with_reducible rfl
        rotate_left
        ·simp only [Act.put, List.setIfInBounds_toArray, List.set_cons_zero, List.set_cons_succ, i64_w, i32_w]
         rfl
        refine one_ (i := 8) (N := some 25) (bN 10 511) rfl rfl (one_of HT_.out (by kernel_rfl)) (by decide) (fun K hK => ?_)
        refine goes_ Try.func35 (by kernel_rfl) rfl #[.agg #[.int .i64 ((rd_T56 l0 x5_1).f0), .int .i64 ((rd_T56 l0 x5_1).f1), .string ((rd_T56 l0 x5_1).f2), .int .i64 ((rd_T56 l0 x5_1).f3), .slice A408_4 ((rd_T56 l0 x5_1).f4).length c408_4, .slice A408_5 ((rd_T56 l0 x5_1).f5).length c408_5, .int .i64 ((rd_T56 l0 x5_1).f6.f0), .int .i64 ((rd_T56 l0 x5_1).f6.f1), .string ((rd_T56 l0 x5_1).f6.f2), .int .i64 ((rd_T56 l0 x5_1).f6.f3)], .agg #[.int .i64 ((rd_T56 l1 x5_1).f0), .int .i64 ((rd_T56 l1 x5_1).f1), .string ((rd_T56 l1 x5_1).f2), .int .i64 ((rd_T56 l1 x5_1).f3), .slice A409_4 ((rd_T56 l1 x5_1).f4).length c409_4, .slice A409_5 ((rd_T56 l1 x5_1).f5).length c409_5, .int .i64 ((rd_T56 l1 x5_1).f6.f0), .int .i64 ((rd_T56 l1 x5_1).f6.f1), .string ((rd_T56 l1 x5_1).f6.f2), .int .i64 ((rd_T56 l1 x5_1).f6.f3)]] (by rfl) rfl rfl (by (try simp only [List.map_toArray, List.map_cons, List.map_nil]); first | done | rfl | (simp only [List.length_drop, List.length_take]; rfl)) ?_
        with_reducible refine (laws_eqObject.calls k1 ((rd_T56 l0 x5_1).f0) ((rd_T56 l0 x5_1).f1) ((rd_T56 l0 x5_1).f2) ((rd_T56 l0 x5_1).f3) _ _ ((rd_T56 l0 x5_1).f4) _ _ ((rd_T56 l0 x5_1).f5) ((rd_T56 l0 x5_1).f6.f0) ((rd_T56 l0 x5_1).f6.f1) ((rd_T56 l0 x5_1).f6.f2) ((rd_T56 l0 x5_1).f6.f3) ((rd_T56 l1 x5_1).f0) ((rd_T56 l1 x5_1).f1) ((rd_T56 l1 x5_1).f2) ((rd_T56 l1 x5_1).f3) _ _ ((rd_T56 l1 x5_1).f4) _ _ ((rd_T56 l1 x5_1).f5) ((rd_T56 l1 x5_1).f6.f0) ((rd_T56 l1 x5_1).f6.f1) ((rd_T56 l1 x5_1).f6.f2) ((rd_T56 l1 x5_1).f6.f3) true _ ?side1 ?side2 ?side3 ?side4 ?side5 ?side6 ?side7 ?side8 A7.out).mono ?_
        (case side1 => exact sD (Kd.C_below HR408_4.out HB.out))
        (case side2 => exact HC408_4.out)
        (case side3 => exact sD (Kd.C_below HR408_5.out HB.out))
        (case side4 => exact HC408_5.out)
        (case side5 => exact sD (Kd.C_below HR409_4.out HB.out))
        (case side6 => exact HC409_4.out)
        (case side7 => exact sD (Kd.C_below HR409_5.out HB.out))
        (case side8 => exact HC409_5.out)
        rintro e w10 ⟨rfl, hb⟩
        refine ⟨_, rfl, ?_⟩
        have n0_ := sB HB hb
        clear HB
        have HB := n0_
        clear n0_
        (try clear hb)
        (try clear hb2)
        (try clear hk)
        (try clear hi)
        refine hK.out _ _ ⟨((HB.out.cell (World.block_lt_of_cell? w _ hw408_0)).trans hw408_0), ((HB.out.cell (World.block_lt_of_cell? w _ hw408_1)).trans hw408_1), ((HB.out.cell (World.block_lt_of_cell? w _ hw408_2)).trans hw408_2), ((HB.out.cell (World.block_lt_of_cell? w _ hw408_3)).trans hw408_3), ((HB.out.cell (World.block_lt_of_cell? w _ hw408_4)).trans hw408_4), ((HB.out.cell (World.block_lt_of_cell? w _ hw408_5)).trans hw408_5), ((HB.out.cell (World.block_lt_of_cell? w _ hw408_6)).trans hw408_6), ((HB.out.cell (World.block_lt_of_cell? w _ hw408_7)).trans hw408_7), ((HB.out.cell (World.block_lt_of_cell? w _ hw408_8)).trans hw408_8), ((HB.out.cell (World.block_lt_of_cell? w _ hw408_9)).trans hw408_9), ((HB.out.cell (World.block_lt_of_cell? w _ hw409_0)).trans hw409_0), ((HB.out.cell (World.block_lt_of_cell? w _ hw409_1)).trans hw409_1), ((HB.out.cell (World.block_lt_of_cell? w _ hw409_2)).trans hw409_2), ((HB.out.cell (World.block_lt_of_cell? w _ hw409_3)).trans hw409_3), ((HB.out.cell (World.block_lt_of_cell? w _ hw409_4)).trans hw409_4), ((HB.out.cell (World.block_lt_of_cell? w _ hw409_5)).trans hw409_5), ((HB.out.cell (World.block_lt_of_cell? w _ hw409_6)).trans hw409_6), ((HB.out.cell (World.block_lt_of_cell? w _ hw409_7)).trans hw409_7), ((HB.out.cell (World.block_lt_of_cell? w _ hw409_8)).trans hw409_8), ((HB.out.cell (World.block_lt_of_cell? w _ hw409_9)).trans hw409_9)⟩ (fun hHeld => ?_)
        clear hK K
        refine norm_ (a' := ?_) ?_ ?_
        rotate_left
        ·show Act.put _ (some 25) _ = _
         simp only [Act.put, List.setIfInBounds_toArray, List.set_cons_zero, List.set_cons_succ, i64_w, i32_w]
         rfl
        refine pure_ (i := 9) (N := some 26) (v := ?_) (a' := ?_) (bN 10 1023) rfl rfl (any_of HT_.out (by kernel_rfl)) (fun _ _ _ h => h) (Or.inl ⟨by rfl, ?_⟩) ?_ ?_
        rotate_left
        ·intro w'
         go_simp
         with_reducible rfl
        rotate_left
        ·simp only [Act.put, List.setIfInBounds_toArray, List.set_cons_zero, List.set_cons_succ, i64_w, i32_w]
         rfl
        refine done_ (done_of HT_.out (by kernel_rfl)) ?_
        try go_wp2
        go_roundg k1
        case measure => have := HK1.out; omega
        case rel => exact ⟨(wrap64 (x5_1 + 1)), sr, H', ⟨by have := HK1.out; omega⟩, ⟨sb⟩⟩
       replace c8 := Bool.eq_false_iff.mpr c8
       subst c8
       rewrite [if_neg (show ¬ (false = true) by decide)] at H
       obtain rfl := Option.some.inj H
       try go_wp2
       have n0_ := Aside0.mk (below_drew1 HB.out)
       clear HB
       have HB := n0_
       clear n0_
       have p408 : 0 ≤ (x5_1 : Int) := of_decide_eq_true (by first | (with_reducible assumption) | assumption)
       have q408 : x5_1 < (l0.length : Int) := of_decide_eq_true (by first | (with_reducible assumption) | assumption)
       obtain ⟨ad408, A408_4, c408_4, A408_5, c408_5, e408, hx408_0, hx408_1, hx408_2, hx408_3, hx408_4, hx408_5, hx408_6, hx408_7, hx408_8, hx408_9, hl408_4, hi408_4, hl408_5, hi408_5⟩ := at_T56 HR0.out x5_1 p408 q408
       have hw408_9 := hx408_9
       have hw408_8 := hx408_8
       have hw408_7 := hx408_7
       have hw408_6 := hx408_6
       have hw408_5 := hx408_5
       have hw408_4 := hx408_4
       have hw408_3 := hx408_3
       have hw408_2 := hx408_2
       have hw408_1 := hx408_1
       have hw408_0 := hx408_0
       cases e408
       replace hx408_0 := sX HB hx408_0
       replace hx408_1 := sX HB hx408_1
       replace hx408_2 := sX HB hx408_2
       replace hx408_3 := sX HB hx408_3
       replace hx408_4 := sX HB hx408_4
       replace hx408_5 := sX HB hx408_5
       replace hx408_6 := sX HB hx408_6
       replace hx408_7 := sX HB hx408_7
       replace hx408_8 := sX HB hx408_8
       replace hx408_9 := sX HB hx408_9
       have HR408_4 := Aside0.mk hi408_4
       have HC408_4 := Aside0.mk hl408_4
       clear hi408_4 hl408_4
       have HR408_5 := Aside0.mk hi408_5
       have HC408_5 := Aside0.mk hl408_5
       clear hi408_5 hl408_5
       replace p408 := eq_true p408
       replace q408 := eq_true q408
       have p409 : 0 ≤ (x5_1 : Int) := of_decide_eq_true (by first | (with_reducible assumption) | assumption)
       have q409 : x5_1 < (l1.length : Int) := of_decide_eq_true (by first | (with_reducible assumption) | assumption)
       obtain ⟨ad409, A409_4, c409_4, A409_5, c409_5, e409, hx409_0, hx409_1, hx409_2, hx409_3, hx409_4, hx409_5, hx409_6, hx409_7, hx409_8, hx409_9, hl409_4, hi409_4, hl409_5, hi409_5⟩ := at_T56 HR1.out x5_1 p409 q409
       have hw409_9 := hx409_9
       have hw409_8 := hx409_8
       have hw409_7 := hx409_7
       have hw409_6 := hx409_6
       have hw409_5 := hx409_5
       have hw409_4 := hx409_4
       have hw409_3 := hx409_3
       have hw409_2 := hx409_2
       have hw409_1 := hx409_1
       have hw409_0 := hx409_0
       cases e409
       replace hx409_0 := sX HB hx409_0
       replace hx409_1 := sX HB hx409_1
       replace hx409_2 := sX HB hx409_2
       replace hx409_3 := sX HB hx409_3
       replace hx409_4 := sX HB hx409_4
       replace hx409_5 := sX HB hx409_5
       replace hx409_6 := sX HB hx409_6
       replace hx409_7 := sX HB hx409_7
       replace hx409_8 := sX HB hx409_8
       replace hx409_9 := sX HB hx409_9
       have HR409_4 := Aside0.mk hi409_4
       have HC409_4 := Aside0.mk hl409_4
       clear hi409_4 hl409_4
       have HR409_5 := Aside0.mk hi409_5
       have HC409_5 := Aside0.mk hl409_5
       clear hi409_5 hl409_5
       replace p409 := eq_true p409
       replace q409 := eq_true q409
       refine start_ (n := 10) (S := fun w' => w'.cell? (ad408.add ((x5_1).toNat * 10)) = some (.int .i64 ((rd_T56 l0 x5_1).f0)) ∧ w'.cell? ⟨(ad408.add ((x5_1).toNat * 10)).block, (ad408.add ((x5_1).toNat * 10)).off + 1, none⟩ = some (.int .i64 ((rd_T56 l0 x5_1).f1)) ∧ w'.cell? ⟨(ad408.add ((x5_1).toNat * 10)).block, (ad408.add ((x5_1).toNat * 10)).off + 2, none⟩ = some (.string ((rd_T56 l0 x5_1).f2)) ∧ w'.cell? ⟨(ad408.add ((x5_1).toNat * 10)).block, (ad408.add ((x5_1).toNat * 10)).off + 3, none⟩ = some (.int .i64 ((rd_T56 l0 x5_1).f3)) ∧ w'.cell? ⟨(ad408.add ((x5_1).toNat * 10)).block, (ad408.add ((x5_1).toNat * 10)).off + 4, none⟩ = some (.slice A408_4 ((rd_T56 l0 x5_1).f4).length c408_4) ∧ w'.cell? ⟨(ad408.add ((x5_1).toNat * 10)).block, (ad408.add ((x5_1).toNat * 10)).off + 5, none⟩ = some (.slice A408_5 ((rd_T56 l0 x5_1).f5).length c408_5) ∧ w'.cell? ⟨(ad408.add ((x5_1).toNat * 10)).block, (ad408.add ((x5_1).toNat * 10)).off + 6, none⟩ = some (.int .i64 ((rd_T56 l0 x5_1).f6.f0)) ∧ w'.cell? ⟨(ad408.add ((x5_1).toNat * 10)).block, (ad408.add ((x5_1).toNat * 10)).off + 7, none⟩ = some (.int .i64 ((rd_T56 l0 x5_1).f6.f1)) ∧ w'.cell? ⟨(ad408.add ((x5_1).toNat * 10)).block, (ad408.add ((x5_1).toNat * 10)).off + 8, none⟩ = some (.string ((rd_T56 l0 x5_1).f6.f2)) ∧ w'.cell? ⟨(ad408.add ((x5_1).toNat * 10)).block, (ad408.add ((x5_1).toNat * 10)).off + 9, none⟩ = some (.int .i64 ((rd_T56 l0 x5_1).f6.f3)) ∧ w'.cell? (ad409.add ((x5_1).toNat * 10)) = some (.int .i64 ((rd_T56 l1 x5_1).f0)) ∧ w'.cell? ⟨(ad409.add ((x5_1).toNat * 10)).block, (ad409.add ((x5_1).toNat * 10)).off + 1, none⟩ = some (.int .i64 ((rd_T56 l1 x5_1).f1)) ∧ w'.cell? ⟨(ad409.add ((x5_1).toNat * 10)).block, (ad409.add ((x5_1).toNat * 10)).off + 2, none⟩ = some (.string ((rd_T56 l1 x5_1).f2)) ∧ w'.cell? ⟨(ad409.add ((x5_1).toNat * 10)).block, (ad409.add ((x5_1).toNat * 10)).off + 3, none⟩ = some (.int .i64 ((rd_T56 l1 x5_1).f3)) ∧ w'.cell? ⟨(ad409.add ((x5_1).toNat * 10)).block, (ad409.add ((x5_1).toNat * 10)).off + 4, none⟩ = some (.slice A409_4 ((rd_T56 l1 x5_1).f4).length c409_4) ∧ w'.cell? ⟨(ad409.add ((x5_1).toNat * 10)).block, (ad409.add ((x5_1).toNat * 10)).off + 5, none⟩ = some (.slice A409_5 ((rd_T56 l1 x5_1).f5).length c409_5) ∧ w'.cell? ⟨(ad409.add ((x5_1).toNat * 10)).block, (ad409.add ((x5_1).toNat * 10)).off + 6, none⟩ = some (.int .i64 ((rd_T56 l1 x5_1).f6.f0)) ∧ w'.cell? ⟨(ad409.add ((x5_1).toNat * 10)).block, (ad409.add ((x5_1).toNat * 10)).off + 7, none⟩ = some (.int .i64 ((rd_T56 l1 x5_1).f6.f1)) ∧ w'.cell? ⟨(ad409.add ((x5_1).toNat * 10)).block, (ad409.add ((x5_1).toNat * 10)).off + 8, none⟩ = some (.string ((rd_T56 l1 x5_1).f6.f2)) ∧ w'.cell? ⟨(ad409.add ((x5_1).toNat * 10)).block, (ad409.add ((x5_1).toNat * 10)).off + 9, none⟩ = some (.int .i64 ((rd_T56 l1 x5_1).f6.f3))) (ds := []) #[false, false, false, false, false, false, false, false, false, false] (by kernel_rfl) rfl rfl ⟨((HB.out.cell (World.block_lt_of_cell? w _ hw408_0)).trans hw408_0), ((HB.out.cell (World.block_lt_of_cell? w _ hw408_1)).trans hw408_1), ((HB.out.cell (World.block_lt_of_cell? w _ hw408_2)).trans hw408_2), ((HB.out.cell (World.block_lt_of_cell? w _ hw408_3)).trans hw408_3), ((HB.out.cell (World.block_lt_of_cell? w _ hw408_4)).trans hw408_4), ((HB.out.cell (World.block_lt_of_cell? w _ hw408_5)).trans hw408_5), ((HB.out.cell (World.block_lt_of_cell? w _ hw408_6)).trans hw408_6), ((HB.out.cell (World.block_lt_of_cell? w _ hw408_7)).trans hw408_7), ((HB.out.cell (World.block_lt_of_cell? w _ hw408_8)).trans hw408_8), ((HB.out.cell (World.block_lt_of_cell? w _ hw408_9)).trans hw408_9), ((HB.out.cell (World.block_lt_of_cell? w _ hw409_0)).trans hw409_0), ((HB.out.cell (World.block_lt_of_cell? w _ hw409_1)).trans hw409_1), ((HB.out.cell (World.block_lt_of_cell? w _ hw409_2)).trans hw409_2), ((HB.out.cell (World.block_lt_of_cell? w _ hw409_3)).trans hw409_3), ((HB.out.cell (World.block_lt_of_cell? w _ hw409_4)).trans hw409_4), ((HB.out.cell (World.block_lt_of_cell? w _ hw409_5)).trans hw409_5), ((HB.out.cell (World.block_lt_of_cell? w _ hw409_6)).trans hw409_6), ((HB.out.cell (World.block_lt_of_cell? w _ hw409_7)).trans hw409_7), ((HB.out.cell (World.block_lt_of_cell? w _ hw409_8)).trans hw409_8), ((HB.out.cell (World.block_lt_of_cell? w _ hw409_9)).trans hw409_9)⟩ (fun hHeld => ?_); refine with_tabW laws_eqObjectS.tab6 laws_eqObjectS.bits6 (fun HT_ HW_ => ?_)
       generalize wr.drew = w11 at HB HR408_4 HR408_5 HR409_4 HR409_5 hx408_0 hx408_1 hx408_2 hx408_3 hx408_4 hx408_5 hx408_6 hx408_7 hx408_8 hx408_9 hx409_0 hx409_1 hx409_2 hx409_3 hx409_4 hx409_5 hx409_6 hx409_7 hx409_8 hx409_9 hHeld ⊢
       refine pure_ (i := 0) (N := some 17) (v := ?_) (a' := ?_) (bN 10 1) rfl rfl (any_of HT_.out (by kernel_rfl)) (fun _ _ _ h => h) (Or.inl ⟨by rfl, ?_⟩) ?_ ?_
       rotate_left
       ·intro w'
        go_simp
        with_reducible rfl
       rotate_left
       ·simp only [Act.put, List.setIfInBounds_toArray, List.set_cons_zero, List.set_cons_succ, i64_w, i32_w]
        rfl
       refine pure_ (i := 1) (N := some 18) (v := ?_) (a' := ?_) (bN 10 3) rfl rfl (any_of HT_.out (by kernel_rfl)) (fun _ _ _ h => h) (Or.inl ⟨by rfl, ?_⟩) ?_ ?_
       rotate_left
       ·intro w'
        go_simp
        with_reducible rfl
       rotate_left
       ·simp only [Act.put, List.setIfInBounds_toArray, List.set_cons_zero, List.set_cons_succ, i64_w, i32_w]
        rfl
       refine pure_ (i := 2) (N := some 19) (v := ?_) (a' := ?_) (bN 10 7) rfl rfl (any_of HT_.out (by kernel_rfl)) (fun _ _ _ h => h) (Or.inl ⟨by rfl, ?_⟩) ?_ ?_
       rotate_left
       ·intro w'
        go_simp
        with_reducible rfl
       rotate_left
       ·simp only [Act.put, List.setIfInBounds_toArray, List.set_cons_zero, List.set_cons_succ, i64_w, i32_w]
        rfl
       refine pure_ (i := 4) (N := some 21) (v := ?_) (a' := ?_) (bN 10 23) rfl rfl (any_of HT_.out (by kernel_rfl)) (fun _ _ _ h => h) (Or.inl ⟨by rfl, ?_⟩) ?_ ?_
       rotate_left
       ·intro w'
        go_simp
        with_reducible rfl
       rotate_left
       ·simp only [Act.put, List.setIfInBounds_toArray, List.set_cons_zero, List.set_cons_succ, i64_w, i32_w]
        rfl
       refine pure_ (i := 5) (N := some 22) (v := ?_) (a' := ?_) (bN 10 55) rfl rfl (any_of HT_.out (by kernel_rfl)) (fun _ _ _ h => h) (Or.inl ⟨by rfl, ?_⟩) ?_ ?_
       rotate_left
       ·intro w'
        go_simp
        with_reducible rfl
       rotate_left
       ·simp only [Act.put, List.setIfInBounds_toArray, List.set_cons_zero, List.set_cons_succ, i64_w, i32_w]
        rfl
       refine pure_ (i := 6) (N := some 23) (v := ?_) (a' := ?_) (bN 10 119) rfl rfl (any_of HT_.out (by kernel_rfl)) (fun _ _ _ h => h) (Or.inl ⟨by rfl, ?_⟩) ?_ ?_
       rotate_left
       ·intro w'
        go_simp
        with_reducible rfl
       rotate_left
       ·simp only [Act.put, List.setIfInBounds_toArray, List.set_cons_zero, List.set_cons_succ, i64_w, i32_w]
        rfl
       refine take_ (i := 3) (N := some 20) (v := ?_) (a' := ?_) (bN 10 127) rfl rfl (take_ofW HT_.out HW_.out (by kernel_rfl)) (fun _ _ _ h => h) (Or.inl ⟨by rfl, ?_⟩) hHeld ?_ ?_
       rotate_left
       ·rintro w' ⟨s0, s1, s2, s3, s4, s5, s6, s7, s8, s9, s10, s11, s12, s13, s14, s15, s16, s17, s18, s19⟩
        go_simp
        with_reducible rfl
       rotate_left
       ·simp only [Act.put, List.setIfInBounds_toArray, List.set_cons_zero, List.set_cons_succ, i64_w, i32_w]
        rfl
       refine take_ (i := 7) (N := some 24) (v := ?_) (a' := ?_) (bN 10 255) rfl rfl (take_ofW HT_.out HW_.out (by kernel_rfl)) (fun _ _ _ h => h) (Or.inl ⟨by rfl, ?_⟩) hHeld ?_ ?_
       rotate_left
       ·rintro w' ⟨s0, s1, s2, s3, s4, s5, s6, s7, s8, s9, s10, s11, s12, s13, s14, s15, s16, s17, s18, s19⟩
        go_simp
        with_reducible rfl
       rotate_left
       ·simp only [Act.put, List.setIfInBounds_toArray, List.set_cons_zero, List.set_cons_succ, i64_w, i32_w]
        rfl
       refine one_ (i := 8) (N := some 25) (bN 10 511) rfl rfl (one_of HT_.out (by kernel_rfl)) (by decide) (fun K hK => ?_)
       refine goes_ Try.func35 (by kernel_rfl) rfl #[.agg #[.int .i64 ((rd_T56 l0 x5_1).f0), .int .i64 ((rd_T56 l0 x5_1).f1), .string ((rd_T56 l0 x5_1).f2), .int .i64 ((rd_T56 l0 x5_1).f3), .slice A408_4 ((rd_T56 l0 x5_1).f4).length c408_4, .slice A408_5 ((rd_T56 l0 x5_1).f5).length c408_5, .int .i64 ((rd_T56 l0 x5_1).f6.f0), .int .i64 ((rd_T56 l0 x5_1).f6.f1), .string ((rd_T56 l0 x5_1).f6.f2), .int .i64 ((rd_T56 l0 x5_1).f6.f3)], .agg #[.int .i64 ((rd_T56 l1 x5_1).f0), .int .i64 ((rd_T56 l1 x5_1).f1), .string ((rd_T56 l1 x5_1).f2), .int .i64 ((rd_T56 l1 x5_1).f3), .slice A409_4 ((rd_T56 l1 x5_1).f4).length c409_4, .slice A409_5 ((rd_T56 l1 x5_1).f5).length c409_5, .int .i64 ((rd_T56 l1 x5_1).f6.f0), .int .i64 ((rd_T56 l1 x5_1).f6.f1), .string ((rd_T56 l1 x5_1).f6.f2), .int .i64 ((rd_T56 l1 x5_1).f6.f3)]] (by rfl) rfl rfl (by (try simp only [List.map_toArray, List.map_cons, List.map_nil]); first | done | rfl | (simp only [List.length_drop, List.length_take]; rfl)) ?_
       with_reducible refine (laws_eqObject.calls k1 ((rd_T56 l0 x5_1).f0) ((rd_T56 l0 x5_1).f1) ((rd_T56 l0 x5_1).f2) ((rd_T56 l0 x5_1).f3) _ _ ((rd_T56 l0 x5_1).f4) _ _ ((rd_T56 l0 x5_1).f5) ((rd_T56 l0 x5_1).f6.f0) ((rd_T56 l0 x5_1).f6.f1) ((rd_T56 l0 x5_1).f6.f2) ((rd_T56 l0 x5_1).f6.f3) ((rd_T56 l1 x5_1).f0) ((rd_T56 l1 x5_1).f1) ((rd_T56 l1 x5_1).f2) ((rd_T56 l1 x5_1).f3) _ _ ((rd_T56 l1 x5_1).f4) _ _ ((rd_T56 l1 x5_1).f5) ((rd_T56 l1 x5_1).f6.f0) ((rd_T56 l1 x5_1).f6.f1) ((rd_T56 l1 x5_1).f6.f2) ((rd_T56 l1 x5_1).f6.f3) false _ ?side1 ?side2 ?side3 ?side4 ?side5 ?side6 ?side7 ?side8 A7.out).mono ?_
       (case side1 => exact sD (Kd.C_below HR408_4.out HB.out))
       (case side2 => exact HC408_4.out)
       (case side3 => exact sD (Kd.C_below HR408_5.out HB.out))
       (case side4 => exact HC408_5.out)
       (case side5 => exact sD (Kd.C_below HR409_4.out HB.out))
       (case side6 => exact HC409_4.out)
       (case side7 => exact sD (Kd.C_below HR409_5.out HB.out))
       (case side8 => exact HC409_5.out)
       rintro e w12 ⟨rfl, hb⟩
       refine ⟨_, rfl, ?_⟩
       have n0_ := sB HB hb
       clear HB
       have HB := n0_
       clear n0_
       (try clear hb)
       (try clear hb2)
       (try clear hk)
       (try clear hi)
       refine hK.out _ _ ⟨((HB.out.cell (World.block_lt_of_cell? w _ hw408_0)).trans hw408_0), ((HB.out.cell (World.block_lt_of_cell? w _ hw408_1)).trans hw408_1), ((HB.out.cell (World.block_lt_of_cell? w _ hw408_2)).trans hw408_2), ((HB.out.cell (World.block_lt_of_cell? w _ hw408_3)).trans hw408_3), ((HB.out.cell (World.block_lt_of_cell? w _ hw408_4)).trans hw408_4), ((HB.out.cell (World.block_lt_of_cell? w _ hw408_5)).trans hw408_5), ((HB.out.cell (World.block_lt_of_cell? w _ hw408_6)).trans hw408_6), ((HB.out.cell (World.block_lt_of_cell? w _ hw408_7)).trans hw408_7), ((HB.out.cell (World.block_lt_of_cell? w _ hw408_8)).trans hw408_8), ((HB.out.cell (World.block_lt_of_cell? w _ hw408_9)).trans hw408_9), ((HB.out.cell (World.block_lt_of_cell? w _ hw409_0)).trans hw409_0), ((HB.out.cell (World.block_lt_of_cell? w _ hw409_1)).trans hw409_1), ((HB.out.cell (World.block_lt_of_cell? w _ hw409_2)).trans hw409_2), ((HB.out.cell (World.block_lt_of_cell? w _ hw409_3)).trans hw409_3), ((HB.out.cell (World.block_lt_of_cell? w _ hw409_4)).trans hw409_4), ((HB.out.cell (World.block_lt_of_cell? w _ hw409_5)).trans hw409_5), ((HB.out.cell (World.block_lt_of_cell? w _ hw409_6)).trans hw409_6), ((HB.out.cell (World.block_lt_of_cell? w _ hw409_7)).trans hw409_7), ((HB.out.cell (World.block_lt_of_cell? w _ hw409_8)).trans hw409_8), ((HB.out.cell (World.block_lt_of_cell? w _ hw409_9)).trans hw409_9)⟩ (fun hHeld => ?_)
       clear hK K
       refine norm_ (a' := ?_) ?_ ?_
       rotate_left
       ·show Act.put _ (some 25) _ = _
        simp only [Act.put, List.setIfInBounds_toArray, List.set_cons_zero, List.set_cons_succ, i64_w, i32_w]
        rfl
       refine pure_ (i := 9) (N := some 26) (v := ?_) (a' := ?_) (bN 10 1023) rfl rfl (any_of HT_.out (by kernel_rfl)) (fun _ _ _ h => h) (Or.inl ⟨by rfl, ?_⟩) ?_ ?_
       rotate_left
       ·intro w'
        go_simp
        with_reducible rfl
       rotate_left
       ·simp only [Act.put, List.setIfInBounds_toArray, List.set_cons_zero, List.set_cons_succ, i64_w, i32_w]
        rfl
       refine done_ (done_of HT_.out (by kernel_rfl)) ?_
       try go_wp2
       go_ret
       exact ⟨sq, sb⟩
      rw [if_neg c6] at H
      exact absurd H (by simp)
     rw [if_neg c5] at H
     exact absurd H (by simp)
    rw [if_neg c4] at H
    have c4b0 := decide_eq_false c4
    clear c4
    obtain rfl := Option.some.inj H
    go_wp2
    go_ret
    exact ⟨sq, sb⟩
 rw [if_neg c3] at H
 have c3b0 : ((l0.length : Int) == (l1.length : Int)) = false := beq_eq_false_iff_ne.mpr c3
 have c3b1 : ((l0.length : Int) != (l1.length : Int)) = true := bne_iff_ne.mpr c3
 have c3b2 : (l0.length == l1.length) = false := by first | simpa using c3 | (simp at c3 ⊢; omega)
 obtain rfl := Option.some.inj H
 go_enter Try.func67, Try.ntmps67
 go_wp2
 go_ret
 exact ⟨sq, sb⟩

/-! ### laws_eqHeap: function 21 -/
def laws_eqHeap.f (k : Nat) (a0_0 : Int) (l0_1 : List (S56)) (a1_0 : Int) (l1_1 : List (S56)) : Option (Bool) := if a0_0 = a1_0 then ((laws_eqObjectS.f k l0_1 l1_1).bind fun t413 => (if t413 = true then (some true) else (some false))) else (some false)
set_option maxHeartbeats 8000000 in
set_option maxRecDepth 100000 in
theorem laws_eqHeap.calls (k : Nat) (a0_0 : Int) (A0_1 : Option Addr) (c0_1 : Nat) (l0_1 : List (S56)) (a1_0 : Int) (A1_1 : Option Addr) (c1_1 : Nat) (l1_1 : List (S56)) (r : Bool) (w : World) (hr0_1 : Kd.C k56 w A0_1 l0_1.length l0_1) (hc0_1 : l0_1.length ≤ c0_1) (hr1_1 : Kd.C k56 w A1_1 l1_1.length l1_1) (hc1_1 : l1_1.length ≤ c1_1) (h : laws_eqHeap.f k a0_0 l0_1 a1_0 l1_1 = some r) :
  Calls Try.prog 21 #[.agg #[.int .i64 a0_0, .slice A0_1 l0_1.length c0_1], .agg #[.int .i64 a1_0, .slice A1_1 l1_1.length c1_1]] w fun e w' => e = .returned (.bool r) ∧ Below w.heap.size w w' := by
 have hu34 := Try.underlying34
 have HR0_1 := Aside0.mk hr0_1
 have HC0_1 := Aside0.mk hc0_1
 clear hr0_1 hc0_1
 have HR1_1 := Aside0.mk hr1_1
 have HC1_1 := Aside0.mk hc1_1
 clear hr1_1 hc1_1
 have HB := Aside0.mk (Below.refl w.heap.size w)
 have H : (if a0_0 = a1_0 then ((laws_eqObjectS.f k l0_1 l1_1).bind fun t413 => (if t413 = true then (some true) else (some false))) else (some false)) = some r := h
 clear h
 by_cases c3 : a0_0 = a1_0
 ·rw [if_pos c3] at H
  have c3b0 : (a0_0 == a1_0) = true := beq_iff_eq.mpr c3
  have c3b1 : (a0_0 != a1_0) = false := bne_eq_false_iff_eq.mpr c3
  clear c3
  obtain ⟨t413, A4, H⟩ := sO H
  by_cases c5 : t413 = true
  ·subst c5
   rewrite [if_pos rfl] at H
   obtain rfl := Option.some.inj H
   go_enter Try.func21, Try.ntmps21
   go_wp2_with (first | ((with_reducible refine gate_dst (N := 2) rfl ?_); refine sV (N := 2) (cs := #[.int .i64 a0_0, .slice A0_1 l0_1.length c0_1]) (t := 34) ?_; intro gb411 hg w6 hbox hb; have n0_ := sB HB hb; have n1_ := Aside0.mk (hbox); have n2_ := sG HB hg; have n3_ := sG HB hg; clear HB; have HB := n0_; have BK411 := n1_; have GW411 := n2_; have GE411 := n3_; clear n0_ n1_ n2_ n3_; clear hb hbox hg) | ((with_reducible refine gate_dst (N := 3) rfl ?_); refine sV (N := 3) (cs := #[.int .i64 a1_0, .slice A1_1 l1_1.length c1_1]) (t := 34) ?_; intro gb412 hg w7 hbox hb; have n0_ := sK BK411 hb; have n1_ := sB HB hb; have n2_ := Aside0.mk (hbox); have n3_ := sG HB hg; have n4_ := sG HB hg; have n5_ := sN BK411 hg; have n6_ := sM BK411 hg; clear BK411; clear HB; have BK411 := n0_; have HB := n1_; have BK412 := n2_; have GW412 := n3_; have GE412 := n4_; have NB411_412 := n5_; have NB412_411 := n6_; clear n0_ n1_ n2_ n3_ n4_ n5_ n6_; clear hb hbox hg; have hnb8 := NB411_412.out; have hnc8 := NB412_411.out; obtain ⟨hcz9_0, hcz9_1, hfz9_0, hfz9_1⟩ := cells2 BK411.out; obtain ⟨hcz10_0, hcz10_1, hfz10_0, hfz10_1⟩ := cells2 BK412.out) | ((with_reducible refine gate_callee (f := 67) rfl ?_); refine sC (some 14) Try.func67 #[.slice A0_1 l0_1.length c0_1, .slice A1_1 l1_1.length c1_1] (laws_eqObjectS.calls k _ _ l0_1 _ _ l1_1 true _ ?side1 ?side2 ?side3 ?side4 A4.out) ?_; (case side1 => exact sD (Kd.C_below HR0_1.out HB.out)); (case side2 => exact HC0_1.out); (case side3 => exact sD (Kd.C_below HR1_1.out HB.out)); (case side4 => exact HC1_1.out); rintro e w11 ⟨rfl, hb⟩; refine ⟨_, rfl, ?_⟩; have n0_ := sK BK411 hb; have n1_ := sK BK412 hb; have n2_ := sB HB hb; clear BK411; clear BK412; clear HB; have BK411 := n0_; have BK412 := n1_; have HB := n2_; clear n0_ n1_ n2_; (try clear hb); (try clear hb2); (try clear hk); (try clear hi)))
   go_ret
   exact ⟨sq, sb⟩
  replace c5 := Bool.eq_false_iff.mpr c5
  subst c5
  rewrite [if_neg (show ¬ (false = true) by decide)] at H
  obtain rfl := Option.some.inj H
  go_enter Try.func21, Try.ntmps21
  go_wp2_with (first | ((with_reducible refine gate_dst (N := 2) rfl ?_); refine sV (N := 2) (cs := #[.int .i64 a0_0, .slice A0_1 l0_1.length c0_1]) (t := 34) ?_; intro gb411 hg w12 hbox hb; have n0_ := sB HB hb; have n1_ := Aside0.mk (hbox); have n2_ := sG HB hg; have n3_ := sG HB hg; clear HB; have HB := n0_; have BK411 := n1_; have GW411 := n2_; have GE411 := n3_; clear n0_ n1_ n2_ n3_; clear hb hbox hg) | ((with_reducible refine gate_dst (N := 3) rfl ?_); refine sV (N := 3) (cs := #[.int .i64 a1_0, .slice A1_1 l1_1.length c1_1]) (t := 34) ?_; intro gb412 hg w13 hbox hb; have n0_ := sK BK411 hb; have n1_ := sB HB hb; have n2_ := Aside0.mk (hbox); have n3_ := sG HB hg; have n4_ := sG HB hg; have n5_ := sN BK411 hg; have n6_ := sM BK411 hg; clear BK411; clear HB; have BK411 := n0_; have HB := n1_; have BK412 := n2_; have GW412 := n3_; have GE412 := n4_; have NB411_412 := n5_; have NB412_411 := n6_; clear n0_ n1_ n2_ n3_ n4_ n5_ n6_; clear hb hbox hg; have hnb14 := NB411_412.out; have hnc14 := NB412_411.out; obtain ⟨hcz15_0, hcz15_1, hfz15_0, hfz15_1⟩ := cells2 BK411.out; obtain ⟨hcz16_0, hcz16_1, hfz16_0, hfz16_1⟩ := cells2 BK412.out) | ((with_reducible refine gate_callee (f := 67) rfl ?_); refine sC (some 14) Try.func67 #[.slice A0_1 l0_1.length c0_1, .slice A1_1 l1_1.length c1_1] (laws_eqObjectS.calls k _ _ l0_1 _ _ l1_1 false _ ?side1 ?side2 ?side3 ?side4 A4.out) ?_; (case side1 => exact sD (Kd.C_below HR0_1.out HB.out)); (case side2 => exact HC0_1.out); (case side3 => exact sD (Kd.C_below HR1_1.out HB.out)); (case side4 => exact HC1_1.out); rintro e w17 ⟨rfl, hb⟩; refine ⟨_, rfl, ?_⟩; have n0_ := sK BK411 hb; have n1_ := sK BK412 hb; have n2_ := sB HB hb; clear BK411; clear BK412; clear HB; have BK411 := n0_; have BK412 := n1_; have HB := n2_; clear n0_ n1_ n2_; (try clear hb); (try clear hb2); (try clear hk); (try clear hi)))
  go_ret
  exact ⟨sq, sb⟩
 rw [if_neg c3] at H
 have c3b0 : (a0_0 == a1_0) = false := beq_eq_false_iff_ne.mpr c3
 have c3b1 : (a0_0 != a1_0) = true := bne_iff_ne.mpr c3
 obtain rfl := Option.some.inj H
 go_enter Try.func21, Try.ntmps21
 go_wp2_with (first | ((with_reducible refine gate_dst (N := 2) rfl ?_); refine sV (N := 2) (cs := #[.int .i64 a0_0, .slice A0_1 l0_1.length c0_1]) (t := 34) ?_; intro gb411 hg w18 hbox hb; have n0_ := sB HB hb; have n1_ := Aside0.mk (hbox); have n2_ := sG HB hg; have n3_ := sG HB hg; clear HB; have HB := n0_; have BK411 := n1_; have GW411 := n2_; have GE411 := n3_; clear n0_ n1_ n2_ n3_; clear hb hbox hg) | ((with_reducible refine gate_dst (N := 3) rfl ?_); refine sV (N := 3) (cs := #[.int .i64 a1_0, .slice A1_1 l1_1.length c1_1]) (t := 34) ?_; intro gb412 hg w19 hbox hb; have n0_ := sK BK411 hb; have n1_ := sB HB hb; have n2_ := Aside0.mk (hbox); have n3_ := sG HB hg; have n4_ := sG HB hg; have n5_ := sN BK411 hg; have n6_ := sM BK411 hg; clear BK411; clear HB; have BK411 := n0_; have HB := n1_; have BK412 := n2_; have GW412 := n3_; have GE412 := n4_; have NB411_412 := n5_; have NB412_411 := n6_; clear n0_ n1_ n2_ n3_ n4_ n5_ n6_; clear hb hbox hg; have hnb20 := NB411_412.out; have hnc20 := NB412_411.out; obtain ⟨hcz21_0, hcz21_1, hfz21_0, hfz21_1⟩ := cells2 BK411.out; obtain ⟨hcz22_0, hcz22_1, hfz22_0, hfz22_1⟩ := cells2 BK412.out))
 go_ret
 exact ⟨sq, sb⟩
end Go.Proofs.Ytnjkhdhaiicefaa.PFnExactGetField
