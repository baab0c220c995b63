/- What the helpers of the law FnExactAssignmentsOf come to: budgets, copies, comparisons; no condition. -/
import Derived.Test.YtlcllofghiialaaOFnExactAssignmentsOf
import Derived.Test.YtlcllofghiialaaGAuto
namespace Go.Proofs.Ytlcllofghiialaa.PureFnExactAssignmentsOf
open Go.RowKit Go.Proofs.YtlcllofghiialaaG Go.Proofs.Ytlcllofghiialaa.PFnExactAssignmentsOf Go.Proofs.YtlcllofghiialaaW.PrintWords Go.Proofs.YtlcllofghiialaaW.PrintLast Go.Proofs.YtlcllofghiialaaW.PrintMore
set_option linter.unusedVariables false
set_option linter.unusedSimpArgs false

instance : FineC S39 := ⟨fun x => Fine x.f0 ∧ Fine x.f1 ∧ Fine x.f2 ∧ Fine x.f3⟩
instance : FineC S41 := ⟨fun x => Fine x.f0 ∧ Fine x.f1 ∧ Fine x.f2 ∧ Fine x.f3⟩
instance : FineC S51 := ⟨fun x => Fine x.f0 ∧ Fine x.f1 ∧ Fine x.f2 ∧ Fine x.f3⟩
instance : FineC S24 := ⟨fun x => Fine x.f0 ∧ Fine x.f1 ∧ Fine x.f2⟩
theorem laws_szCapture_sz (a0_0 : ByteArray) (a0_1 : ByteArray) (a0_2 : Int) (a0_3 : Int) (a1 : Int) (w_a0_0 : WStr a0_0) (w_a0_1 : WStr a0_1) (w_a0_2 : (WInt .i64) a0_2) (w_a0_3 : (WInt .i64) a0_3) (h0 : 0 ≤ a1) (h1 : a1 ≤ 1048576) : Sz (fun k => laws_szCapture.f a0_0 a0_1 a0_2 a0_3 a1) a1 (Fine a0_0 ∧ Fine a0_1 ∧ Fine a0_2 ∧ Fine a0_3) := by
  simp only [laws_szCapture.f]
  have u_a0_0 : a0_0.size ≤ 9223372036854775807 := w_a0_0
  have u_a0_1 : a0_1.size ≤ 9223372036854775807 := w_a0_1
  refine sz_if h0 (by omega) (by omega) (by omega) (by omega) fun b1 d1 e1 => ?_
  refine sz_if h0 (by omega) (by omega) (by omega) (by omega) fun b2 d2 e2 => ?_
  exact ⟨_, ev_some _, by omega, fun _ => (And.intro (show a0_0.size ≤ 1048576 by omega) (And.intro (show a0_1.size ≤ 1048576 by omega) (And.intro w_a0_2.i64 w_a0_3.i64)))⟩
theorem laws_szCaptureS_sz (l0 : List (S51)) (a1 : Int) (w_l0 : (WList wf51) l0) (h0 : 0 ≤ a1) (h1 : a1 ≤ 1048576) : Sz (fun k => laws_szCaptureS.f k l0 a1) a1 (Fine l0) := by
  simp only [laws_szCaptureS.f]
  have u_l0 : l0.length ≤ 9223372036854775807 := w_l0.1
  refine sz_if h0 (by omega) (by omega) (by omega) (by omega) fun b1 d1 e1 => ?_
  obtain ⟨v, hv, hle, hq⟩ := sz_loop laws_szCaptureS.l0 (fun k x n => laws_szCapture.f (x.f0) (x.f1) (x.f2) (x.f3) n) rd_T51 (fun x => Fine x) (fun k xs n i => by simp only [laws_szCaptureS.l0]) (fun xs i h => getD_get _ xs i h) l0 w_l0.1 (wrap64 (a1 - (l0.length : Int))) (by omega) (fun x hx m hm hm1 => by
    have w := w_l0.2 x hx
    exact sz_mono (laws_szCapture_sz x.f0 x.f1 x.f2 x.f3 m (show WStr x.f0 ∧ WStr x.f1 ∧ (WInt .i64) x.f2 ∧ (WInt .i64) x.f3 from w).1 (show WStr x.f0 ∧ WStr x.f1 ∧ (WInt .i64) x.f2 ∧ (WInt .i64) x.f3 from w).2.1 (show WStr x.f0 ∧ WStr x.f1 ∧ (WInt .i64) x.f2 ∧ (WInt .i64) x.f3 from w).2.2.1 (show WStr x.f0 ∧ WStr x.f1 ∧ (WInt .i64) x.f2 ∧ (WInt .i64) x.f3 from w).2.2.2 hm (by omega)) (fun ⟨g0, g1, g2, g3⟩ => (And.intro g0 (And.intro g1 (And.intro g2 g3)))))
  exact ⟨v, hv, by omega, fun h => Fine.list (by omega) (hq h)⟩
theorem laws_szMatch_sz (a0_0 : Int) (a0_1 : Int) (l0_2 : List (S51)) (a1 : Int) (w_a0_0 : (WInt .i64) a0_0) (w_a0_1 : (WInt .i64) a0_1) (w_l0_2 : (WList wf51) l0_2) (h0 : 0 ≤ a1) (h1 : a1 ≤ 1048576) : Sz (fun k => laws_szMatch.f k a0_0 a0_1 l0_2 a1) a1 (Fine a0_0 ∧ Fine a0_1 ∧ Fine l0_2) := by
  simp only [laws_szMatch.f]
  have u_l0_2 : l0_2.length ≤ 9223372036854775807 := w_l0_2.1
  refine sz_bind h0 (laws_szCaptureS_sz l0_2 a1 w_l0_2 (by omega) (by omega)) (fun t105 b1 d1 q1 => ?_)
  have g1_0 := q1
  exact ⟨_, ev_some _, by omega, fun _ => (And.intro w_a0_0.i64 (And.intro w_a0_1.i64 g1_0))⟩
theorem laws_toCapture_to (a0_0 : ByteArray) (a0_1 : ByteArray) (a0_2 : Int) (a0_3 : Int) (g_a0_0 : Fine a0_0) (g_a0_1 : Fine a0_1) (g_a0_2 : Fine a0_2) (g_a0_3 : Fine a0_3) : To (fun k => laws_toCapture.f a0_0 a0_1 a0_2 a0_3) := by
  simp only [laws_toCapture.f]
  exact to_some (And.intro g_a0_0 (And.intro g_a0_1 (And.intro g_a0_2 g_a0_3)))
theorem laws_toCaptureS_to (l0 : List (S51)) (g_l0 : Fine l0) : To (fun k => laws_toCaptureS.f k l0) := by
  simp only [laws_toCaptureS.f]
  refine to_if (by omega) (to_if (by have := g_l0.len; omega) ?_)
  exact to_loop laws_toCaptureS.l0 (fun k x => (laws_toCapture.f (x.f0) (x.f1) (x.f2) (x.f3)).bind fun bt113 => some (⟨bt113.1, bt113.2.1, bt113.2.2.1, bt113.2.2.2⟩ : S39)) rd_T51 (fun k xs ys i => by simp only [laws_toCaptureS.l0, Option.bind_assoc, Option.bind_some]) (fun xs i h => getD_get _ xs i h) l0 g_l0.len _ (fun x hx => by
    have g := g_l0.mem hx
    exact to_bind (laws_toCapture_to (x.f0) (x.f1) (x.f2) (x.f3) (show Fine x.f0 ∧ Fine x.f1 ∧ Fine x.f2 ∧ Fine x.f3 from g).1 (show Fine x.f0 ∧ Fine x.f1 ∧ Fine x.f2 ∧ Fine x.f3 from g).2.1 (show Fine x.f0 ∧ Fine x.f1 ∧ Fine x.f2 ∧ Fine x.f3 from g).2.2.1 (show Fine x.f0 ∧ Fine x.f1 ∧ Fine x.f2 ∧ Fine x.f3 from g).2.2.2) (fun bt113 g_bt113 => to_some (And.intro g_bt113.fst (And.intro g_bt113.snd.fst (And.intro g_bt113.snd.snd.fst g_bt113.snd.snd.snd)))))
theorem laws_toMatch_to (a0_0 : Int) (a0_1 : Int) (l0_2 : List (S51)) (g_a0_0 : Fine a0_0) (g_a0_1 : Fine a0_1) (g_l0_2 : Fine l0_2) : To (fun k => laws_toMatch.f k a0_0 a0_1 l0_2) := by
  simp only [laws_toMatch.f]
  refine to_bind (laws_toCaptureS_to l0_2 g_l0_2) (fun t121 g_t121 => ?_)
  exact to_some (And.intro g_a0_0 (And.intro g_a0_1 g_t121))
theorem laws_eqAssignment_rf (a0_0 : ByteArray) (a0_1 : ByteArray) (a0_2 : Bool) (a0_3 : Int) (g_a0_0 : Fine a0_0) (g_a0_1 : Fine a0_1) (g_a0_2 : Fine a0_2) (g_a0_3 : Fine a0_3) : Ev (fun k => laws_eqAssignment.f a0_0 a0_1 a0_2 a0_3 a0_0 a0_1 a0_2 a0_3) true := by
  simp only [laws_eqAssignment.f]
  refine ev_pos (by trivial) ?_
  refine ev_pos (by trivial) ?_
  refine ev_neg (by simp) ?_
  refine ev_pos (by trivial) ?_
  exact ev_some _
theorem laws_eqAssignmentS_rf (l0 : List (S41)) (g_l0 : Fine l0) : Ev (fun k => laws_eqAssignmentS.f k l0 l0) true := by
  simp only [laws_eqAssignmentS.f]
  refine ev_pos (by trivial) ?_
  exact eq_loop laws_eqAssignmentS.l0 (fun k x y => laws_eqAssignment.f (x.f0) (x.f1) (x.f2) (x.f3) (y.f0) (y.f1) (y.f2) (y.f3)) rd_T41 (fun k xs ys i => by simp only [laws_eqAssignmentS.l0]) (fun xs i h => getD_get _ xs i h) l0 g_l0.len (fun x hx => by
    have g := g_l0.mem hx
    exact laws_eqAssignment_rf x.f0 x.f1 x.f2 x.f3 (show Fine x.f0 ∧ Fine x.f1 ∧ Fine x.f2 ∧ Fine x.f3 from g).1 (show Fine x.f0 ∧ Fine x.f1 ∧ Fine x.f2 ∧ Fine x.f3 from g).2.1 (show Fine x.f0 ∧ Fine x.f1 ∧ Fine x.f2 ∧ Fine x.f3 from g).2.2.1 (show Fine x.f0 ∧ Fine x.f1 ∧ Fine x.f2 ∧ Fine x.f3 from g).2.2.2)
theorem laws_eqCapture_rf (a0_0 : ByteArray) (a0_1 : ByteArray) (a0_2 : Int) (a0_3 : Int) (g_a0_0 : Fine a0_0) (g_a0_1 : Fine a0_1) (g_a0_2 : Fine a0_2) (g_a0_3 : Fine a0_3) : Ev (fun k => laws_eqCapture.f a0_0 a0_1 a0_2 a0_3 a0_0 a0_1 a0_2 a0_3) true := by
  simp only [laws_eqCapture.f]
  refine ev_pos (by trivial) ?_
  refine ev_pos (by trivial) ?_
  refine ev_pos (by trivial) ?_
  refine ev_pos (by trivial) ?_
  exact ev_some _
theorem laws_eqCaptureS_rf (l0 : List (S39)) (g_l0 : Fine l0) : Ev (fun k => laws_eqCaptureS.f k l0 l0) true := by
  simp only [laws_eqCaptureS.f]
  refine ev_pos (by trivial) ?_
  exact eq_loop laws_eqCaptureS.l0 (fun k x y => laws_eqCapture.f (x.f0) (x.f1) (x.f2) (x.f3) (y.f0) (y.f1) (y.f2) (y.f3)) rd_T39 (fun k xs ys i => by simp only [laws_eqCaptureS.l0]) (fun xs i h => getD_get _ xs i h) l0 g_l0.len (fun x hx => by
    have g := g_l0.mem hx
    exact laws_eqCapture_rf x.f0 x.f1 x.f2 x.f3 (show Fine x.f0 ∧ Fine x.f1 ∧ Fine x.f2 ∧ Fine x.f3 from g).1 (show Fine x.f0 ∧ Fine x.f1 ∧ Fine x.f2 ∧ Fine x.f3 from g).2.1 (show Fine x.f0 ∧ Fine x.f1 ∧ Fine x.f2 ∧ Fine x.f3 from g).2.2.1 (show Fine x.f0 ∧ Fine x.f1 ∧ Fine x.f2 ∧ Fine x.f3 from g).2.2.2)
theorem laws_eqMatch_rf (a0_0 : Int) (a0_1 : Int) (l0_2 : List (S39)) (g_a0_0 : Fine a0_0) (g_a0_1 : Fine a0_1) (g_l0_2 : Fine l0_2) : Ev (fun k => laws_eqMatch.f k a0_0 a0_1 l0_2 a0_0 a0_1 l0_2) true := by
  simp only [laws_eqMatch.f]
  refine ev_pos (by trivial) ?_
  refine ev_pos (by trivial) ?_
  refine ev_bind (laws_eqCaptureS_rf l0_2 g_l0_2) ?_
  refine ev_pos (by trivial) ?_
  exact ev_some _
theorem laws_markText_mk (n : Int) (hn : n ≤ 1000000000000000000) : ∃ t, Ev (fun k => laws_markText.f k n) t := by
  simp only [laws_markText.f]
  by_cases c : n ≤ 0
  · exact ⟨_, ev_pos c (ev_some _)⟩
  · suffices h : ∀ (d : Nat) (x : Int) (s : ByteArray), 0 ≤ x → x < (10 : Int) ^ d → x ≤ 1000000000000000000 → s.size + d + 2 ≤ 9223372036854775807 → ∃ t, Ev (fun k => laws_markText.l0 k x s) t by
      obtain ⟨t, ht⟩ := h 19 n ⟨#[]⟩ (by omega) (by rw [show (10 : Int) ^ 19 = 10000000000000000000 from by decide]; omega) hn (by show 0 + 19 + 2 ≤ _; omega)
      exact ⟨t, ev_neg c ht⟩
    intro d
    induction d with
    | zero =>
      intro x s h0 h1 _ hs
      have e : x = 0 := by rw [Int.pow_zero] at h1; omega
      subst e
      refine ⟨(⟨#[109]⟩ : ByteArray) ++ s, ev_shift ?_⟩
      simp only [laws_markText.l0]
      exact ev_neg (by omega) (ev_pos (by omega) (ev_some _))
    | succ d ih =>
      intro x s h0 h1 h2 hs
      by_cases c : x > 0
      · have e : wrap64 (Int.tdiv x 10) = x / 10 := by rw [Int.tdiv_eq_ediv_of_nonneg h0]; exact wrap_id (by omega) (by omega)
        have hz : ∀ y : Int, ((strOfNums [y]) ++ s).size = 1 + s.size := fun y => by rw [ByteArray.size_append]; rfl
        have hz1 : ∀ y : Int, (strOfNums [y]).size = 1 := fun y => rfl
        rw [Int.pow_succ] at h1
        obtain ⟨t, ht⟩ := ih (x / 10) ((strOfNums [(wrap64 (48 + (Int.tmod x 10))) % 256]) ++ s) (by omega) (by omega) (by omega) (by rw [hz]; omega)
        refine ⟨t, ev_shift ?_⟩
        simp only [laws_markText.l0]
        refine ev_pos c (ev_bindc rfl (ev_pos (by rw [hz1]; omega) ?_))
        rw [e]; exact ht
      · refine ⟨(⟨#[109]⟩ : ByteArray) ++ s, ev_shift ?_⟩
        simp only [laws_markText.l0]
        exact ev_neg c (ev_pos (by omega) (ev_some _))
def H_CaptureS (x : S39) (n : Int) : Prop := ∃ t0 t1 : ByteArray, Ev (fun k => laws_markText.f k n) t0 ∧ Ev (fun k => laws_markText.f k (n + 1)) t1 ∧ x = (⟨t0, t1, (n + 2), (n + 3)⟩ : S39)
theorem laws_markCaptureS_mk (l : List S39) (g : Fine l) (n : Int) (h0 : 0 ≤ n) (h1 : n ≤ 100000000000000) : ∃ ys, Ev (fun k => laws_markCaptureS.f k l n) (n + 4 * (l.length : Int), ys) ∧ ys.length = l.length ∧ ∀ i (hi : i < ys.length), H_CaptureS ys[i] (n + 4 * (i : Int)) := by
  simp only [laws_markCaptureS.f]
  have hl := g.len
  refine mark_loop (fun k xs n i => laws_markCaptureS.l0 k xs n i) (H_CaptureS) 4 200000000000000 (by omega) ?_ ?_ l hl n h0 (by omega)
  · intro k xs n; simp only [laws_markCaptureS.l0]; exact if_neg (by omega)
  · intro n h0 h1 xs i hi hl
    obtain ⟨t0, e_t0⟩ := laws_markText_mk n (by omega)
    obtain ⟨t1, e_t1⟩ := laws_markText_mk (n + 1) (by omega)
    refine ⟨⟨t0, t1, (n + 2), (n + 3)⟩, ⟨t0, t1, e_t0, e_t1, rfl⟩, fun r hr => ev_shift ?_⟩
    have w1 : wrap64 (n + 1) = n + 1 := by rw [wrap_id (by omega) (by omega)]
    have w2 : wrap64 (n + 1 + 1) = n + 2 := by rw [wrap_id (by omega) (by omega)]; omega
    have w3 : wrap64 (n + 2 + 1) = n + 3 := by rw [wrap_id (by omega) (by omega)]; omega
    have w4 : wrap64 (n + 3 + 1) = n + 4 := by rw [wrap_id (by omega) (by omega)]; omega
    have wi : wrap64 ((i : Int) + 1) = (i : Int) + 1 := wrap_id (by omega) (by omega)
    have hset : ∀ a, rd_T39 (xs.set ((i : Int)).toNat a) (i : Int) = a := fun a => getD_set _ xs i hi a
    simp only [laws_markCaptureS.l0, Option.bind_some, w1, w2, w3, w4, wi, hset, List.set_set]
    rw [Int.toNat_natCast] at *
    repeat (first | exact hr | refine ev_pos (by omega) ?_ | refine ev_bind e_t0 ?_ | refine ev_bind e_t1 ?_)

theorem laws_markMatch_mk (a0_0 : Int) (a0_1 : Int) (l0_2 : List (S39)) (g_a0_0 : Fine a0_0) (g_a0_1 : Fine a0_1) (g_l0_2 : Fine l0_2) (a1 : Int) (h0 : 0 ≤ a1) (h1 : a1 ≤ 10000000000000) : ∃ v, Ev (fun k => laws_markMatch.f k a0_0 a0_1 l0_2 a1) v ∧ 0 ≤ v.1 := by
  simp only [laws_markMatch.f]
  have l0 := g_l0_2.len
  obtain ⟨y0, e0, _, _⟩ := laws_markCaptureS_mk l0_2 g_l0_2 a1 (by omega) (by omega)
  refine ?_
  exact ⟨_, ev_bind e0 (ev_some _), (show 0 ≤ (a1 + 4 * (l0_2.length : Int)) by omega)⟩
def H_AssignmentS (x : S41) (n : Int) : Prop := ∃ t0 t1 : ByteArray, Ev (fun k => laws_markText.f k n) t0 ∧ Ev (fun k => laws_markText.f k (n + 1)) t1 ∧ x = (⟨t0, t1, (Int.tmod (n + 2) 3 == 0), (n + 3)⟩ : S41)
theorem laws_markAssignmentS_mk (l : List S41) (g : Fine l) (n : Int) (h0 : 0 ≤ n) (h1 : n ≤ 100000000000000) : ∃ ys, Ev (fun k => laws_markAssignmentS.f k l n) (n + 4 * (l.length : Int), ys) ∧ ys.length = l.length ∧ ∀ i (hi : i < ys.length), H_AssignmentS ys[i] (n + 4 * (i : Int)) := by
  simp only [laws_markAssignmentS.f]
  have hl := g.len
  refine mark_loop (fun k xs n i => laws_markAssignmentS.l0 k xs n i) (H_AssignmentS) 4 200000000000000 (by omega) ?_ ?_ l hl n h0 (by omega)
  · intro k xs n; simp only [laws_markAssignmentS.l0]; exact if_neg (by omega)
  · intro n h0 h1 xs i hi hl
    obtain ⟨t0, e_t0⟩ := laws_markText_mk n (by omega)
    obtain ⟨t1, e_t1⟩ := laws_markText_mk (n + 1) (by omega)
    refine ⟨⟨t0, t1, (Int.tmod (n + 2) 3 == 0), (n + 3)⟩, ⟨t0, t1, e_t0, e_t1, rfl⟩, fun r hr => ev_shift ?_⟩
    have w1 : wrap64 (n + 1) = n + 1 := by rw [wrap_id (by omega) (by omega)]
    have w2 : wrap64 (n + 1 + 1) = n + 2 := by rw [wrap_id (by omega) (by omega)]; omega
    have w3 : wrap64 (n + 2 + 1) = n + 3 := by rw [wrap_id (by omega) (by omega)]; omega
    have w4 : wrap64 (n + 3 + 1) = n + 4 := by rw [wrap_id (by omega) (by omega)]; omega
    have wi : wrap64 ((i : Int) + 1) = (i : Int) + 1 := wrap_id (by omega) (by omega)
    have hset : ∀ a, rd_T41 (xs.set ((i : Int)).toNat a) (i : Int) = a := fun a => getD_set _ xs i hi a
    simp only [laws_markAssignmentS.l0, Option.bind_some, w1, w2, w3, w4, wi, hset, List.set_set]
    rw [Int.toNat_natCast] at *
    repeat (first | exact hr | refine ev_pos (by omega) ?_ | refine ev_bind e_t0 ?_ | refine ev_bind e_t1 ?_)
theorem laws_heldAssignmentS_hd (l : List S41) (hl : l.length ≤ 1048576) (n : Int) (h0 : 0 ≤ n) (h1 : n ≤ 100000000000000) (h : ∀ i (hi : i < l.length), H_AssignmentS l[i] (n + 4 * (i : Int))) : Ev (fun k => laws_heldAssignmentS.f k l n) (n + 4 * (l.length : Int)) := by
  simp only [laws_heldAssignmentS.f]
  refine held_loop (fun k xs n i => laws_heldAssignmentS.l0 k xs n i) (H_AssignmentS) 4 200000000000000 (by omega) ?_ ?_ l hl n h0 (by omega) h
  · intro k xs n; simp only [laws_heldAssignmentS.l0]; exact if_neg (by omega)
  · intro n h0 h1 xs i hi hl hx r hr
    obtain ⟨t0, t1, e_t0, e_t1, hx⟩ := hx
    refine ev_shift ?_
    have w1 : wrap64 (n + 1) = n + 1 := by rw [wrap_id (by omega) (by omega)]
    have w2 : wrap64 (n + 1 + 1) = n + 2 := by rw [wrap_id (by omega) (by omega)]; omega
    have w3 : wrap64 (n + 2 + 1) = n + 3 := by rw [wrap_id (by omega) (by omega)]; omega
    have w4 : wrap64 (n + 3 + 1) = n + 4 := by rw [wrap_id (by omega) (by omega)]; omega
    have wi : wrap64 ((i : Int) + 1) = (i : Int) + 1 := wrap_id (by omega) (by omega)
    have hrd : rd_T41 xs (i : Int) = ⟨t0, t1, (Int.tmod (n + 2) 3 == 0), (n + 3)⟩ := ((fun xs i h => getD_get _ xs i h) xs i hi).trans hx
    simp only [laws_heldAssignmentS.l0, Option.bind_some, w1, w2, w3, w4, wi, hrd]
    repeat (first | exact hr | refine ev_pos trivial ?_ | refine ev_pos rfl ?_ | refine ev_neg (bne_ff _) ?_ | refine ev_bind e_t0 ?_ | refine ev_bind e_t1 ?_ | refine ev_pos (by omega) ?_)

/-- The two functions agree. -/
def laws_FnExactAssignmentsOf.Core : Prop := ∀ (a0_0 : Int) (a0_1 : Int) (l0_2 : List (S39)), Fine a0_0 → Fine a0_1 → Fine l0_2 → ∃ r, Ev (fun k => spec_AssignmentsOf.f k a0_0 a0_1 l0_2) r ∧ Ev (fun k => impl_AssignmentsOf.f k a0_0 a0_1 l0_2) r ∧ Fine r
theorem close (core : laws_FnExactAssignmentsOf.Core) : laws_FnExactAssignmentsOf.Pure := by
  intro x0 w_x0
  suffices hh : Ev (fun k => laws_FnExactAssignmentsOf.f k x0.f0 x0.f1 x0.f2) true by
    obtain ⟨K, hK⟩ := hh
    exact ⟨K, hK K (Nat.le_refl _)⟩
  simp only [laws_FnExactAssignmentsOf.f]
  obtain ⟨v1, e1, b1, q1⟩ := laws_szMatch_sz x0.f0 x0.f1 x0.f2 1048576 ((show (WInt .i64) x0.f0 ∧ (WInt .i64) x0.f1 ∧ (WList wf51) x0.f2 from w_x0).1) ((show (WInt .i64) x0.f0 ∧ (WInt .i64) x0.f1 ∧ (WList wf51) x0.f2 from w_x0).2.1) ((show (WInt .i64) x0.f0 ∧ (WInt .i64) x0.f1 ∧ (WList wf51) x0.f2 from w_x0).2.2) (by omega) (by omega)
  refine ev_bind e1 (ev_skip fun c1 => ?_)
  obtain ⟨g1_0, g1_1, g1_2⟩ := q1 (by omega)
  obtain ⟨v2, e2, g2⟩ := laws_toMatch_to x0.f0 x0.f1 x0.f2 g1_0 g1_1 g1_2
  refine ev_bind e2 ?_
  obtain ⟨r, es, ei, gr⟩ := core v2.1 v2.2.1 v2.2.2 (g2.fst) (g2.snd.fst) (g2.snd.snd)
  refine ev_bind es ?_
  refine ev_bind e2 ?_
  refine ev_bind ei ?_
  obtain ⟨m1, em1, lm1, hm1⟩ := laws_markAssignmentS_mk r gr 1 (by omega) (by omega)
  have gl1 := gr.len
  have eh1 := laws_heldAssignmentS_hd m1 (by omega) 1 (by omega) (by omega) hm1
  rw [lm1] at eh1
  have pm1 : (0 : Int) ≤ 1 + 4 * (r.length : Int) := by omega
  obtain ⟨m2, em2, pm2⟩ := laws_markMatch_mk v2.1 v2.2.1 v2.2.2 (g2.fst) (g2.snd.fst) (g2.snd.snd) 1 (by omega) (by omega)
  have p0_ : Fine v2.1 := g2.fst
  have p1_ : Fine v2.2.1 := g2.snd.fst
  have p2_ : Fine v2.2.2 := g2.snd.snd
  have p3_ : Fine r := gr
  repeat (first | refine ev_bind em1 ?_ | refine ev_bind eh1 ?_ | refine ev_bind em2 ?_ | refine ev_neg (Int.not_lt.2 (by assumption)) ?_ | refine ev_bind es ?_ | refine ev_bind ei ?_ | exact ev_some _ | refine ev_pos trivial ?_ | refine ev_pos rfl ?_ | refine ev_neg (bne_ff _) ?_ | refine ev_neg Bool.false_ne_true ?_ | refine ev_neg id ?_ | refine ev_bind e2 ?_ | refine ev_bind (laws_eqAssignment_rf _ _ _ _ (by assumption) (by assumption) (by assumption) (by assumption)) ?_ | refine ev_bind (laws_eqAssignmentS_rf _ (by assumption)) ?_ | refine ev_bind (laws_eqCapture_rf _ _ _ _ (by assumption) (by assumption) (by assumption) (by assumption)) ?_ | refine ev_bind (laws_eqCaptureS_rf _ (by assumption)) ?_ | refine ev_bind (laws_eqMatch_rf _ _ _ (by assumption) (by assumption) (by assumption)) ?_ | (refine ev_shift ?_; simp only [laws_FnExactAssignmentsOf.j0]))
end Go.Proofs.Ytlcllofghiialaa.PureFnExactAssignmentsOf
