/- What the helpers of the law FnExactFinalOf come to: budgets, copies, comparisons; no condition. -/
import Derived.Test.YtabbpnkbhapibaaYFinalOfO
import Derived.Test.YtabbpnkbhapibaaYFcW3
namespace Go.Proofs.Ytabbpnkbhapibaa.PureFnExactFinalOf
open Go.RowKit Go.Proofs.YtabbpnkbhapibaaG Go.Proofs.Ytabbpnkbhapibaa.PFnExactFinalOf Go.Proofs.YtabbpnkbhapibaaW.PrintWords Go.Proofs.YtabbpnkbhapibaaW.PrintLast Go.Proofs.YtabbpnkbhapibaaW.PrintMore
set_option linter.unusedVariables false
set_option linter.unusedSimpArgs false

instance : FineC S37 := ⟨fun x => Fine x.f0 ∧ Fine x.f1 ∧ Fine x.f2 ∧ Fine x.f3⟩
instance : FineC S149 := ⟨fun x => Fine x.f0 ∧ Fine x.f1 ∧ Fine x.f2 ∧ Fine x.f3⟩
instance : FineC S35 := ⟨fun x => Fine x.f0 ∧ Fine x.f1 ∧ Fine x.f2 ∧ Fine x.f3⟩
theorem laws_szAssignment_sz (a0_0 : ByteArray) (a0_1 : ByteArray) (a0_2 : Bool) (a0_3 : Int) (a1 : Int) (w_a0_0 : WStr a0_0) (w_a0_1 : WStr a0_1) (w_a0_2 : (fun _ => True) a0_2) (w_a0_3 : (WInt .i64) a0_3) (h0 : 0 ≤ a1) (h1 : a1 ≤ 1048576) : Sz (fun k => laws_szAssignment.f a0_0 a0_1 a0_2 a0_3 a1) a1 (Fine a0_0 ∧ Fine a0_1 ∧ Fine a0_2 ∧ Fine a0_3) := by
  simp only [laws_szAssignment.f]
  have u_a0_0 : a0_0.size ≤ 9223372036854775807 := w_a0_0
  have u_a0_1 : a0_1.size ≤ 9223372036854775807 := w_a0_1
  refine sz_if h0 (by omega) (by omega) (by omega) (by omega) fun b1 d1 e1 => ?_
  refine sz_if h0 (by omega) (by omega) (by omega) (by omega) fun b2 d2 e2 => ?_
  exact ⟨_, ev_some _, by omega, fun _ => (And.intro (show a0_0.size ≤ 1048576 by omega) (And.intro (show a0_1.size ≤ 1048576 by omega) (And.intro trivial w_a0_3.i64)))⟩
theorem laws_szAssignmentS_sz (l0 : List (S149)) (a1 : Int) (w_l0 : (WList wf149) l0) (h0 : 0 ≤ a1) (h1 : a1 ≤ 1048576) : Sz (fun k => laws_szAssignmentS.f k l0 a1) a1 (Fine l0) := by
  simp only [laws_szAssignmentS.f]
  have u_l0 : l0.length ≤ 9223372036854775807 := w_l0.1
  refine sz_if h0 (by omega) (by omega) (by omega) (by omega) fun b1 d1 e1 => ?_
  obtain ⟨v, hv, hle, hq⟩ := sz_loop laws_szAssignmentS.l0 (fun k x n => laws_szAssignment.f (x.f0) (x.f1) (x.f2) (x.f3) n) rd_T149 (fun x => Fine x) (fun k xs n i => by simp only [laws_szAssignmentS.l0]) (fun xs i h => getD_get _ xs i h) l0 w_l0.1 (wrap64 (a1 - (l0.length : Int))) (by omega) (fun x hx m hm hm1 => by
    have w := w_l0.2 x hx
    exact sz_mono (laws_szAssignment_sz x.f0 x.f1 x.f2 x.f3 m (show WStr x.f0 ∧ WStr x.f1 ∧ (fun _ => True) x.f2 ∧ (WInt .i64) x.f3 from w).1 (show WStr x.f0 ∧ WStr x.f1 ∧ (fun _ => True) x.f2 ∧ (WInt .i64) x.f3 from w).2.1 (show WStr x.f0 ∧ WStr x.f1 ∧ (fun _ => True) x.f2 ∧ (WInt .i64) x.f3 from w).2.2.1 (show WStr x.f0 ∧ WStr x.f1 ∧ (fun _ => True) x.f2 ∧ (WInt .i64) x.f3 from w).2.2.2 hm (by omega)) (fun ⟨g0, g1, g2, g3⟩ => (And.intro g0 (And.intro g1 (And.intro g2 g3)))))
  exact ⟨v, hv, by omega, fun h => Fine.list (by omega) (hq h)⟩
theorem laws_toAssignment_to (a0_0 : ByteArray) (a0_1 : ByteArray) (a0_2 : Bool) (a0_3 : Int) (g_a0_0 : Fine a0_0) (g_a0_1 : Fine a0_1) (g_a0_2 : Fine a0_2) (g_a0_3 : Fine a0_3) : To (fun k => laws_toAssignment.f a0_0 a0_1 a0_2 a0_3) := by
  simp only [laws_toAssignment.f]
  exact to_some (And.intro g_a0_0 (And.intro g_a0_1 (And.intro g_a0_2 g_a0_3)))
theorem laws_toAssignmentS_to (l0 : List (S149)) (g_l0 : Fine l0) : To (fun k => laws_toAssignmentS.f k l0) := by
  simp only [laws_toAssignmentS.f]
  refine to_if (by omega) (to_if (by have := g_l0.len; omega) ?_)
  exact to_loop laws_toAssignmentS.l0 (fun k x => (laws_toAssignment.f (x.f0) (x.f1) (x.f2) (x.f3)).bind fun bt111 => some (⟨bt111.1, bt111.2.1, bt111.2.2.1, bt111.2.2.2⟩ : S37)) rd_T149 (fun k xs ys i => by simp only [laws_toAssignmentS.l0, Option.bind_assoc, Option.bind_some]) (fun xs i h => getD_get _ xs i h) l0 g_l0.len _ (fun x hx => by
    have g := g_l0.mem hx
    exact to_bind (laws_toAssignment_to (x.f0) (x.f1) (x.f2) (x.f3) (show Fine x.f0 ∧ Fine x.f1 ∧ Fine x.f2 ∧ Fine x.f3 from g).1 (show Fine x.f0 ∧ Fine x.f1 ∧ Fine x.f2 ∧ Fine x.f3 from g).2.1 (show Fine x.f0 ∧ Fine x.f1 ∧ Fine x.f2 ∧ Fine x.f3 from g).2.2.1 (show Fine x.f0 ∧ Fine x.f1 ∧ Fine x.f2 ∧ Fine x.f3 from g).2.2.2) (fun bt111 g_bt111 => to_some (And.intro g_bt111.fst (And.intro g_bt111.snd.fst (And.intro g_bt111.snd.snd.fst g_bt111.snd.snd.snd)))))
theorem laws_eqAssignment_rf (a0_0 : ByteArray) (a0_1 : ByteArray) (a0_2 : Bool) (a0_3 : Int) (g_a0_0 : Fine a0_0) (g_a0_1 : Fine a0_1) (g_a0_2 : Fine a0_2) (g_a0_3 : Fine a0_3) : Ev (fun k => laws_eqAssignment.f a0_0 a0_1 a0_2 a0_3 a0_0 a0_1 a0_2 a0_3) true := by
  simp only [laws_eqAssignment.f]
  refine ev_pos (by trivial) ?_
  refine ev_pos (by trivial) ?_
  refine ev_neg (by simp) ?_
  refine ev_pos (by trivial) ?_
  exact ev_some _
theorem laws_eqAssignmentS_rf (l0 : List (S37)) (g_l0 : Fine l0) : Ev (fun k => laws_eqAssignmentS.f k l0 l0) true := by
  simp only [laws_eqAssignmentS.f]
  refine ev_pos (by trivial) ?_
  exact eq_loop laws_eqAssignmentS.l0 (fun k x y => laws_eqAssignment.f (x.f0) (x.f1) (x.f2) (x.f3) (y.f0) (y.f1) (y.f2) (y.f3)) rd_T37 (fun k xs ys i => by simp only [laws_eqAssignmentS.l0]) (fun xs i h => getD_get _ xs i h) l0 g_l0.len (fun x hx => by
    have g := g_l0.mem hx
    exact laws_eqAssignment_rf x.f0 x.f1 x.f2 x.f3 (show Fine x.f0 ∧ Fine x.f1 ∧ Fine x.f2 ∧ Fine x.f3 from g).1 (show Fine x.f0 ∧ Fine x.f1 ∧ Fine x.f2 ∧ Fine x.f3 from g).2.1 (show Fine x.f0 ∧ Fine x.f1 ∧ Fine x.f2 ∧ Fine x.f3 from g).2.2.1 (show Fine x.f0 ∧ Fine x.f1 ∧ Fine x.f2 ∧ Fine x.f3 from g).2.2.2)
theorem laws_markText_mk (n : Int) (hn : n ≤ 1000000000000000000) : ∃ t, Ev (fun k => laws_markText.f k n) t := by
  simp only [laws_markText.f]
  by_cases c : n ≤ 0
  · exact ⟨_, ev_pos c (ev_some _)⟩
  · suffices h : ∀ (d : Nat) (x : Int) (s : ByteArray), 0 ≤ x → x < (10 : Int) ^ d → x ≤ 1000000000000000000 → s.size + d + 2 ≤ 9223372036854775807 → ∃ t, Ev (fun k => laws_markText.l0 k x s) t by
      obtain ⟨t, ht⟩ := h 19 n ⟨#[]⟩ (by omega) (by rw [show (10 : Int) ^ 19 = 10000000000000000000 from by decide]; omega) hn (by show 0 + 19 + 2 ≤ _; omega)
      exact ⟨t, ev_neg c ht⟩
    intro d
    induction d with
    | zero =>
      intro x s h0 h1 _ hs
      have e : x = 0 := by rw [Int.pow_zero] at h1; omega
      subst e
      refine ⟨(⟨#[109]⟩ : ByteArray) ++ s, ev_shift ?_⟩
      simp only [laws_markText.l0]
      exact ev_neg (by omega) (ev_pos (by omega) (ev_some _))
    | succ d ih =>
      intro x s h0 h1 h2 hs
      by_cases c : x > 0
      · have e : wrap64 (Int.tdiv x 10) = x / 10 := by rw [Int.tdiv_eq_ediv_of_nonneg h0]; exact wrap_id (by omega) (by omega)
        have hz : ∀ y : Int, ((strOfNums [y]) ++ s).size = 1 + s.size := fun y => by rw [ByteArray.size_append]; rfl
        have hz1 : ∀ y : Int, (strOfNums [y]).size = 1 := fun y => rfl
        rw [Int.pow_succ] at h1
        obtain ⟨t, ht⟩ := ih (x / 10) ((strOfNums [(wrap64 (48 + (Int.tmod x 10))) % 256]) ++ s) (by omega) (by omega) (by omega) (by rw [hz]; omega)
        refine ⟨t, ev_shift ?_⟩
        simp only [laws_markText.l0]
        refine ev_pos c (ev_bindc rfl (ev_pos (by rw [hz1]; omega) ?_))
        rw [e]; exact ht
      · refine ⟨(⟨#[109]⟩ : ByteArray) ++ s, ev_shift ?_⟩
        simp only [laws_markText.l0]
        exact ev_neg c (ev_pos (by omega) (ev_some _))
def H_AssignmentS (x : S37) (n : Int) : Prop := ∃ t0 t1 : ByteArray, Ev (fun k => laws_markText.f k n) t0 ∧ Ev (fun k => laws_markText.f k (n + 1)) t1 ∧ x = (⟨t0, t1, (Int.tmod (n + 2) 3 == 0), (n + 3)⟩ : S37)
theorem laws_markAssignmentS_mk (l : List S37) (g : Fine l) (n : Int) (h0 : 0 ≤ n) (h1 : n ≤ 100000000000000) : ∃ ys, Ev (fun k => laws_markAssignmentS.f k l n) (n + 4 * (l.length : Int), ys) ∧ ys.length = l.length ∧ ∀ i (hi : i < ys.length), H_AssignmentS ys[i] (n + 4 * (i : Int)) := by
  simp only [laws_markAssignmentS.f]
  have hl := g.len
  refine mark_loop (fun k xs n i => laws_markAssignmentS.l0 k xs n i) (H_AssignmentS) 4 200000000000000 (by omega) ?_ ?_ l hl n h0 (by omega)
  · intro k xs n; simp only [laws_markAssignmentS.l0]; exact if_neg (by omega)
  · intro n h0 h1 xs i hi hl
    obtain ⟨t0, e_t0⟩ := laws_markText_mk n (by omega)
    obtain ⟨t1, e_t1⟩ := laws_markText_mk (n + 1) (by omega)
    refine ⟨⟨t0, t1, (Int.tmod (n + 2) 3 == 0), (n + 3)⟩, ⟨t0, t1, e_t0, e_t1, rfl⟩, fun r hr => ev_shift ?_⟩
    have w1 : wrap64 (n + 1) = n + 1 := by rw [wrap_id (by omega) (by omega)]
    have w2 : wrap64 (n + 1 + 1) = n + 2 := by rw [wrap_id (by omega) (by omega)]; omega
    have w3 : wrap64 (n + 2 + 1) = n + 3 := by rw [wrap_id (by omega) (by omega)]; omega
    have w4 : wrap64 (n + 3 + 1) = n + 4 := by rw [wrap_id (by omega) (by omega)]; omega
    have wi : wrap64 ((i : Int) + 1) = (i : Int) + 1 := wrap_id (by omega) (by omega)
    have hset : ∀ a, rd_T37 (xs.set ((i : Int)).toNat a) (i : Int) = a := fun a => getD_set _ xs i hi a
    simp only [laws_markAssignmentS.l0, Option.bind_some, w1, w2, w3, w4, wi, hset, List.set_set]
    rw [Int.toNat_natCast] at *
    repeat (first | exact hr | refine ev_pos (by omega) ?_ | refine ev_bind e_t0 ?_ | refine ev_bind e_t1 ?_)
theorem laws_heldAssignmentS_hd (l : List S37) (hl : l.length ≤ 1048576) (n : Int) (h0 : 0 ≤ n) (h1 : n ≤ 100000000000000) (h : ∀ i (hi : i < l.length), H_AssignmentS l[i] (n + 4 * (i : Int))) : Ev (fun k => laws_heldAssignmentS.f k l n) (n + 4 * (l.length : Int)) := by
  simp only [laws_heldAssignmentS.f]
  refine held_loop (fun k xs n i => laws_heldAssignmentS.l0 k xs n i) (H_AssignmentS) 4 200000000000000 (by omega) ?_ ?_ l hl n h0 (by omega) h
  · intro k xs n; simp only [laws_heldAssignmentS.l0]; exact if_neg (by omega)
  · intro n h0 h1 xs i hi hl hx r hr
    obtain ⟨t0, t1, e_t0, e_t1, hx⟩ := hx
    refine ev_shift ?_
    have w1 : wrap64 (n + 1) = n + 1 := by rw [wrap_id (by omega) (by omega)]
    have w2 : wrap64 (n + 1 + 1) = n + 2 := by rw [wrap_id (by omega) (by omega)]; omega
    have w3 : wrap64 (n + 2 + 1) = n + 3 := by rw [wrap_id (by omega) (by omega)]; omega
    have w4 : wrap64 (n + 3 + 1) = n + 4 := by rw [wrap_id (by omega) (by omega)]; omega
    have wi : wrap64 ((i : Int) + 1) = (i : Int) + 1 := wrap_id (by omega) (by omega)
    have hrd : rd_T37 xs (i : Int) = ⟨t0, t1, (Int.tmod (n + 2) 3 == 0), (n + 3)⟩ := ((fun xs i h => getD_get _ xs i h) xs i hi).trans hx
    simp only [laws_heldAssignmentS.l0, Option.bind_some, w1, w2, w3, w4, wi, hrd]
    repeat (first | exact hr | refine ev_pos trivial ?_ | refine ev_pos rfl ?_ | refine ev_neg (bne_ff _) ?_ | refine ev_bind e_t0 ?_ | refine ev_bind e_t1 ?_ | refine ev_pos (by omega) ?_)

/-- The two functions agree. -/
def laws_FnExactFinalOf.Core : Prop := ∀ (l0 : List (S37)), Fine l0 → ∃ r, Ev (fun k => spec_FinalOf.f k l0) r ∧ Ev (fun k => impl_FinalOf.f k l0) r ∧ Fine r
theorem close (core : laws_FnExactFinalOf.Core) : laws_FnExactFinalOf.Pure := by
  intro x0 w_x0
  suffices hh : Ev (fun k => laws_FnExactFinalOf.f k x0) true by
    obtain ⟨K, hK⟩ := hh
    exact ⟨K, hK K (Nat.le_refl _)⟩
  simp only [laws_FnExactFinalOf.f]
  obtain ⟨v1, e1, b1, q1⟩ := laws_szAssignmentS_sz x0 1048576 (w_x0) (by omega) (by omega)
  refine ev_bind e1 (ev_skip fun c1 => ?_)
  obtain g1_0 := q1 (by omega)
  obtain ⟨v2, e2, g2⟩ := laws_toAssignmentS_to x0 g1_0
  refine ev_bind e2 ?_
  obtain ⟨r, es, ei, gr⟩ := core v2 g2
  refine ev_bind es ?_
  refine ev_bind e2 ?_
  refine ev_bind ei ?_
  obtain ⟨m1, em1, lm1, hm1⟩ := laws_markAssignmentS_mk v2 g2 1 (by omega) (by omega)
  have gl1 := g2.len
  have eh1 := laws_heldAssignmentS_hd m1 (by omega) 1 (by omega) (by omega) hm1
  rw [lm1] at eh1
  have pm1 : (0 : Int) ≤ 1 + 4 * (v2.length : Int) := by omega
  obtain ⟨m2, em2, lm2, hm2⟩ := laws_markAssignmentS_mk r gr 1 (by omega) (by omega)
  have gl2 := gr.len
  have eh2 := laws_heldAssignmentS_hd m2 (by omega) 1 (by omega) (by omega) hm2
  rw [lm2] at eh2
  have pm2 : (0 : Int) ≤ 1 + 4 * (r.length : Int) := by omega
  have p0_ : Fine v2 := g2
  have p1_ : Fine r := gr
  repeat (first | refine ev_bind em1 ?_ | refine ev_bind eh1 ?_ | refine ev_bind em2 ?_ | refine ev_bind eh2 ?_ | refine ev_neg (Int.not_lt.2 (by assumption)) ?_ | refine ev_bind es ?_ | refine ev_bind ei ?_ | exact ev_some _ | refine ev_pos trivial ?_ | refine ev_pos rfl ?_ | refine ev_neg (bne_ff _) ?_ | refine ev_neg Bool.false_ne_true ?_ | refine ev_neg id ?_ | refine ev_bind e2 ?_ | refine ev_bind (laws_eqAssignment_rf _ _ _ _ (by assumption) (by assumption) (by assumption) (by assumption)) ?_ | refine ev_bind (laws_eqAssignmentS_rf _ (by assumption)) ?_ | (refine ev_shift ?_; simp only [laws_FnExactFinalOf.j0]))
end Go.Proofs.Ytabbpnkbhapibaa.PureFnExactFinalOf
