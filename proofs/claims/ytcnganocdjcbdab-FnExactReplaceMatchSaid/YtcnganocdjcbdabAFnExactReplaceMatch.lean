/- What the helpers of the law FnExactReplaceMatch come to: budgets, copies, comparisons; no condition. -/
import Derived.Test.YtcnganocdjcbdabOFnExactReplaceMatch
import Derived.Test.YtcnganocdjcbdabGAuto
namespace Go.Proofs.Ytcnganocdjcbdab.PureFnExactReplaceMatch
open Go.RowKit Go.Proofs.YtcnganocdjcbdabG Go.Proofs.Ytcnganocdjcbdab.PFnExactReplaceMatch Go.Proofs.YtcnganocdjcbdabW.PrintWords Go.Proofs.YtcnganocdjcbdabW.PrintLast Go.Proofs.YtcnganocdjcbdabW.PrintMore
set_option linter.unusedVariables false
set_option linter.unusedSimpArgs false

instance : FineC S30 := ⟨fun x => Fine x.f0 ∧ Fine x.f1 ∧ Fine x.f2 ∧ Fine x.f3⟩
instance : FineC S111 := ⟨fun x => Fine x.f0 ∧ Fine x.f1 ∧ Fine x.f2 ∧ Fine x.f3⟩
instance : FineC S45 := ⟨fun x => Fine x.f0 ∧ Fine x.f1 ∧ Fine x.f2⟩
theorem laws_szCapture_sz (a0_0 : ByteArray) (a0_1 : ByteArray) (a0_2 : Int) (a0_3 : Int) (a1 : Int) (w_a0_0 : WStr a0_0) (w_a0_1 : WStr a0_1) (w_a0_2 : (WInt .i64) a0_2) (w_a0_3 : (WInt .i64) a0_3) (h0 : 0 ≤ a1) (h1 : a1 ≤ 1048576) : Sz (fun k => laws_szCapture.f a0_0 a0_1 a0_2 a0_3 a1) a1 (Fine a0_0 ∧ Fine a0_1 ∧ Fine a0_2 ∧ Fine a0_3) := by
  simp only [laws_szCapture.f]
  have u_a0_0 : a0_0.size ≤ 9223372036854775807 := w_a0_0
  have u_a0_1 : a0_1.size ≤ 9223372036854775807 := w_a0_1
  refine sz_if h0 (by omega) (by omega) (by omega) (by omega) fun b1 d1 e1 => ?_
  refine sz_if h0 (by omega) (by omega) (by omega) (by omega) fun b2 d2 e2 => ?_
  exact ⟨_, ev_some _, by omega, fun _ => (And.intro (show a0_0.size ≤ 1048576 by omega) (And.intro (show a0_1.size ≤ 1048576 by omega) (And.intro w_a0_2.i64 w_a0_3.i64)))⟩
theorem laws_szCaptureS_sz (l0 : List (S111)) (a1 : Int) (w_l0 : (WList wf111) l0) (h0 : 0 ≤ a1) (h1 : a1 ≤ 1048576) : Sz (fun k => laws_szCaptureS.f k l0 a1) a1 (Fine l0) := by
  simp only [laws_szCaptureS.f]
  have u_l0 : l0.length ≤ 9223372036854775807 := w_l0.1
  refine sz_if h0 (by omega) (by omega) (by omega) (by omega) fun b1 d1 e1 => ?_
  obtain ⟨v, hv, hle, hq⟩ := sz_loop laws_szCaptureS.l0 (fun k x n => laws_szCapture.f (x.f0) (x.f1) (x.f2) (x.f3) n) rd_T111 (fun x => Fine x) (fun k xs n i => by simp only [laws_szCaptureS.l0]) (fun xs i h => getD_get _ xs i h) l0 w_l0.1 (wrap64 (a1 - (l0.length : Int))) (by omega) (fun x hx m hm hm1 => by
    have w := w_l0.2 x hx
    exact sz_mono (laws_szCapture_sz x.f0 x.f1 x.f2 x.f3 m (show WStr x.f0 ∧ WStr x.f1 ∧ (WInt .i64) x.f2 ∧ (WInt .i64) x.f3 from w).1 (show WStr x.f0 ∧ WStr x.f1 ∧ (WInt .i64) x.f2 ∧ (WInt .i64) x.f3 from w).2.1 (show WStr x.f0 ∧ WStr x.f1 ∧ (WInt .i64) x.f2 ∧ (WInt .i64) x.f3 from w).2.2.1 (show WStr x.f0 ∧ WStr x.f1 ∧ (WInt .i64) x.f2 ∧ (WInt .i64) x.f3 from w).2.2.2 hm (by omega)) (fun ⟨g0, g1, g2, g3⟩ => (And.intro g0 (And.intro g1 (And.intro g2 g3)))))
  exact ⟨v, hv, by omega, fun h => Fine.list (by omega) (hq h)⟩
theorem laws_szMatch_sz (a0_0 : Int) (a0_1 : Int) (l0_2 : List (S111)) (a1 : Int) (w_a0_0 : (WInt .i64) a0_0) (w_a0_1 : (WInt .i64) a0_1) (w_l0_2 : (WList wf111) l0_2) (h0 : 0 ≤ a1) (h1 : a1 ≤ 1048576) : Sz (fun k => laws_szMatch.f k a0_0 a0_1 l0_2 a1) a1 (Fine a0_0 ∧ Fine a0_1 ∧ Fine l0_2) := by
  simp only [laws_szMatch.f]
  have u_l0_2 : l0_2.length ≤ 9223372036854775807 := w_l0_2.1
  refine sz_bind h0 (laws_szCaptureS_sz l0_2 a1 w_l0_2 (by omega) (by omega)) (fun t105 b1 d1 q1 => ?_)
  have g1_0 := q1
  exact ⟨_, ev_some _, by omega, fun _ => (And.intro w_a0_0.i64 (And.intro w_a0_1.i64 g1_0))⟩
theorem laws_toCapture_to (a0_0 : ByteArray) (a0_1 : ByteArray) (a0_2 : Int) (a0_3 : Int) (g_a0_0 : Fine a0_0) (g_a0_1 : Fine a0_1) (g_a0_2 : Fine a0_2) (g_a0_3 : Fine a0_3) : To (fun k => laws_toCapture.f a0_0 a0_1 a0_2 a0_3) := by
  simp only [laws_toCapture.f]
  exact to_some (And.intro g_a0_0 (And.intro g_a0_1 (And.intro g_a0_2 g_a0_3)))
theorem laws_toCaptureS_to (l0 : List (S111)) (g_l0 : Fine l0) : To (fun k => laws_toCaptureS.f k l0) := by
  simp only [laws_toCaptureS.f]
  refine to_if (by omega) (to_if (by have := g_l0.len; omega) ?_)
  exact to_loop laws_toCaptureS.l0 (fun k x => (laws_toCapture.f (x.f0) (x.f1) (x.f2) (x.f3)).bind fun bt113 => some (⟨bt113.1, bt113.2.1, bt113.2.2.1, bt113.2.2.2⟩ : S30)) rd_T111 (fun k xs ys i => by simp only [laws_toCaptureS.l0, Option.bind_assoc, Option.bind_some]) (fun xs i h => getD_get _ xs i h) l0 g_l0.len _ (fun x hx => by
    have g := g_l0.mem hx
    exact to_bind (laws_toCapture_to (x.f0) (x.f1) (x.f2) (x.f3) (show Fine x.f0 ∧ Fine x.f1 ∧ Fine x.f2 ∧ Fine x.f3 from g).1 (show Fine x.f0 ∧ Fine x.f1 ∧ Fine x.f2 ∧ Fine x.f3 from g).2.1 (show Fine x.f0 ∧ Fine x.f1 ∧ Fine x.f2 ∧ Fine x.f3 from g).2.2.1 (show Fine x.f0 ∧ Fine x.f1 ∧ Fine x.f2 ∧ Fine x.f3 from g).2.2.2) (fun bt113 g_bt113 => to_some (And.intro g_bt113.fst (And.intro g_bt113.snd.fst (And.intro g_bt113.snd.snd.fst g_bt113.snd.snd.snd)))))
theorem laws_toMatch_to (a0_0 : Int) (a0_1 : Int) (l0_2 : List (S111)) (g_a0_0 : Fine a0_0) (g_a0_1 : Fine a0_1) (g_l0_2 : Fine l0_2) : To (fun k => laws_toMatch.f k a0_0 a0_1 l0_2) := by
  simp only [laws_toMatch.f]
  refine to_bind (laws_toCaptureS_to l0_2 g_l0_2) (fun t121 g_t121 => ?_)
  exact to_some (And.intro g_a0_0 (And.intro g_a0_1 g_t121))
theorem laws_eqCapture_rf (a0_0 : ByteArray) (a0_1 : ByteArray) (a0_2 : Int) (a0_3 : Int) (g_a0_0 : Fine a0_0) (g_a0_1 : Fine a0_1) (g_a0_2 : Fine a0_2) (g_a0_3 : Fine a0_3) : Ev (fun k => laws_eqCapture.f a0_0 a0_1 a0_2 a0_3 a0_0 a0_1 a0_2 a0_3) true := by
  simp only [laws_eqCapture.f]
  refine ev_pos (by trivial) ?_
  refine ev_pos (by trivial) ?_
  refine ev_pos (by trivial) ?_
  refine ev_pos (by trivial) ?_
  exact ev_some _
theorem laws_eqCaptureS_rf (l0 : List (S30)) (g_l0 : Fine l0) : Ev (fun k => laws_eqCaptureS.f k l0 l0) true := by
  simp only [laws_eqCaptureS.f]
  refine ev_pos (by trivial) ?_
  exact eq_loop laws_eqCaptureS.l0 (fun k x y => laws_eqCapture.f (x.f0) (x.f1) (x.f2) (x.f3) (y.f0) (y.f1) (y.f2) (y.f3)) rd_T30 (fun k xs ys i => by simp only [laws_eqCaptureS.l0]) (fun xs i h => getD_get _ xs i h) l0 g_l0.len (fun x hx => by
    have g := g_l0.mem hx
    exact laws_eqCapture_rf x.f0 x.f1 x.f2 x.f3 (show Fine x.f0 ∧ Fine x.f1 ∧ Fine x.f2 ∧ Fine x.f3 from g).1 (show Fine x.f0 ∧ Fine x.f1 ∧ Fine x.f2 ∧ Fine x.f3 from g).2.1 (show Fine x.f0 ∧ Fine x.f1 ∧ Fine x.f2 ∧ Fine x.f3 from g).2.2.1 (show Fine x.f0 ∧ Fine x.f1 ∧ Fine x.f2 ∧ Fine x.f3 from g).2.2.2)
theorem laws_eqMatch_rf (a0_0 : Int) (a0_1 : Int) (l0_2 : List (S30)) (g_a0_0 : Fine a0_0) (g_a0_1 : Fine a0_1) (g_l0_2 : Fine l0_2) : Ev (fun k => laws_eqMatch.f k a0_0 a0_1 l0_2 a0_0 a0_1 l0_2) true := by
  simp only [laws_eqMatch.f]
  refine ev_pos (by trivial) ?_
  refine ev_pos (by trivial) ?_
  refine ev_bind (laws_eqCaptureS_rf l0_2 g_l0_2) ?_
  refine ev_pos (by trivial) ?_
  exact ev_some _
/-- The two functions agree. -/
def laws_FnExactReplaceMatch.Core : Prop := ∀ (a0 : ByteArray) (a1_0 : Int) (a1_1 : Int) (l1_2 : List (S30)) (a2 : ByteArray), Fine a0 → Fine a1_0 → Fine a1_1 → Fine l1_2 → Fine a2 → ∃ r, Ev (fun k => spec_ReplaceMatch.f a0 a1_0 a1_1 l1_2 a2) r ∧ Ev (fun k => impl_ReplaceMatch.f a0 a1_0 a1_1 l1_2 a2) r ∧ Fine r
theorem close (core : laws_FnExactReplaceMatch.Core) : laws_FnExactReplaceMatch.Pure := by
  intro x0 x1 x2 w_x0 w_x1 w_x2
  suffices hh : Ev (fun k => laws_FnExactReplaceMatch.f k x0 x1.f0 x1.f1 x1.f2 x2) true by
    obtain ⟨K, hK⟩ := hh
    exact ⟨K, hK K (Nat.le_refl _)⟩
  simp only [laws_FnExactReplaceMatch.f]
  refine ev_skip fun c1 => ?_
  have g_1 : Fine x0 := (show x0.size ≤ 1048576 by omega)
  refine ev_skip fun c2 => ?_
  have g_2 : Fine x2 := (show x2.size ≤ 1048576 by omega)
  obtain ⟨v3, e3, b3, q3⟩ := laws_szMatch_sz x1.f0 x1.f1 x1.f2 1048576 ((show (WInt .i64) x1.f0 ∧ (WInt .i64) x1.f1 ∧ (WList wf111) x1.f2 from w_x1).1) ((show (WInt .i64) x1.f0 ∧ (WInt .i64) x1.f1 ∧ (WList wf111) x1.f2 from w_x1).2.1) ((show (WInt .i64) x1.f0 ∧ (WInt .i64) x1.f1 ∧ (WList wf111) x1.f2 from w_x1).2.2) (by omega) (by omega)
  refine ev_bind e3 (ev_skip fun c3 => ?_)
  obtain ⟨g3_0, g3_1, g3_2⟩ := q3 (by omega)
  obtain ⟨v4, e4, g4⟩ := laws_toMatch_to x1.f0 x1.f1 x1.f2 g3_0 g3_1 g3_2
  refine ev_bind e4 ?_
  obtain ⟨r, es, ei, gr⟩ := core x0 v4.1 v4.2.1 v4.2.2 x2 g_1 (g4.fst) (g4.snd.fst) (g4.snd.snd) g_2
  refine ev_bind es ?_
  refine ev_bind e4 ?_
  refine ev_bind ei ?_
  have p0_ : Fine v4.1 := g4.fst
  have p1_ : Fine v4.2.1 := g4.snd.fst
  have p2_ : Fine v4.2.2 := g4.snd.snd
  have p3_ : Fine r.1 := gr.fst
  have p4_ : Fine r.2 := gr.snd
  repeat (first | exact ev_some _ | refine ev_pos trivial ?_ | refine ev_pos rfl ?_ | refine ev_neg (bne_ff _) ?_ | refine ev_neg Bool.false_ne_true ?_ | refine ev_neg id ?_ | refine ev_bind e4 ?_ | refine ev_bind (laws_eqCapture_rf _ _ _ _ (by assumption) (by assumption) (by assumption) (by assumption)) ?_ | refine ev_bind (laws_eqCaptureS_rf _ (by assumption)) ?_ | refine ev_bind (laws_eqMatch_rf _ _ _ (by assumption) (by assumption) (by assumption)) ?_ | (refine ev_shift ?_; simp only [laws_FnExactReplaceMatch.j0]))
end Go.Proofs.Ytcnganocdjcbdab.PureFnExactReplaceMatch
