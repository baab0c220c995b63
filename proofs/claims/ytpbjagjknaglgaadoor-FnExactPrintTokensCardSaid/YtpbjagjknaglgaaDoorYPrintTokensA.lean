/- What the helpers of the law FnExactPrintTokens come to: budgets, copies, comparisons; no condition. -/
import Derived.Test.YtpbjagjknaglgaaDoorYPrintTokensO
import Derived.Test.YtpbjagjknaglgaaDoorYPtW3
namespace Go.Proofs.YtpbjagjknaglgaaDoor.PureFnExactPrintTokens
open Go.RowKit Go.Proofs.YtpbjagjknaglgaaDoorG Go.Proofs.YtpbjagjknaglgaaDoor.PFnExactPrintTokens Go.Proofs.YtpbjagjknaglgaaDoorW.PrintWords Go.Proofs.YtpbjagjknaglgaaDoorW.PrintLast Go.Proofs.YtpbjagjknaglgaaDoorW.PrintMore
set_option linter.unusedVariables false
set_option linter.unusedSimpArgs false

instance : FineC S23 := ⟨fun x => Fine x.f0 ∧ Fine x.f1 ∧ Fine x.f2 ∧ Fine x.f3 ∧ Fine x.f4⟩
instance : FineC S26 := ⟨fun x => Fine x.f0 ∧ Fine x.f1 ∧ Fine x.f2 ∧ Fine x.f3 ∧ Fine x.f4⟩
theorem laws_szToken_sz (a0_0 : Int) (a0_1 : Int) (a0_2 : ByteArray) (a0_3 : Bool) (a0_4 : Bool) (a1 : Int) (w_a0_0 : (WInt .i64) a0_0) (w_a0_1 : (WInt .i64) a0_1) (w_a0_2 : WStr a0_2) (w_a0_3 : (fun _ => True) a0_3) (w_a0_4 : (fun _ => True) a0_4) (h0 : 0 ≤ a1) (h1 : a1 ≤ 1048576) : Sz (fun k => laws_szToken.f a0_0 a0_1 a0_2 a0_3 a0_4 a1) a1 (Fine a0_0 ∧ Fine a0_1 ∧ Fine a0_2 ∧ Fine a0_3 ∧ Fine a0_4) := by
  simp only [laws_szToken.f]
  have u_a0_2 : a0_2.size ≤ 9223372036854775807 := w_a0_2
  refine sz_if h0 (by omega) (by omega) (by omega) (by omega) fun b1 d1 e1 => ?_
  exact ⟨_, ev_some _, by omega, fun _ => (And.intro w_a0_0.i64 (And.intro w_a0_1.i64 (And.intro (show a0_2.size ≤ 1048576 by omega) (And.intro trivial trivial))))⟩
theorem laws_szTokenS_sz (l0 : List (S23)) (a1 : Int) (w_l0 : (WList wf23) l0) (h0 : 0 ≤ a1) (h1 : a1 ≤ 1048576) : Sz (fun k => laws_szTokenS.f k l0 a1) a1 (Fine l0) := by
  simp only [laws_szTokenS.f]
  have u_l0 : l0.length ≤ 9223372036854775807 := w_l0.1
  refine sz_if h0 (by omega) (by omega) (by omega) (by omega) fun b1 d1 e1 => ?_
  obtain ⟨v, hv, hle, hq⟩ := sz_loop laws_szTokenS.l0 (fun k x n => laws_szToken.f (x.f0) (x.f1) (x.f2) (x.f3) (x.f4) n) rd_T23 (fun x => Fine x) (fun k xs n i => by simp only [laws_szTokenS.l0]) (fun xs i h => getD_get _ xs i h) l0 w_l0.1 (wrap64 (a1 - (l0.length : Int))) (by omega) (fun x hx m hm hm1 => by
    have w := w_l0.2 x hx
    exact sz_mono (laws_szToken_sz x.f0 x.f1 x.f2 x.f3 x.f4 m (show (WInt .i64) x.f0 ∧ (WInt .i64) x.f1 ∧ WStr x.f2 ∧ (fun _ => True) x.f3 ∧ (fun _ => True) x.f4 from w).1 (show (WInt .i64) x.f0 ∧ (WInt .i64) x.f1 ∧ WStr x.f2 ∧ (fun _ => True) x.f3 ∧ (fun _ => True) x.f4 from w).2.1 (show (WInt .i64) x.f0 ∧ (WInt .i64) x.f1 ∧ WStr x.f2 ∧ (fun _ => True) x.f3 ∧ (fun _ => True) x.f4 from w).2.2.1 (show (WInt .i64) x.f0 ∧ (WInt .i64) x.f1 ∧ WStr x.f2 ∧ (fun _ => True) x.f3 ∧ (fun _ => True) x.f4 from w).2.2.2.1 (show (WInt .i64) x.f0 ∧ (WInt .i64) x.f1 ∧ WStr x.f2 ∧ (fun _ => True) x.f3 ∧ (fun _ => True) x.f4 from w).2.2.2.2 hm (by omega)) (fun ⟨g0, g1, g2, g3, g4⟩ => (And.intro g0 (And.intro g1 (And.intro g2 (And.intro g3 g4))))))
  exact ⟨v, hv, by omega, fun h => Fine.list (by omega) (hq h)⟩
theorem laws_toToken_to (a0_0 : Int) (a0_1 : Int) (a0_2 : ByteArray) (a0_3 : Bool) (a0_4 : Bool) (g_a0_0 : Fine a0_0) (g_a0_1 : Fine a0_1) (g_a0_2 : Fine a0_2) (g_a0_3 : Fine a0_3) (g_a0_4 : Fine a0_4) : To (fun k => laws_toToken.f a0_0 a0_1 a0_2 a0_3 a0_4) := by
  simp only [laws_toToken.f]
  exact to_some (And.intro g_a0_0 (And.intro g_a0_1 (And.intro g_a0_2 (And.intro g_a0_3 g_a0_4))))
theorem laws_toTokenS_to (l0 : List (S23)) (g_l0 : Fine l0) : To (fun k => laws_toTokenS.f k l0) := by
  simp only [laws_toTokenS.f]
  refine to_if (by omega) (to_if (by have := g_l0.len; omega) ?_)
  exact to_loop laws_toTokenS.l0 (fun k x => (laws_toToken.f (x.f0) (x.f1) (x.f2) (x.f3) (x.f4)).bind fun bt111 => some (⟨bt111.1, bt111.2.1, bt111.2.2.1, bt111.2.2.2.1, bt111.2.2.2.2⟩ : S26)) rd_T23 (fun k xs ys i => by simp only [laws_toTokenS.l0, Option.bind_assoc, Option.bind_some]) (fun xs i h => getD_get _ xs i h) l0 g_l0.len _ (fun x hx => by
    have g := g_l0.mem hx
    exact to_bind (laws_toToken_to (x.f0) (x.f1) (x.f2) (x.f3) (x.f4) (show Fine x.f0 ∧ Fine x.f1 ∧ Fine x.f2 ∧ Fine x.f3 ∧ Fine x.f4 from g).1 (show Fine x.f0 ∧ Fine x.f1 ∧ Fine x.f2 ∧ Fine x.f3 ∧ Fine x.f4 from g).2.1 (show Fine x.f0 ∧ Fine x.f1 ∧ Fine x.f2 ∧ Fine x.f3 ∧ Fine x.f4 from g).2.2.1 (show Fine x.f0 ∧ Fine x.f1 ∧ Fine x.f2 ∧ Fine x.f3 ∧ Fine x.f4 from g).2.2.2.1 (show Fine x.f0 ∧ Fine x.f1 ∧ Fine x.f2 ∧ Fine x.f3 ∧ Fine x.f4 from g).2.2.2.2) (fun bt111 g_bt111 => to_some (And.intro g_bt111.fst (And.intro g_bt111.snd.fst (And.intro g_bt111.snd.snd.fst (And.intro g_bt111.snd.snd.snd.fst g_bt111.snd.snd.snd.snd))))))
theorem laws_eqToken_rf (a0_0 : Int) (a0_1 : Int) (a0_2 : ByteArray) (a0_3 : Bool) (a0_4 : Bool) (g_a0_0 : Fine a0_0) (g_a0_1 : Fine a0_1) (g_a0_2 : Fine a0_2) (g_a0_3 : Fine a0_3) (g_a0_4 : Fine a0_4) : Ev (fun k => laws_eqToken.f a0_0 a0_1 a0_2 a0_3 a0_4 a0_0 a0_1 a0_2 a0_3 a0_4) true := by
  simp only [laws_eqToken.f]
  refine ev_pos (by trivial) ?_
  refine ev_pos (by trivial) ?_
  refine ev_pos (by trivial) ?_
  refine ev_neg (by simp) ?_
  refine ev_neg (by simp) ?_
  exact ev_some _
theorem laws_eqTokenS_rf (l0 : List (S26)) (g_l0 : Fine l0) : Ev (fun k => laws_eqTokenS.f k l0 l0) true := by
  simp only [laws_eqTokenS.f]
  refine ev_pos (by trivial) ?_
  exact eq_loop laws_eqTokenS.l0 (fun k x y => laws_eqToken.f (x.f0) (x.f1) (x.f2) (x.f3) (x.f4) (y.f0) (y.f1) (y.f2) (y.f3) (y.f4)) rd_T26 (fun k xs ys i => by simp only [laws_eqTokenS.l0]) (fun xs i h => getD_get _ xs i h) l0 g_l0.len (fun x hx => by
    have g := g_l0.mem hx
    exact laws_eqToken_rf x.f0 x.f1 x.f2 x.f3 x.f4 (show Fine x.f0 ∧ Fine x.f1 ∧ Fine x.f2 ∧ Fine x.f3 ∧ Fine x.f4 from g).1 (show Fine x.f0 ∧ Fine x.f1 ∧ Fine x.f2 ∧ Fine x.f3 ∧ Fine x.f4 from g).2.1 (show Fine x.f0 ∧ Fine x.f1 ∧ Fine x.f2 ∧ Fine x.f3 ∧ Fine x.f4 from g).2.2.1 (show Fine x.f0 ∧ Fine x.f1 ∧ Fine x.f2 ∧ Fine x.f3 ∧ Fine x.f4 from g).2.2.2.1 (show Fine x.f0 ∧ Fine x.f1 ∧ Fine x.f2 ∧ Fine x.f3 ∧ Fine x.f4 from g).2.2.2.2)
/-- The two functions agree. -/
def laws_FnExactPrintTokens.Core : Prop := ∀ (l0 : List (S26)), Fine l0 → ∃ r, Ev (fun k => spec_PrintTokens.f k l0) r ∧ Ev (fun k => impl_PrintTokens.f k l0) r ∧ Fine r
theorem close (core : laws_FnExactPrintTokens.Core) : laws_FnExactPrintTokens.Pure := by
  intro x0 w_x0
  suffices hh : Ev (fun k => laws_FnExactPrintTokens.f k x0) true by
    obtain ⟨K, hK⟩ := hh
    exact ⟨K, hK K (Nat.le_refl _)⟩
  simp only [laws_FnExactPrintTokens.f]
  obtain ⟨v1, e1, b1, q1⟩ := laws_szTokenS_sz x0 1048576 (w_x0) (by omega) (by omega)
  refine ev_bind e1 (ev_skip fun c1 => ?_)
  obtain g1_0 := q1 (by omega)
  obtain ⟨v2, e2, g2⟩ := laws_toTokenS_to x0 g1_0
  refine ev_bind e2 ?_
  obtain ⟨r, es, ei, gr⟩ := core v2 g2
  refine ev_bind es ?_
  refine ev_bind e2 ?_
  refine ev_bind ei ?_
  have p0_ : Fine v2 := g2
  have p1_ : Fine r := gr
  repeat (first | exact ev_some _ | refine ev_pos trivial ?_ | refine ev_pos rfl ?_ | refine ev_neg (bne_ff _) ?_ | refine ev_neg Bool.false_ne_true ?_ | refine ev_neg id ?_ | refine ev_bind e2 ?_ | refine ev_bind (laws_eqToken_rf _ _ _ _ _ (by assumption) (by assumption) (by assumption) (by assumption) (by assumption)) ?_ | refine ev_bind (laws_eqTokenS_rf _ (by assumption)) ?_)
end Go.Proofs.YtpbjagjknaglgaaDoor.PureFnExactPrintTokens
