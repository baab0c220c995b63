/- What the helpers of the law FnExactValueText come to: budgets, copies, comparisons; no condition. -/
import Derived.Test.YtpbjagjknaglgaaDoorYValueTextO
import Derived.Test.YtpbjagjknaglgaaDoorYVtW2
namespace Go.Proofs.YtpbjagjknaglgaaDoor.PureFnExactValueText
open Go.RowKit Go.Proofs.YtpbjagjknaglgaaDoorG Go.Proofs.YtpbjagjknaglgaaDoor.PFnExactValueText Go.Proofs.YtpbjagjknaglgaaDoorW.PrintWords Go.Proofs.YtpbjagjknaglgaaDoorW.PrintLast Go.Proofs.YtpbjagjknaglgaaDoorW.PrintMore
set_option linter.unusedVariables false
set_option linter.unusedSimpArgs false

instance : FineC S51 := ⟨fun x => Fine x.f0 ∧ Fine x.f1 ∧ Fine x.f2 ∧ Fine x.f3⟩
theorem laws_szValue_sz (a0_0 : Int) (a0_1 : Int) (a0_2 : ByteArray) (a0_3 : Int) (a1 : Int) (w_a0_0 : (WInt .i64) a0_0) (w_a0_1 : (WInt .i64) a0_1) (w_a0_2 : WStr a0_2) (w_a0_3 : (WInt .i64) a0_3) (h0 : 0 ≤ a1) (h1 : a1 ≤ 1048576) : Sz (fun k => laws_szValue.f a0_0 a0_1 a0_2 a0_3 a1) a1 (Fine a0_0 ∧ Fine a0_1 ∧ Fine a0_2 ∧ Fine a0_3) := by
  simp only [laws_szValue.f]
  have u_a0_2 : a0_2.size ≤ 9223372036854775807 := w_a0_2
  refine sz_if h0 (by omega) (by omega) (by omega) (by omega) fun b1 d1 e1 => ?_
  exact ⟨_, ev_some _, by omega, fun _ => (And.intro w_a0_0.i64 (And.intro w_a0_1.i64 (And.intro (show a0_2.size ≤ 1048576 by omega) w_a0_3.i64)))⟩
theorem laws_toValue_to (a0_0 : Int) (a0_1 : Int) (a0_2 : ByteArray) (a0_3 : Int) (g_a0_0 : Fine a0_0) (g_a0_1 : Fine a0_1) (g_a0_2 : Fine a0_2) (g_a0_3 : Fine a0_3) : To (fun k => laws_toValue.f a0_0 a0_1 a0_2 a0_3) := by
  simp only [laws_toValue.f]
  exact to_some (And.intro g_a0_0 (And.intro g_a0_1 (And.intro g_a0_2 g_a0_3)))
/-- The two functions agree. -/
def laws_FnExactValueText.Core : Prop := ∀ (a0_0 : Int) (a0_1 : Int) (a0_2 : ByteArray) (a0_3 : Int), Fine a0_0 → Fine a0_1 → Fine a0_2 → Fine a0_3 → ∃ r, Ev (fun k => spec_ValueText.f k a0_0 a0_1 a0_2 a0_3) r ∧ Ev (fun k => impl_ValueText.f k a0_0 a0_1 a0_2 a0_3) r ∧ Fine r
theorem close (core : laws_FnExactValueText.Core) : laws_FnExactValueText.Pure := by
  intro x0 w_x0
  suffices hh : Ev (fun k => laws_FnExactValueText.f k x0.f0 x0.f1 x0.f2 x0.f3) true by
    obtain ⟨K, hK⟩ := hh
    exact ⟨K, hK K (Nat.le_refl _)⟩
  simp only [laws_FnExactValueText.f]
  obtain ⟨v1, e1, b1, q1⟩ := laws_szValue_sz x0.f0 x0.f1 x0.f2 x0.f3 1048576 ((show (WInt .i64) x0.f0 ∧ (WInt .i64) x0.f1 ∧ WStr x0.f2 ∧ (WInt .i64) x0.f3 from w_x0).1) ((show (WInt .i64) x0.f0 ∧ (WInt .i64) x0.f1 ∧ WStr x0.f2 ∧ (WInt .i64) x0.f3 from w_x0).2.1) ((show (WInt .i64) x0.f0 ∧ (WInt .i64) x0.f1 ∧ WStr x0.f2 ∧ (WInt .i64) x0.f3 from w_x0).2.2.1) ((show (WInt .i64) x0.f0 ∧ (WInt .i64) x0.f1 ∧ WStr x0.f2 ∧ (WInt .i64) x0.f3 from w_x0).2.2.2) (by omega) (by omega)
  refine ev_bind e1 (ev_skip fun c1 => ?_)
  obtain ⟨g1_0, g1_1, g1_2, g1_3⟩ := q1 (by omega)
  obtain ⟨v2, e2, g2⟩ := laws_toValue_to x0.f0 x0.f1 x0.f2 x0.f3 g1_0 g1_1 g1_2 g1_3
  refine ev_bind e2 ?_
  obtain ⟨r, es, ei, gr⟩ := core v2.1 v2.2.1 v2.2.2.1 v2.2.2.2 (g2.fst) (g2.snd.fst) (g2.snd.snd.fst) (g2.snd.snd.snd)
  refine ev_bind es ?_
  refine ev_bind e2 ?_
  refine ev_bind ei ?_
  have p0_ : Fine v2.1 := g2.fst
  have p1_ : Fine v2.2.1 := g2.snd.fst
  have p2_ : Fine v2.2.2.1 := g2.snd.snd.fst
  have p3_ : Fine v2.2.2.2 := g2.snd.snd.snd
  have p4_ : Fine r := gr
  repeat (first | exact ev_some _ | refine ev_pos trivial ?_ | refine ev_pos rfl ?_ | refine ev_neg (bne_ff _) ?_ | refine ev_neg Bool.false_ne_true ?_ | refine ev_neg id ?_ | refine ev_bind e2 ?_)
end Go.Proofs.YtpbjagjknaglgaaDoor.PureFnExactValueText
