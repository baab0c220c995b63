/- What the helpers of the law FnExactInstrText come to: budgets, copies, comparisons; no condition. -/
import Derived.Test.YtiikhelcecbjhaaDoorYInstrTextO
import Derived.Test.YtiikhelcecbjhaaDoorYItW3
namespace Go.Proofs.YtiikhelcecbjhaaDoor.PureFnExactInstrText
open Go.RowKit Go.Proofs.YtiikhelcecbjhaaDoorG Go.Proofs.YtiikhelcecbjhaaDoor.PFnExactInstrText Go.Proofs.YtiikhelcecbjhaaDoorW.PrintWords Go.Proofs.YtiikhelcecbjhaaDoorW.PrintLast Go.Proofs.YtiikhelcecbjhaaDoorW.PrintMore
set_option linter.unusedVariables false
set_option linter.unusedSimpArgs false

instance : FineC S23 := ⟨fun x => Fine x.f0 ∧ Fine x.f1 ∧ Fine x.f2⟩
instance : FineC S48 := ⟨fun x => Fine x.f0 ∧ Fine x.f1 ∧ Fine x.f2 ∧ Fine x.f3 ∧ Fine x.f4 ∧ Fine x.f5 ∧ Fine x.f6⟩
theorem laws_szInstr_sz (a0_0 : Int) (a0_1 : Int) (a0_2 : ByteArray) (a1 : Int) (w_a0_0 : (WInt .i64) a0_0) (w_a0_1 : (WInt .i64) a0_1) (w_a0_2 : WStr a0_2) (h0 : 0 ≤ a1) (h1 : a1 ≤ 1048576) : Sz (fun k => laws_szInstr.f a0_0 a0_1 a0_2 a1) a1 (Fine a0_0 ∧ Fine a0_1 ∧ Fine a0_2) := by
  simp only [laws_szInstr.f]
  have u_a0_2 : a0_2.size ≤ 9223372036854775807 := w_a0_2
  refine sz_if h0 (by omega) (by omega) (by omega) (by omega) fun b1 d1 e1 => ?_
  exact ⟨_, ev_some _, by omega, fun _ => (And.intro w_a0_0.i64 (And.intro w_a0_1.i64 (show a0_2.size ≤ 1048576 by omega)))⟩
theorem laws_toInstr_to (a0_0 : Int) (a0_1 : Int) (a0_2 : ByteArray) (g_a0_0 : Fine a0_0) (g_a0_1 : Fine a0_1) (g_a0_2 : Fine a0_2) : To (fun k => laws_toInstr.f a0_0 a0_1 a0_2) := by
  simp only [laws_toInstr.f]
  exact to_some (And.intro g_a0_0 (And.intro g_a0_1 g_a0_2))
/-- The two functions agree. -/
def laws_FnExactInstrText.Core : Prop := ∀ (a0_0 : Int) (a0_1 : Int) (a0_2 : ByteArray), Fine a0_0 → Fine a0_1 → Fine a0_2 → ∃ r, Ev (fun k => spec_InstrText.f k a0_0 a0_1 a0_2) r ∧ Ev (fun k => impl_InstrText.f k a0_0 a0_1 a0_2) r ∧ Fine r
theorem close (core : laws_FnExactInstrText.Core) : laws_FnExactInstrText.Pure := by
  intro x0 w_x0
  suffices hh : Ev (fun k => laws_FnExactInstrText.f k x0.f0 x0.f1 x0.f2) true by
    obtain ⟨K, hK⟩ := hh
    exact ⟨K, hK K (Nat.le_refl _)⟩
  simp only [laws_FnExactInstrText.f]
  obtain ⟨v1, e1, b1, q1⟩ := laws_szInstr_sz x0.f0 x0.f1 x0.f2 1048576 ((show (WInt .i64) x0.f0 ∧ (WInt .i64) x0.f1 ∧ WStr x0.f2 from w_x0).1) ((show (WInt .i64) x0.f0 ∧ (WInt .i64) x0.f1 ∧ WStr x0.f2 from w_x0).2.1) ((show (WInt .i64) x0.f0 ∧ (WInt .i64) x0.f1 ∧ WStr x0.f2 from w_x0).2.2) (by omega) (by omega)
  refine ev_bind e1 (ev_skip fun c1 => ?_)
  obtain ⟨g1_0, g1_1, g1_2⟩ := q1 (by omega)
  obtain ⟨v2, e2, g2⟩ := laws_toInstr_to x0.f0 x0.f1 x0.f2 g1_0 g1_1 g1_2
  refine ev_bind e2 ?_
  obtain ⟨r, es, ei, gr⟩ := core v2.1 v2.2.1 v2.2.2 (g2.fst) (g2.snd.fst) (g2.snd.snd)
  refine ev_bind es ?_
  refine ev_bind e2 ?_
  refine ev_bind ei ?_
  have p0_ : Fine v2.1 := g2.fst
  have p1_ : Fine v2.2.1 := g2.snd.fst
  have p2_ : Fine v2.2.2 := g2.snd.snd
  have p3_ : Fine r := gr
  repeat (first | exact ev_some _ | refine ev_pos trivial ?_ | refine ev_pos rfl ?_ | refine ev_neg (bne_ff _) ?_ | refine ev_neg Bool.false_ne_true ?_ | refine ev_neg id ?_ | refine ev_bind e2 ?_)
end Go.Proofs.YtiikhelcecbjhaaDoor.PureFnExactInstrText
