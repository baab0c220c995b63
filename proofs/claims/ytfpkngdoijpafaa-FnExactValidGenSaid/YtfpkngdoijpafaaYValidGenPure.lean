/- The program's ValidGen returns what the reference's returns, for every expression: both ask the form of each node and count the nodes; no condition. -/
import Derived.Test.YtfpkngdoijpafaaYValidGenO
import Derived.Test.YtfpkngdoijpafaaYValidGenVGens
import Derived.Test.YtfpkngdoijpafaaYValidGenVValues
import Derived.Test.YtfpkngdoijpafaaYValidGenVGenForms
namespace Go.Proofs.Ytfpkngdoijpafaa.Pure
open Go.Proofs.Ytfpkngdoijpafaa.PureFnExactValidGen Go.RowKit Go.Proofs.YtfpkngdoijpafaaG Go.Proofs.Ytfpkngdoijpafaa.PFnExactValidGen Go.Proofs.YtfpkngdoijpafaaW.PrintWords Go.Proofs.YtfpkngdoijpafaaW.PrintLast Go.Proofs.YtfpkngdoijpafaaW.PrintMore

theorem FnExactValidGen : laws_FnExactValidGen.Pure := by
  intro x0 w0
  suffices hh : Ev (fun k => laws_FnExactValidGen.f k x0.f0 x0.f1 x0.f2 x0.f3.f0 x0.f3.f1 x0.f3.f2 x0.f3.f3 x0.f4) true by
    obtain ⟨K, hK⟩ := hh
    exact ⟨K, hK K (Nat.le_refl _)⟩
  simp only [laws_FnExactValidGen.f, spec_ValidGen.f]
  obtain ⟨t1, e1, b1, q1⟩ := sz_gen x0 w0 1048576 (by omega) (by omega)
  refine ev_bind e1 (ev_skip fun c1 => ?_)
  obtain ⟨⟨a0, a1, a2, ⟨a3, a4, a5, a6⟩, a7⟩, h0, s0⟩ := to_gen _ x0 (q1 (by omega))
  have hs := spec_ok_ev _ (by decide) _ s0
  have hi := impl_ok_ev _ _ s0
  refine ev_bind h0 (ev_bind (ev_bind hs (ev_some _)) ?_)
  refine ev_bind h0 (ev_bind hi (ev_neg (bne_ff _) ?_))
  exact ev_bind h0 (ev_bind (eq_gen _ _ s0) (ev_pos rfl (ev_some _)))
end Go.Proofs.Ytfpkngdoijpafaa.Pure
