/- The program's IsPureGen returns what the reference's returns, for every expression: both ask whether it is valid and whether a node changes something; no condition. -/
import Derived.Test.YtfpkngdoijpafaaYIsPureGenO
import Derived.Test.YtfpkngdoijpafaaYIsPureGenVGens
import Derived.Test.YtfpkngdoijpafaaYIsPureGenVValues
import Derived.Test.YtfpkngdoijpafaaYIsPureGenVGenForms
namespace Go.Proofs.Ytfpkngdoijpafaa.Pure
open Go.Proofs.Ytfpkngdoijpafaa.PureFnExactIsPureGen Go.RowKit Go.Proofs.YtfpkngdoijpafaaG Go.Proofs.Ytfpkngdoijpafaa.PFnExactValidGen Go.Proofs.YtfpkngdoijpafaaW.PrintWords Go.Proofs.YtfpkngdoijpafaaW.PrintLast Go.Proofs.YtfpkngdoijpafaaW.PrintMore

theorem FnExactIsPureGen : laws_FnExactIsPureGen.Pure := by
  intro x0 w0
  suffices hh : Ev (fun k => laws_FnExactIsPureGen.f k x0.f0 x0.f1 x0.f2 x0.f3.f0 x0.f3.f1 x0.f3.f2 x0.f3.f3 x0.f4) true by
    obtain ⟨K, hK⟩ := hh
    exact ⟨K, hK K (Nat.le_refl _)⟩
  simp only [laws_FnExactIsPureGen.f, spec_IsPureGen.f, impl_IsPureGen.f]
  obtain ⟨t1, e1, b1, q1⟩ := sz_gen x0 w0 1048576 (by omega) (by omega)
  refine ev_bind e1 (ev_skip fun c1 => ?_)
  obtain ⟨⟨a0, a1, a2, ⟨a3, a4, a5, a6⟩, a7⟩, h0, s0⟩ := to_gen _ x0 (q1 (by omega))
  have hs := spec_ok_ev _ (by decide) _ s0
  have hi := impl_ok_ev _ _ s0
  have ps := spec_pure_ev _ _ s0
  have pi := impl_pure_ev _ _ s0
  have hb : ∃ b : Bool, Ev (fun k => (spec_l22Ok.f k [⟨a0, a1, a2, ⟨a3, a4, a5, a6⟩, a7⟩]).bind fun t => if t = true then (spec_l22Pure.f k [⟨a0, a1, a2, ⟨a3, a4, a5, a6⟩, a7⟩]).bind fun u => some u else some false) b ∧
      Ev (fun k => (impl_ValidGen.f k a0 a1 a2 a3 a4 a5 a6 a7).bind fun t => if t = true then (impl_Gen_isPure.f k a0 a1 a2 a3 a4 a5 a6 a7).bind fun u => some u else some false) b := by
    cases hg : goodT _ (⟨a0, a1, a2, ⟨a3, a4, a5, a6⟩, a7⟩ : S32) with
    | false => rw [hg] at hs hi; exact ⟨false, ev_bind hs (ev_neg Bool.false_ne_true (ev_some _)), ev_bind hi (ev_neg Bool.false_ne_true (ev_some _))⟩
    | true => rw [hg] at hs hi; exact ⟨_, ev_bind hs (ev_pos rfl (ev_bind ps (ev_some _))), ev_bind hi (ev_pos rfl (ev_bind pi (ev_some _)))⟩
  obtain ⟨b, hs', hi'⟩ := hb
  refine ev_bind h0 (ev_bind hs' ?_)
  refine ev_bind h0 (ev_bind hi' (ev_neg (bne_ff _) ?_))
  exact ev_bind h0 (ev_bind (eq_gen _ _ s0) (ev_pos rfl (ev_some _)))
end Go.Proofs.Ytfpkngdoijpafaa.Pure
