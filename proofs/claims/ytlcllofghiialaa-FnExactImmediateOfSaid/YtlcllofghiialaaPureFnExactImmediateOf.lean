/- The program's ImmediateOf returns what the reference's returns, for every match: both collect the same captures in the same order; no condition. -/
import Derived.Test.YtlcllofghiialaaVFnExactImmediateOfCaptures
namespace Go.Proofs.Ytlcllofghiialaa.Pure
open Go.Proofs.Ytlcllofghiialaa.PureFnExactImmediateOf Go.RowKit Go.Proofs.YtlcllofghiialaaG Go.Proofs.Ytlcllofghiialaa.PFnExactImmediateOf Go.Proofs.YtlcllofghiialaaW.PrintWords Go.Proofs.YtlcllofghiialaaW.PrintLast Go.Proofs.YtlcllofghiialaaW.PrintMore

theorem core : laws_FnExactImmediateOf.Core := by
  intro a b l _ _ g
  exact ⟨_, spec_ImmediateOf_ev a b l g.len, impl_ImmediateOf_ev a b l g.len, fine_imm l g⟩
theorem FnExactImmediateOf : laws_FnExactImmediateOf.Pure := close core
end Go.Proofs.Ytlcllofghiialaa.Pure
