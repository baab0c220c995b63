/- The program's AssignmentsOf returns what the reference's returns, for every match: both collect the same captures in the same order; no condition. -/
import Derived.Test.YtlcllofghiialaaVFnExactAssignmentsOfCaptures
namespace Go.Proofs.Ytlcllofghiialaa.Pure
open Go.Proofs.Ytlcllofghiialaa.PureFnExactAssignmentsOf Go.RowKit Go.Proofs.YtlcllofghiialaaG Go.Proofs.Ytlcllofghiialaa.PFnExactAssignmentsOf Go.Proofs.YtlcllofghiialaaW.PrintWords Go.Proofs.YtlcllofghiialaaW.PrintLast Go.Proofs.YtlcllofghiialaaW.PrintMore

theorem core : laws_FnExactAssignmentsOf.Core := by
  intro a b l _ _ g
  have h := flatN_two l.length (immF l) (condF l) (fun i _ => both_len l i)
  have hl := g.len
  refine ⟨_, spec_AssignmentsOf_ev a b l g.len, impl_AssignmentsOf_ev a b l g.len, Fine.list (by rw [List.length_append]; omega) (fun y hy => ?_)⟩
  rcases List.mem_append.1 hy with h | h
  · exact (fine_imm l g).mem h
  · exact fine_cond l g y h
theorem FnExactAssignmentsOf : laws_FnExactAssignmentsOf.Pure := close core
end Go.Proofs.Ytlcllofghiialaa.Pure
