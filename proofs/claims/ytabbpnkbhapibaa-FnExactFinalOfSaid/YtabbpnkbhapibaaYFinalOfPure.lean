/- The program's FinalOf returns what the reference's returns, for every list of assignments; no condition. -/
import Derived.Test.YtabbpnkbhapibaaYFinalOfA
import Derived.Test.YtabbpnkbhapibaaYFinalOfVFinals
namespace Go.Proofs.Ytabbpnkbhapibaa.Pure
open Go.Proofs.Ytabbpnkbhapibaa.PureFnExactFinalOf Go.RowKit Go.Proofs.YtabbpnkbhapibaaG Go.Proofs.Ytabbpnkbhapibaa.PFnExactFinalOf Go.Proofs.YtabbpnkbhapibaaW.PrintWords Go.Proofs.YtabbpnkbhapibaaW.PrintLast Go.Proofs.YtabbpnkbhapibaaW.PrintMore

theorem core : laws_FnExactFinalOf.Core := by
  intro l gl
  refine ⟨finalF l, spec_FinalOf_ev l gl.len, impl_FinalOf_ev l gl.len, Fine.list ?_ ?_⟩
  · have := foldF_len l []
    have := gl.len
    simp only [finalF, List.length_nil] at *
    omega
  · intro a ha
    rcases foldF_mem l [] a ha with r | r
    · cases r
    · exact gl.mem r
theorem FnExactFinalOf : laws_FnExactFinalOf.Pure := close core
end Go.Proofs.Ytabbpnkbhapibaa.Pure
