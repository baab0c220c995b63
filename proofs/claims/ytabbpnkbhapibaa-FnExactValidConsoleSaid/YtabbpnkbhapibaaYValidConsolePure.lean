/- The program's ValidConsole returns what the reference's returns, for every console; no condition. -/
import Derived.Test.YtabbpnkbhapibaaYValidConsoleA
import Derived.Test.YtabbpnkbhapibaaYValidConsoleVConsoles
namespace Go.Proofs.Ytabbpnkbhapibaa.Pure
open Go.Proofs.Ytabbpnkbhapibaa.PureFnExactValidConsole Go.RowKit Go.Proofs.YtabbpnkbhapibaaG Go.Proofs.Ytabbpnkbhapibaa.PFnExactValidConsole Go.Proofs.YtabbpnkbhapibaaW.PrintWords Go.Proofs.YtabbpnkbhapibaaW.PrintLast Go.Proofs.YtabbpnkbhapibaaW.PrintMore

theorem smallF_of {l : List S163} (h : Fine l) : smallF l := by
  intro x hx
  have f : Fine x.f0 ∧ Fine x.f1 ∧ Fine x.f2 ∧ Fine x.f3 := h.mem hx
  exact f.2.1.len
theorem core : laws_FnExactValidConsole.Core := by
  intro a b c d e ga _ gc gd ge
  refine ⟨consV ⟨a, b, c, d, e⟩, ?_, impl_ValidConsole_ev ⟨a, b, c, d, e⟩ ga.len gc.len gd.len ge.len (smallF_of gd), Fine.bool _⟩
  simp only [spec_ValidConsole.f]
  exact ev_bind (spec_l21Ok_ev ⟨a, b, c, d, e⟩ ga.len gc.len gd.len ge.len (smallF_of gd)) (ev_some _)
theorem FnExactValidConsole : laws_FnExactValidConsole.Pure := close core
end Go.Proofs.Ytabbpnkbhapibaa.Pure
