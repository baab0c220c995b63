/- The program's ValidInstr returns what the reference's returns, for every instruction: both ask the kind, the number's range and the text of its form; no condition. -/
import Derived.Test.YtabbpnkbhapibaaYValidInstrA
import Derived.Test.YtabbpnkbhapibaaYValidInstrVValues
import Derived.Test.YtabbpnkbhapibaaYValidInstrVQuotes
import Derived.Test.YtabbpnkbhapibaaYValidInstrVInstrs
namespace Go.Proofs.Ytabbpnkbhapibaa.Pure
open Go.Proofs.Ytabbpnkbhapibaa.PureFnExactValidInstr Go.RowKit Go.Proofs.YtabbpnkbhapibaaG Go.Proofs.Ytabbpnkbhapibaa.PFnExactValidInstr Go.Proofs.YtabbpnkbhapibaaW.PrintWords Go.Proofs.YtabbpnkbhapibaaW.PrintLast Go.Proofs.YtabbpnkbhapibaaW.PrintMore

theorem core : laws_FnExactValidInstr.Core := by
  intro k n t g0 g1 g2
  obtain ⟨b, hs, hi, _⟩ := ValidInstr_same k n t
  exact ⟨b, hs, hi, trivial⟩
theorem FnExactValidInstr : laws_FnExactValidInstr.Pure := close core
end Go.Proofs.Ytabbpnkbhapibaa.Pure
