/- What the law FnExactReadInstr's arguments are, as plain values, and its plain statement; no condition. -/
import Derived.Test.YtdihlgkcpooadaaDoorYRiW2
import Derived.Test.YtdihlgkcpooadaaDoorYRiP0
import Derived.Test.YtdihlgkcpooadaaDoorYRiP15
import Derived.KernelRfl
namespace Go.Proofs.YtdihlgkcpooadaaDoor.PFnExactReadInstr
open Go.RowKit Go.Proofs.YtdihlgkcpooadaaDoorG Go.Proofs.YtdihlgkcpooadaaDoorW.PrintWords Go.Proofs.YtdihlgkcpooadaaDoorW.PrintLast Go.Proofs.YtdihlgkcpooadaaDoorW.PrintMore
set_option linter.unusedVariables false
/-- The plain statement. -/
def laws_FnExactReadInstr.Pure : Prop := ∀ (x0 : ByteArray), WStr x0 → ∃ k, laws_FnExactReadInstr.f k x0 = some true
end Go.Proofs.YtdihlgkcpooadaaDoor.PFnExactReadInstr
