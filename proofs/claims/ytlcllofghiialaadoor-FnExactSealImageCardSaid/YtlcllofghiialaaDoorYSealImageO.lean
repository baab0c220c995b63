/- What the law FnExactSealImage's arguments are, as plain values, and its plain statement; no condition. -/
import Derived.Test.YtlcllofghiialaaDoorYSiW2
import Derived.Test.YtlcllofghiialaaDoorYSiP0
import Derived.Test.YtlcllofghiialaaDoorYSiP2
import Derived.KernelRfl
namespace Go.Proofs.YtlcllofghiialaaDoor.PFnExactSealImage
open Go.RowKit Go.Proofs.YtlcllofghiialaaDoorG Go.Proofs.YtlcllofghiialaaDoorW.PrintWords Go.Proofs.YtlcllofghiialaaDoorW.PrintLast Go.Proofs.YtlcllofghiialaaDoorW.PrintMore
set_option linter.unusedVariables false
/-- The plain statement. -/
def laws_FnExactSealImage.Pure : Prop := ∀ (x0 : ByteArray), WStr x0 → ∃ k, laws_FnExactSealImage.f k x0 = some true
end Go.Proofs.YtlcllofghiialaaDoor.PFnExactSealImage
