/- What the law FnExactLogicalLines's arguments are, as plain values, and its plain statement; no condition. -/
import Derived.Test.YtjmojijopammjaaDoorYLlW3
import Derived.Test.YtjmojijopammjaaDoorYLlP0
import Derived.Test.YtjmojijopammjaaDoorYLlP10
import Derived.KernelRfl
namespace Go.Proofs.YtjmojijopammjaaDoor.PFnExactLogicalLines
open Go.RowKit Go.Proofs.YtjmojijopammjaaDoorG Go.Proofs.YtjmojijopammjaaDoorW.PrintWords Go.Proofs.YtjmojijopammjaaDoorW.PrintLast Go.Proofs.YtjmojijopammjaaDoorW.PrintMore
set_option linter.unusedVariables false
def laws_FnExactLogicalLines.Pure:Prop:=∀(x0:ByteArray),WStr x0→∃k,laws_FnExactLogicalLines.f k x0=some true
end Go.Proofs.YtjmojijopammjaaDoor.PFnExactLogicalLines
