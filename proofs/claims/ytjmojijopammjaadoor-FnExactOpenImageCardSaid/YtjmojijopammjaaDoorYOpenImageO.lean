/- What the law FnExactOpenImage's arguments are, as plain values, and its plain statement; no condition. -/
import Derived.Test.YtjmojijopammjaaDoorYOiW2
import Derived.Test.YtjmojijopammjaaDoorYOiP0
import Derived.Test.YtjmojijopammjaaDoorYOiP4
import Derived.KernelRfl
namespace Go.Proofs.YtjmojijopammjaaDoor.PFnExactOpenImage
open Go.RowKit Go.Proofs.YtjmojijopammjaaDoorG Go.Proofs.YtjmojijopammjaaDoorW.PrintWords Go.Proofs.YtjmojijopammjaaDoorW.PrintLast Go.Proofs.YtjmojijopammjaaDoorW.PrintMore
set_option linter.unusedVariables false
def laws_FnExactOpenImage.Pure:Prop:=∀(x0:ByteArray),WStr x0→∃k,laws_FnExactOpenImage.f k x0=some true
end Go.Proofs.YtjmojijopammjaaDoor.PFnExactOpenImage
