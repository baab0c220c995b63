/- What the law FnTextOps's arguments are, as plain values, and its plain statement; no condition. -/
import Derived.Test.YtjmojijopammjaaDoorYToW2
import Derived.Test.YtjmojijopammjaaDoorYToP0
import Derived.Test.YtjmojijopammjaaDoorYToP5
import Derived.KernelRfl
namespace Go.Proofs.YtjmojijopammjaaDoor.PFnTextOps
open Go.RowKit Go.Proofs.YtjmojijopammjaaDoorG Go.Proofs.YtjmojijopammjaaDoorW.PrintWords Go.Proofs.YtjmojijopammjaaDoorW.PrintLast Go.Proofs.YtjmojijopammjaaDoorW.PrintMore
set_option linter.unusedVariables false
theorem cells5:Tryd.prog.cellsOf 5=1:=by kernel_rfl
def laws_FnTextOps.Pure:Prop:=∀(x0:List Int),(WList (WInt .u8)) x0→∃k,laws_FnTextOps.f k x0=some true
end Go.Proofs.YtjmojijopammjaaDoor.PFnTextOps
