/- What the law FnExactFieldsText's arguments are, as plain values, and its plain statement; no condition. -/
import Derived.Test.YtjmojijopammjaaDoorYCtW3
import Derived.Test.YtjmojijopammjaaDoorYCtP0
import Derived.Test.YtjmojijopammjaaDoorYCtP20
import Derived.KernelRfl
namespace Go.Proofs.YtjmojijopammjaaDoor.PFnExactCaptureText
open Go.RowKit Go.Proofs.YtjmojijopammjaaDoorG Go.Proofs.YtjmojijopammjaaDoorW.PrintWords Go.Proofs.YtjmojijopammjaaDoorW.PrintLast Go.Proofs.YtjmojijopammjaaDoorW.PrintMore
set_option linter.unusedVariables false
theorem cells2:Tryd.prog.cellsOf 2=1:=by kernel_rfl
theorem cells4:Tryd.prog.cellsOf 4=1:=by kernel_rfl
theorem cells9:Tryd.prog.cellsOf 9=1:=by kernel_rfl
theorem cells62:Tryd.prog.cellsOf 62=3:=by kernel_rfl
def wf62 (x:S62):Prop:=(fun _=>True) x.f0∧(WInt .i64) x.f1∧WStr x.f2
theorem opens62:∀n,Opens Tryd.prog n 62 k62 wf62:=fun n=>opens_iso (fun x:S62=>(x.f0,x.f1,x.f2)) (fun a=>(⟨a.1,a.2.1,a.2.2⟩:S62)) (fun _=>rfl) (opens_struct Tryd.underlying62 (cells62.trans rfl) (fun m hm=>(opens_field rfl (cells4.trans rfl) (opens_bool Tryd.underlying4) (opens_field rfl (cells2.trans rfl) (opens_int Tryd.underlying2) (opens_last rfl (cells9.trans rfl) (opens_string Tryd.underlying9))))))
def laws_FnExactFieldsText.Pure:Prop:=∀(x0:List (S62)),(WList wf62) x0→∃k,laws_FnExactFieldsText.f k x0=some true
end Go.Proofs.YtjmojijopammjaaDoor.PFnExactCaptureText
