/- What the law FnExactCaptureText's arguments are, as plain values, and its plain statement; no condition. -/
import Derived.Test.YtjmojijopammjaaDoorYCtW3
import Derived.Test.YtjmojijopammjaaDoorYCtP0
import Derived.Test.YtjmojijopammjaaDoorYCtP3
import Derived.KernelRfl
namespace Go.Proofs.YtjmojijopammjaaDoor.PFnExactCaptureText
open Go.RowKit Go.Proofs.YtjmojijopammjaaDoorG Go.Proofs.YtjmojijopammjaaDoorW.PrintWords Go.Proofs.YtjmojijopammjaaDoorW.PrintLast Go.Proofs.YtjmojijopammjaaDoorW.PrintMore
set_option linter.unusedVariables false
theorem cells2:Tryd.prog.cellsOf 2=1:=by kernel_rfl
theorem cells9:Tryd.prog.cellsOf 9=1:=by kernel_rfl
theorem cells23:Tryd.prog.cellsOf 23=4:=by kernel_rfl
def wf23 (x:S23):Prop:=WStr x.f0∧WStr x.f1∧(WInt .i64) x.f2∧(WInt .i64) x.f3
theorem opens23:∀n,Opens Tryd.prog n 23 k23 wf23:=fun n=>opens_iso (fun x:S23=>(x.f0,x.f1,x.f2,x.f3)) (fun a=>(⟨a.1,a.2.1,a.2.2.1,a.2.2.2⟩:S23)) (fun _=>rfl) (opens_struct Tryd.underlying23 (cells23.trans rfl) (fun m hm=>(opens_field rfl (cells9.trans rfl) (opens_string Tryd.underlying9) (opens_field rfl (cells9.trans rfl) (opens_string Tryd.underlying9) (opens_field rfl (cells2.trans rfl) (opens_int Tryd.underlying2) (opens_last rfl (cells2.trans rfl) (opens_int Tryd.underlying2)))))))
def laws_FnExactCaptureText.Pure:Prop:=∀(x0:S23),wf23 x0→∃k,laws_FnExactCaptureText.f k x0.f0 x0.f1 x0.f2 x0.f3=some true
end Go.Proofs.YtjmojijopammjaaDoor.PFnExactCaptureText
