/- What the law FnExactTraceText's arguments are, as plain values, and its plain statement; no condition. -/
import Derived.Test.YtjmojijopammjaaDoorYCtW3
import Derived.Test.YtjmojijopammjaaDoorYCtP0
import Derived.Test.YtjmojijopammjaaDoorYCtP11
import Derived.KernelRfl
namespace Go.Proofs.YtjmojijopammjaaDoor.PFnExactCaptureText
open Go.RowKit Go.Proofs.YtjmojijopammjaaDoorG Go.Proofs.YtjmojijopammjaaDoorW.PrintWords Go.Proofs.YtjmojijopammjaaDoorW.PrintLast Go.Proofs.YtjmojijopammjaaDoorW.PrintMore
set_option linter.unusedVariables false
theorem cells2:Tryd.prog.cellsOf 2=1:=by kernel_rfl
theorem cells9:Tryd.prog.cellsOf 9=1:=by kernel_rfl
theorem cells37:Tryd.prog.cellsOf 37=4:=by kernel_rfl
def wf37 (x:S37):Prop:=(WInt .i64) x.f0∧(WInt .i64) x.f1∧WStr x.f2∧(WInt .i64) x.f3
theorem opens37:∀n,Opens Tryd.prog n 37 k37 wf37:=fun n=>opens_iso (fun x:S37=>(x.f0,x.f1,x.f2,x.f3)) (fun a=>(⟨a.1,a.2.1,a.2.2.1,a.2.2.2⟩:S37)) (fun _=>rfl) (opens_struct Tryd.underlying37 (cells37.trans rfl) (fun m hm=>(opens_field rfl (cells2.trans rfl) (opens_int Tryd.underlying2) (opens_field rfl (cells2.trans rfl) (opens_int Tryd.underlying2) (opens_field rfl (cells9.trans rfl) (opens_string Tryd.underlying9) (opens_last rfl (cells2.trans rfl) (opens_int Tryd.underlying2)))))))
def laws_FnExactTraceText.Pure:Prop:=∀(x0:Int) (x1:Int) (x2:ByteArray) (x3:S37),(WInt .i64) x0→(WInt .i64) x1→WStr x2→wf37 x3→∃k,laws_FnExactTraceText.f k x0 x1 x2 x3.f0 x3.f1 x3.f2 x3.f3=some true
end Go.Proofs.YtjmojijopammjaaDoor.PFnExactCaptureText
