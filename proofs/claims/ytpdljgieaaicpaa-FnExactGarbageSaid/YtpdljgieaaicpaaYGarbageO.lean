/- What the law FnExactGarbage's arguments are, as plain values, and its plain statement; no condition. -/
import Derived.Test.YtpdljgieaaicpaaYGbW4
import Derived.Test.YtpdljgieaaicpaaYGbP0
import Derived.Test.YtpdljgieaaicpaaYGbP33
import Derived.KernelRfl
namespace Go.Proofs.Ytpdljgieaaicpaa.PFnExactGarbage
open Go.RowKit Go.Proofs.YtpdljgieaaicpaaG Go.Proofs.YtpdljgieaaicpaaW.PrintWords Go.Proofs.YtpdljgieaaicpaaW.PrintLast Go.Proofs.YtpdljgieaaicpaaW.PrintMore
set_option linter.unusedVariables false
theorem cells2:Try.prog.cellsOf 2=1:=by kernel_rfl
theorem cells9:Try.prog.cellsOf 9=1:=by kernel_rfl
theorem cells22:Try.prog.cellsOf 22=1:=by kernel_rfl
theorem cells24:Try.prog.cellsOf 24=2:=by kernel_rfl
theorem cells25:Try.prog.cellsOf 25=1:=by kernel_rfl
theorem cells57:Try.prog.cellsOf 57=4:=by kernel_rfl
theorem cells86:Try.prog.cellsOf 86=10:=by kernel_rfl
def wf57 (x:S57):Prop:=(WInt .i64) x.f0∧(WInt .i64) x.f1∧WStr x.f2∧(WInt .i64) x.f3
theorem opens57:∀n,Opens Try.prog n 57 k57 wf57:=fun n=>opens_iso (fun x:S57=>(x.f0,x.f1,x.f2,x.f3)) (fun a=>(⟨a.1,a.2.1,a.2.2.1,a.2.2.2⟩:S57)) (fun _=>rfl) (opens_struct Try.underlying57 (cells57.trans rfl) (fun m hm=>(opens_field rfl (cells2.trans rfl) (opens_int Try.underlying2) (opens_field rfl (cells2.trans rfl) (opens_int Try.underlying2) (opens_field rfl (cells9.trans rfl) (opens_string Try.underlying9) (opens_last rfl (cells2.trans rfl) (opens_int Try.underlying2)))))))
def wf86 (x:S86):Prop:=(WInt .i64) x.f0∧(WInt .i64) x.f1∧WStr x.f2∧(WInt .i64) x.f3∧(WList wf57) x.f4∧(WList wf57) x.f5∧wf57 x.f6
theorem opens86:∀n,Opens Try.prog n 86 k86 wf86:=fun n=>opens_iso (fun x:S86=>(x.f0,x.f1,x.f2,x.f3,x.f4,x.f5,x.f6)) (fun a=>(⟨a.1,a.2.1,a.2.2.1,a.2.2.2.1,a.2.2.2.2.1,a.2.2.2.2.2.1,a.2.2.2.2.2.2⟩:S86)) (fun _=>rfl) (opens_struct Try.underlying86 (cells86.trans rfl) (fun m hm=>(opens_field rfl (cells2.trans rfl) (opens_int Try.underlying2) (opens_field rfl (cells2.trans rfl) (opens_int Try.underlying2) (opens_field rfl (cells9.trans rfl) (opens_string Try.underlying9) (opens_field rfl (cells2.trans rfl) (opens_int Try.underlying2) (opens_field rfl (cells25.trans rfl) (opens_slice Try.underlying25 (cells57.trans rfl) (fun j hj=>(opens57 j))) (opens_field rfl (cells25.trans rfl) (opens_slice Try.underlying25 (cells57.trans rfl) (fun j hj=>(opens57 j))) (opens_last rfl (cells57.trans rfl) (opens57 m))))))))))
def wf24 (x:S24):Prop:=(WInt .i64) x.f0∧(WList wf86) x.f1
theorem opens24:∀n,Opens Try.prog n 24 k24 wf24:=fun n=>opens_iso (fun x:S24=>(x.f0,x.f1)) (fun a=>(⟨a.1,a.2⟩:S24)) (fun _=>rfl) (opens_struct Try.underlying24 (cells24.trans rfl) (fun m hm=>(opens_field rfl (cells2.trans rfl) (opens_int Try.underlying2) (opens_last rfl (cells22.trans rfl) (opens_slice Try.underlying22 (cells86.trans rfl) (fun j hj=>(opens86 j)))))))
def laws_FnExactGarbage.Pure:Prop:=∀(x0:S24) (x1:List (S57)),wf24 x0→(WList wf57) x1→∃k,laws_FnExactGarbage.f k x0.f0 x0.f1 x1=some true
end Go.Proofs.Ytpdljgieaaicpaa.PFnExactGarbage
