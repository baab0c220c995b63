/- What the law FnExactRefsOf's arguments are, as plain values, and its plain statement; no condition. -/
import Derived.Test.YtengilknjiobiaaYRoW3
import Derived.Test.YtengilknjiobiaaYRoP0
import Derived.Test.YtengilknjiobiaaYRoP21
import Derived.KernelRfl
namespace Go.Proofs.Ytengilknjiobiaa.PFnExactRefsOf
open Go.RowKit Go.Proofs.YtengilknjiobiaaG Go.Proofs.YtengilknjiobiaaW.PrintWords Go.Proofs.YtengilknjiobiaaW.PrintLast Go.Proofs.YtengilknjiobiaaW.PrintMore
set_option linter.unusedVariables false
theorem cells2:Try.prog.cellsOf 2=1:=by kernel_rfl
theorem cells9:Try.prog.cellsOf 9=1:=by kernel_rfl
theorem cells26:Try.prog.cellsOf 26=4:=by kernel_rfl
theorem cells49:Try.prog.cellsOf 49=1:=by kernel_rfl
theorem cells51:Try.prog.cellsOf 51=10:=by kernel_rfl
def wf26 (x:S26):Prop:=(WInt .i64) x.f0∧(WInt .i64) x.f1∧WStr x.f2∧(WInt .i64) x.f3
theorem opens26:∀n,Opens Try.prog n 26 k26 wf26:=fun n=>opens_iso (fun x:S26=>(x.f0,x.f1,x.f2,x.f3)) (fun a=>(⟨a.1,a.2.1,a.2.2.1,a.2.2.2⟩:S26)) (fun _=>rfl) (opens_struct Try.underlying26 (cells26.trans rfl) (fun m hm=>(opens_field rfl (cells2.trans rfl) (opens_int Try.underlying2) (opens_field rfl (cells2.trans rfl) (opens_int Try.underlying2) (opens_field rfl (cells9.trans rfl) (opens_string Try.underlying9) (opens_last rfl (cells2.trans rfl) (opens_int Try.underlying2)))))))
def wf51 (x:S51):Prop:=(WInt .i64) x.f0∧(WInt .i64) x.f1∧WStr x.f2∧(WInt .i64) x.f3∧(WList wf26) x.f4∧(WList wf26) x.f5∧wf26 x.f6
theorem opens51:∀n,Opens Try.prog n 51 k51 wf51:=fun n=>opens_iso (fun x:S51=>(x.f0,x.f1,x.f2,x.f3,x.f4,x.f5,x.f6)) (fun a=>(⟨a.1,a.2.1,a.2.2.1,a.2.2.2.1,a.2.2.2.2.1,a.2.2.2.2.2.1,a.2.2.2.2.2.2⟩:S51)) (fun _=>rfl) (opens_struct Try.underlying51 (cells51.trans rfl) (fun m hm=>(opens_field rfl (cells2.trans rfl) (opens_int Try.underlying2) (opens_field rfl (cells2.trans rfl) (opens_int Try.underlying2) (opens_field rfl (cells9.trans rfl) (opens_string Try.underlying9) (opens_field rfl (cells2.trans rfl) (opens_int Try.underlying2) (opens_field rfl (cells49.trans rfl) (opens_slice Try.underlying49 (cells26.trans rfl) (fun j hj=>(opens26 j))) (opens_field rfl (cells49.trans rfl) (opens_slice Try.underlying49 (cells26.trans rfl) (fun j hj=>(opens26 j))) (opens_last rfl (cells26.trans rfl) (opens26 m))))))))))
def laws_FnExactRefsOf.Pure:Prop:=∀(x0:S51),wf51 x0→∃k,laws_FnExactRefsOf.f k x0.f0 x0.f1 x0.f2 x0.f3 x0.f4 x0.f5 x0.f6.f0 x0.f6.f1 x0.f6.f2 x0.f6.f3=some true
end Go.Proofs.Ytengilknjiobiaa.PFnExactRefsOf
