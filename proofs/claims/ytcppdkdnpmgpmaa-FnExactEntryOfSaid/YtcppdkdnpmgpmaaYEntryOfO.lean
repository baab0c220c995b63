/- What the law FnExactEntryOf's arguments are, as plain values, and its plain statement; no condition. -/
import Derived.Test.YtcppdkdnpmgpmaaYEoW4
import Derived.Test.YtcppdkdnpmgpmaaYEoP0
import Derived.Test.YtcppdkdnpmgpmaaYEoP11
import Derived.KernelRfl
namespace Go.Proofs.Ytcppdkdnpmgpmaa.PFnExactEntryOf
open Go.RowKit Go.Proofs.YtcppdkdnpmgpmaaG Go.Proofs.YtcppdkdnpmgpmaaW.PrintWords Go.Proofs.YtcppdkdnpmgpmaaW.PrintLast Go.Proofs.YtcppdkdnpmgpmaaW.PrintMore
set_option linter.unusedVariables false
theorem cells2:Try.prog.cellsOf 2=1:=by kernel_rfl
theorem cells9:Try.prog.cellsOf 9=1:=by kernel_rfl
theorem cells22:Try.prog.cellsOf 22=1:=by kernel_rfl
theorem cells23:Try.prog.cellsOf 23=1:=by kernel_rfl
theorem cells25:Try.prog.cellsOf 25=2:=by kernel_rfl
theorem cells47:Try.prog.cellsOf 47=3:=by kernel_rfl
theorem cells50:Try.prog.cellsOf 50=2:=by kernel_rfl
def wf47 (x:S47):Prop:=(WInt .i64) x.f0∧(WInt .i64) x.f1∧WStr x.f2
theorem opens47:∀n,Opens Try.prog n 47 k47 wf47:=fun n=>opens_iso (fun x:S47=>(x.f0,x.f1,x.f2)) (fun a=>(⟨a.1,a.2.1,a.2.2⟩:S47)) (fun _=>rfl) (opens_struct Try.underlying47 (cells47.trans rfl) (fun m hm=>(opens_field rfl (cells2.trans rfl) (opens_int Try.underlying2) (opens_field rfl (cells2.trans rfl) (opens_int Try.underlying2) (opens_last rfl (cells9.trans rfl) (opens_string Try.underlying9))))))
def wf50 (x:S50):Prop:=WStr x.f0∧(WInt .i64) x.f1
theorem opens50:∀n,Opens Try.prog n 50 k50 wf50:=fun n=>opens_iso (fun x:S50=>(x.f0,x.f1)) (fun a=>(⟨a.1,a.2⟩:S50)) (fun _=>rfl) (opens_struct Try.underlying50 (cells50.trans rfl) (fun m hm=>(opens_field rfl (cells9.trans rfl) (opens_string Try.underlying9) (opens_last rfl (cells2.trans rfl) (opens_int Try.underlying2)))))
def wf25 (x:S25):Prop:=(WList wf47) x.f0∧(WList wf50) x.f1
theorem opens25:∀n,Opens Try.prog n 25 k25 wf25:=fun n=>opens_iso (fun x:S25=>(x.f0,x.f1)) (fun a=>(⟨a.1,a.2⟩:S25)) (fun _=>rfl) (opens_struct Try.underlying25 (cells25.trans rfl) (fun m hm=>(opens_field rfl (cells22.trans rfl) (opens_slice Try.underlying22 (cells47.trans rfl) (fun j hj=>(opens47 j))) (opens_last rfl (cells23.trans rfl) (opens_slice Try.underlying23 (cells50.trans rfl) (fun j hj=>(opens50 j)))))))
def laws_FnExactEntryOf.Pure:Prop:=∀(x0:S25) (x1:ByteArray),wf25 x0→WStr x1→∃k,laws_FnExactEntryOf.f k x0.f0 x0.f1 x1=some true
end Go.Proofs.Ytcppdkdnpmgpmaa.PFnExactEntryOf
