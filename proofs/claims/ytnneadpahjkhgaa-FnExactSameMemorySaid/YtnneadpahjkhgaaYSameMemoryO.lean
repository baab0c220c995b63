/- What the law FnExactSameMemory's arguments are, as plain values, and its plain statement; no condition. -/
import Derived.Test.YtnneadpahjkhgaaYSmW3
import Derived.Test.YtnneadpahjkhgaaYSmP0
import Derived.Test.YtnneadpahjkhgaaYSmP39
import Derived.KernelRfl
namespace Go.Proofs.Ytnneadpahjkhgaa.PFnExactSameMemory
open Go.RowKit Go.Proofs.YtnneadpahjkhgaaG Go.Proofs.YtnneadpahjkhgaaW.PrintWords Go.Proofs.YtnneadpahjkhgaaW.PrintLast Go.Proofs.YtnneadpahjkhgaaW.PrintMore
set_option linter.unusedVariables false
theorem cells2:Try.prog.cellsOf 2=1:=by kernel_rfl
theorem cells9:Try.prog.cellsOf 9=1:=by kernel_rfl
theorem cells33:Try.prog.cellsOf 33=1:=by kernel_rfl
theorem cells34:Try.prog.cellsOf 34=1:=by kernel_rfl
theorem cells36:Try.prog.cellsOf 36=5:=by kernel_rfl
theorem cells46:Try.prog.cellsOf 46=1:=by kernel_rfl
theorem cells47:Try.prog.cellsOf 47=1:=by kernel_rfl
theorem cells48:Try.prog.cellsOf 48=1:=by kernel_rfl
theorem cells50:Try.prog.cellsOf 50=3:=by kernel_rfl
theorem cells60:Try.prog.cellsOf 60=1:=by kernel_rfl
theorem cells62:Try.prog.cellsOf 62=2:=by kernel_rfl
theorem cells64:Try.prog.cellsOf 64=10:=by kernel_rfl
theorem cells127:Try.prog.cellsOf 127=4:=by kernel_rfl
theorem cells132:Try.prog.cellsOf 132=4:=by kernel_rfl
theorem cells134:Try.prog.cellsOf 134=5:=by kernel_rfl
theorem cells136:Try.prog.cellsOf 136=4:=by kernel_rfl
theorem cells138:Try.prog.cellsOf 138=2:=by kernel_rfl
theorem cells164:Try.prog.cellsOf 164=1:=by kernel_rfl
theorem cells166:Try.prog.cellsOf 166=10:=by kernel_rfl
def wf132 (x:S132):Prop:=(WInt .i64) x.f0∧(WInt .i64) x.f1∧WStr x.f2∧(WInt .i64) x.f3
theorem opens132:∀n,Opens Try.prog n 132 k132 wf132:=fun n=>opens_iso (fun x:S132=>(x.f0,x.f1,x.f2,x.f3)) (fun a=>(⟨a.1,a.2.1,a.2.2.1,a.2.2.2⟩:S132)) (fun _=>rfl) (opens_struct Try.underlying132 (cells132.trans rfl) (fun m hm=>(opens_field rfl (cells2.trans rfl) (opens_int Try.underlying2) (opens_field rfl (cells2.trans rfl) (opens_int Try.underlying2) (opens_field rfl (cells9.trans rfl) (opens_string Try.underlying9) (opens_last rfl (cells2.trans rfl) (opens_int Try.underlying2)))))))
def wf166 (x:S166):Prop:=(WInt .i64) x.f0∧(WInt .i64) x.f1∧WStr x.f2∧(WInt .i64) x.f3∧(WList wf132) x.f4∧(WList wf132) x.f5∧wf132 x.f6
theorem opens166:∀n,Opens Try.prog n 166 k166 wf166:=fun n=>opens_iso (fun x:S166=>(x.f0,x.f1,x.f2,x.f3,x.f4,x.f5,x.f6)) (fun a=>(⟨a.1,a.2.1,a.2.2.1,a.2.2.2.1,a.2.2.2.2.1,a.2.2.2.2.2.1,a.2.2.2.2.2.2⟩:S166)) (fun _=>rfl) (opens_struct Try.underlying166 (cells166.trans rfl) (fun m hm=>(opens_field rfl (cells2.trans rfl) (opens_int Try.underlying2) (opens_field rfl (cells2.trans rfl) (opens_int Try.underlying2) (opens_field rfl (cells9.trans rfl) (opens_string Try.underlying9) (opens_field rfl (cells2.trans rfl) (opens_int Try.underlying2) (opens_field rfl (cells164.trans rfl) (opens_slice Try.underlying164 (cells132.trans rfl) (fun j hj=>(opens132 j))) (opens_field rfl (cells164.trans rfl) (opens_slice Try.underlying164 (cells132.trans rfl) (fun j hj=>(opens132 j))) (opens_last rfl (cells132.trans rfl) (opens132 m))))))))))
def wf62 (x:S62):Prop:=(WInt .i64) x.f0∧(WList wf166) x.f1
theorem opens62:∀n,Opens Try.prog n 62 k62 wf62:=fun n=>opens_iso (fun x:S62=>(x.f0,x.f1)) (fun a=>(⟨a.1,a.2⟩:S62)) (fun _=>rfl) (opens_struct Try.underlying62 (cells62.trans rfl) (fun m hm=>(opens_field rfl (cells2.trans rfl) (opens_int Try.underlying2) (opens_last rfl (cells60.trans rfl) (opens_slice Try.underlying60 (cells166.trans rfl) (fun j hj=>(opens166 j)))))))
def wf134 (x:S134):Prop:=WStr x.f0∧wf132 x.f1
theorem opens134:∀n,Opens Try.prog n 134 k134 wf134:=fun n=>opens_iso (fun x:S134=>(x.f0,x.f1)) (fun a=>(⟨a.1,a.2⟩:S134)) (fun _=>rfl) (opens_struct Try.underlying134 (cells134.trans rfl) (fun m hm=>(opens_field rfl (cells9.trans rfl) (opens_string Try.underlying9) (opens_last rfl (cells132.trans rfl) (opens132 m)))))
def wf136 (x:S136):Prop:=WStr x.f0∧(WList WStr) x.f1∧(WList WStr) x.f2∧WStr x.f3
theorem opens136:∀n,Opens Try.prog n 136 k136 wf136:=fun n=>opens_iso (fun x:S136=>(x.f0,x.f1,x.f2,x.f3)) (fun a=>(⟨a.1,a.2.1,a.2.2.1,a.2.2.2⟩:S136)) (fun _=>rfl) (opens_struct Try.underlying136 (cells136.trans rfl) (fun m hm=>(opens_field rfl (cells9.trans rfl) (opens_string Try.underlying9) (opens_field rfl (cells33.trans rfl) (opens_slice Try.underlying33 (cells9.trans rfl) (fun j hj=>(opens_string Try.underlying9))) (opens_field rfl (cells33.trans rfl) (opens_slice Try.underlying33 (cells9.trans rfl) (fun j hj=>(opens_string Try.underlying9))) (opens_last rfl (cells9.trans rfl) (opens_string Try.underlying9)))))))
def wf138 (x:S138):Prop:=WStr x.f0∧(WList WStr) x.f1
theorem opens138:∀n,Opens Try.prog n 138 k138 wf138:=fun n=>opens_iso (fun x:S138=>(x.f0,x.f1)) (fun a=>(⟨a.1,a.2⟩:S138)) (fun _=>rfl) (opens_struct Try.underlying138 (cells138.trans rfl) (fun m hm=>(opens_field rfl (cells9.trans rfl) (opens_string Try.underlying9) (opens_last rfl (cells33.trans rfl) (opens_slice Try.underlying33 (cells9.trans rfl) (fun j hj=>(opens_string Try.underlying9)))))))
def wf50 (x:S50):Prop:=(WList wf134) x.f0∧(WList wf136) x.f1∧(WList wf138) x.f2
theorem opens50:∀n,Opens Try.prog n 50 k50 wf50:=fun n=>opens_iso (fun x:S50=>(x.f0,x.f1,x.f2)) (fun a=>(⟨a.1,a.2.1,a.2.2⟩:S50)) (fun _=>rfl) (opens_struct Try.underlying50 (cells50.trans rfl) (fun m hm=>(opens_field rfl (cells46.trans rfl) (opens_slice Try.underlying46 (cells134.trans rfl) (fun j hj=>(opens134 j))) (opens_field rfl (cells47.trans rfl) (opens_slice Try.underlying47 (cells136.trans rfl) (fun j hj=>(opens136 j))) (opens_last rfl (cells48.trans rfl) (opens_slice Try.underlying48 (cells138.trans rfl) (fun j hj=>(opens138 j))))))))
def wf127 (x:S127):Prop:=WStr x.f0∧(WList WStr) x.f1∧(WInt .i64) x.f2∧(WInt .i64) x.f3
theorem opens127:∀n,Opens Try.prog n 127 k127 wf127:=fun n=>opens_iso (fun x:S127=>(x.f0,x.f1,x.f2,x.f3)) (fun a=>(⟨a.1,a.2.1,a.2.2.1,a.2.2.2⟩:S127)) (fun _=>rfl) (opens_struct Try.underlying127 (cells127.trans rfl) (fun m hm=>(opens_field rfl (cells9.trans rfl) (opens_string Try.underlying9) (opens_field rfl (cells33.trans rfl) (opens_slice Try.underlying33 (cells9.trans rfl) (fun j hj=>(opens_string Try.underlying9))) (opens_field rfl (cells2.trans rfl) (opens_int Try.underlying2) (opens_last rfl (cells2.trans rfl) (opens_int Try.underlying2)))))))
def wf36 (x:S36):Prop:=(WList WStr) x.f0∧(WInt .i64) x.f1∧(WList WStr) x.f2∧(WList wf127) x.f3∧(WList WStr) x.f4
theorem opens36:∀n,Opens Try.prog n 36 k36 wf36:=fun n=>opens_iso (fun x:S36=>(x.f0,x.f1,x.f2,x.f3,x.f4)) (fun a=>(⟨a.1,a.2.1,a.2.2.1,a.2.2.2.1,a.2.2.2.2⟩:S36)) (fun _=>rfl) (opens_struct Try.underlying36 (cells36.trans rfl) (fun m hm=>(opens_field rfl (cells33.trans rfl) (opens_slice Try.underlying33 (cells9.trans rfl) (fun j hj=>(opens_string Try.underlying9))) (opens_field rfl (cells2.trans rfl) (opens_int Try.underlying2) (opens_field rfl (cells33.trans rfl) (opens_slice Try.underlying33 (cells9.trans rfl) (fun j hj=>(opens_string Try.underlying9))) (opens_field rfl (cells34.trans rfl) (opens_slice Try.underlying34 (cells127.trans rfl) (fun j hj=>(opens127 j))) (opens_last rfl (cells33.trans rfl) (opens_slice Try.underlying33 (cells9.trans rfl) (fun j hj=>(opens_string Try.underlying9))))))))))
def wf64 (x:S64):Prop:=wf62 x.f0∧wf50 x.f1∧wf36 x.f2
theorem opens64:∀n,Opens Try.prog n 64 k64 wf64:=fun n=>opens_iso (fun x:S64=>(x.f0,x.f1,x.f2)) (fun a=>(⟨a.1,a.2.1,a.2.2⟩:S64)) (fun _=>rfl) (opens_struct Try.underlying64 (cells64.trans rfl) (fun m hm=>(opens_field rfl (cells62.trans rfl) (opens62 m) (opens_field rfl (cells50.trans rfl) (opens50 m) (opens_last rfl (cells36.trans rfl) (opens36 m))))))
def laws_FnExactSameMemory.Pure:Prop:=∀(x0:S64) (x1:S64),wf64 x0→wf64 x1→∃k,laws_FnExactSameMemory.f k x0.f0.f0 x0.f0.f1 x0.f1.f0 x0.f1.f1 x0.f1.f2 x0.f2.f0 x0.f2.f1 x0.f2.f2 x0.f2.f3 x0.f2.f4 x1.f0.f0 x1.f0.f1 x1.f1.f0 x1.f1.f1 x1.f1.f2 x1.f2.f0 x1.f2.f1 x1.f2.f2 x1.f2.f3 x1.f2.f4=some true
end Go.Proofs.Ytnneadpahjkhgaa.PFnExactSameMemory
