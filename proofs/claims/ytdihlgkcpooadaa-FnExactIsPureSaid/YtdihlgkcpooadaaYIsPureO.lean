/- What the law FnExactIsPure's arguments are, as plain values, and its plain statement; no condition. -/
import Derived.Test.YtdihlgkcpooadaaYIpW4
import Derived.Test.YtdihlgkcpooadaaYIpP0
import Derived.Test.YtdihlgkcpooadaaYIpP26
import Derived.KernelRfl
namespace Go.Proofs.Ytdihlgkcpooadaa.PFnExactIsPure
open Go.RowKit Go.Proofs.YtdihlgkcpooadaaG Go.Proofs.YtdihlgkcpooadaaW.PrintWords Go.Proofs.YtdihlgkcpooadaaW.PrintLast Go.Proofs.YtdihlgkcpooadaaW.PrintMore
set_option linter.unusedVariables false
theorem cells2:Try.prog.cellsOf 2=1:=by kernel_rfl
theorem cells9:Try.prog.cellsOf 9=1:=by kernel_rfl
theorem cells29:Try.prog.cellsOf 29=1:=by kernel_rfl
theorem cells31:Try.prog.cellsOf 31=4:=by kernel_rfl
theorem cells49:Try.prog.cellsOf 49=5:=by kernel_rfl
inductive wf31 : S31 → Prop
  |mk (x:S31) (h0:(WInt .i64) x.f0) (h1:(WInt .i64) x.f1) (h2:WStr x.f2) (l3:x.f3.length≤9223372036854775807) (h3:∀y,y∈x.f3→wf31 y):wf31 x
theorem opens31:∀n,Opens Try.prog n 31 k31 wf31:=opens_fix mono31 (fun n d hd IH=>opens_wf (opens_iso (fun x:S31=>(x.f0,x.f1,x.f2,x.f3)) (fun a=>(⟨a.1,a.2.1,a.2.2.1,a.2.2.2⟩:S31)) (fun _=>rfl) (opens_struct Try.underlying31 (cells31.trans rfl) (fun m hm=>(opens_field rfl (cells2.trans rfl) (opens_int Try.underlying2) (opens_field rfl (cells2.trans rfl) (opens_int Try.underlying2) (opens_field rfl (cells9.trans rfl) (opens_string Try.underlying9) (opens_last rfl (cells29.trans rfl) (opens_slice Try.underlying29 (cells31.trans hd.symm) (fun j hj=>IH j (by omega)))))))))) (fun a ha=>wf31.mk a ha.1 ha.2.1 ha.2.2.1 ha.2.2.2.1 ha.2.2.2.2))
def wf49 (x:S49):Prop:=WStr x.f0∧wf31 x.f1
theorem opens49:∀n,Opens Try.prog n 49 k49 wf49:=fun n=>opens_iso (fun x:S49=>(x.f0,x.f1)) (fun a=>(⟨a.1,a.2⟩:S49)) (fun _=>rfl) (opens_struct Try.underlying49 (cells49.trans rfl) (fun m hm=>(opens_field rfl (cells9.trans rfl) (opens_string Try.underlying9) (opens_last rfl (cells31.trans rfl) (opens31 m)))))
def laws_FnExactIsPure.Pure:Prop:=∀(x0:List (S49)) (x1:S31),(WList wf49) x0→wf31 x1→∃k,laws_FnExactIsPure.f k x0 x1.f0 x1.f1 x1.f2 x1.f3=some true
end Go.Proofs.Ytdihlgkcpooadaa.PFnExactIsPure
