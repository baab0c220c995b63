/- What the law FnExactSameConsole's arguments are, as plain values, and its plain statement; no condition. -/
import Derived.Test.YtnneadpahjkhgaaGOpen
import Derived.Test.YtnneadpahjkhgaaPFnExactSameConsolex0
import Derived.Test.YtnneadpahjkhgaaPFnExactSameConsolex5
import Derived.KernelRfl
namespace Go.Proofs.Ytnneadpahjkhgaa.PFnExactSameConsole
open Go.RowKit Go.Proofs.YtnneadpahjkhgaaG Go.Proofs.YtnneadpahjkhgaaW.PrintWords Go.Proofs.YtnneadpahjkhgaaW.PrintLast Go.Proofs.YtnneadpahjkhgaaW.PrintMore
set_option linter.unusedVariables false
theorem cells2 : Try.prog.cellsOf 2 = 1 := by kernel_rfl
theorem cells9 : Try.prog.cellsOf 9 = 1 := by kernel_rfl
theorem cells33 : Try.prog.cellsOf 33 = 1 := by kernel_rfl
theorem cells34 : Try.prog.cellsOf 34 = 1 := by kernel_rfl
theorem cells36 : Try.prog.cellsOf 36 = 5 := by kernel_rfl
theorem cells127 : Try.prog.cellsOf 127 = 4 := by kernel_rfl
def wf127 (x : S127) : Prop := WStr x.f0 ∧ (WList WStr) x.f1 ∧ (WInt .i64) x.f2 ∧ (WInt .i64) x.f3
theorem opens127 : ∀ n, Opens Try.prog n 127 k127 wf127 := fun n => opens_iso (fun x : S127 => (x.f0, x.f1, x.f2, x.f3)) (fun a => (⟨a.1, a.2.1, a.2.2.1, a.2.2.2⟩ : S127)) (fun _ => rfl) (opens_struct Try.underlying127 (cells127.trans rfl) (fun m hm => (opens_field rfl (cells9.trans rfl) (opens_string Try.underlying9) (opens_field rfl (cells33.trans rfl) (opens_slice Try.underlying33 (cells9.trans rfl) (fun j hj => (opens_string Try.underlying9))) (opens_field rfl (cells2.trans rfl) (opens_int Try.underlying2) (opens_last rfl (cells2.trans rfl) (opens_int Try.underlying2)))))))
def wf36 (x : S36) : Prop := (WList WStr) x.f0 ∧ (WInt .i64) x.f1 ∧ (WList WStr) x.f2 ∧ (WList wf127) x.f3 ∧ (WList WStr) x.f4
theorem opens36 : ∀ n, Opens Try.prog n 36 k36 wf36 := fun n => opens_iso (fun x : S36 => (x.f0, x.f1, x.f2, x.f3, x.f4)) (fun a => (⟨a.1, a.2.1, a.2.2.1, a.2.2.2.1, a.2.2.2.2⟩ : S36)) (fun _ => rfl) (opens_struct Try.underlying36 (cells36.trans rfl) (fun m hm => (opens_field rfl (cells33.trans rfl) (opens_slice Try.underlying33 (cells9.trans rfl) (fun j hj => (opens_string Try.underlying9))) (opens_field rfl (cells2.trans rfl) (opens_int Try.underlying2) (opens_field rfl (cells33.trans rfl) (opens_slice Try.underlying33 (cells9.trans rfl) (fun j hj => (opens_string Try.underlying9))) (opens_field rfl (cells34.trans rfl) (opens_slice Try.underlying34 (cells127.trans rfl) (fun j hj => (opens127 j))) (opens_last rfl (cells33.trans rfl) (opens_slice Try.underlying33 (cells9.trans rfl) (fun j hj => (opens_string Try.underlying9))))))))))
/-- The plain statement. -/
def laws_FnExactSameConsole.Pure : Prop := ∀ (x0 : S36) (x1 : S36), wf36 x0 → wf36 x1 → ∃ k, laws_FnExactSameConsole.f k x0.f0 x0.f1 x0.f2 x0.f3 x0.f4 x1.f0 x1.f1 x1.f2 x1.f3 x1.f4 = some true
end Go.Proofs.Ytnneadpahjkhgaa.PFnExactSameConsole
