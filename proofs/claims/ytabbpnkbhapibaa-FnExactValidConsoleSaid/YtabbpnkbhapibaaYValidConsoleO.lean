/- What the law FnExactValidConsole's arguments are, as plain values, and its plain statement; no condition. -/
import Derived.Test.YtabbpnkbhapibaaYVcW3
import Derived.Test.YtabbpnkbhapibaaYVcP0
import Derived.Test.YtabbpnkbhapibaaYVcP13
import Derived.KernelRfl
namespace Go.Proofs.Ytabbpnkbhapibaa.PFnExactValidConsole
open Go.RowKit Go.Proofs.YtabbpnkbhapibaaG Go.Proofs.YtabbpnkbhapibaaW.PrintWords Go.Proofs.YtabbpnkbhapibaaW.PrintLast Go.Proofs.YtabbpnkbhapibaaW.PrintMore
set_option linter.unusedVariables false
theorem cells2 : Try.prog.cellsOf 2 = 1 := by kernel_rfl
theorem cells9 : Try.prog.cellsOf 9 = 1 := by kernel_rfl
theorem cells66 : Try.prog.cellsOf 66 = 1 := by kernel_rfl
theorem cells67 : Try.prog.cellsOf 67 = 1 := by kernel_rfl
theorem cells69 : Try.prog.cellsOf 69 = 5 := by kernel_rfl
theorem cells202 : Try.prog.cellsOf 202 = 4 := by kernel_rfl
def wf202 (x : S202) : Prop := WStr x.f0 ∧ (WList WStr) x.f1 ∧ (WInt .i64) x.f2 ∧ (WInt .i64) x.f3
theorem opens202 : ∀ n, Opens Try.prog n 202 k202 wf202 := fun n => opens_iso (fun x : S202 => (x.f0, x.f1, x.f2, x.f3)) (fun a => (⟨a.1, a.2.1, a.2.2.1, a.2.2.2⟩ : S202)) (fun _ => rfl) (opens_struct Try.underlying202 (cells202.trans rfl) (fun m hm => (opens_field rfl (cells9.trans rfl) (opens_string Try.underlying9) (opens_field rfl (cells66.trans rfl) (opens_slice Try.underlying66 (cells9.trans rfl) (fun j hj => (opens_string Try.underlying9))) (opens_field rfl (cells2.trans rfl) (opens_int Try.underlying2) (opens_last rfl (cells2.trans rfl) (opens_int Try.underlying2)))))))
def wf69 (x : S69) : Prop := (WList WStr) x.f0 ∧ (WInt .i64) x.f1 ∧ (WList WStr) x.f2 ∧ (WList wf202) x.f3 ∧ (WList WStr) x.f4
theorem opens69 : ∀ n, Opens Try.prog n 69 k69 wf69 := fun n => opens_iso (fun x : S69 => (x.f0, x.f1, x.f2, x.f3, x.f4)) (fun a => (⟨a.1, a.2.1, a.2.2.1, a.2.2.2.1, a.2.2.2.2⟩ : S69)) (fun _ => rfl) (opens_struct Try.underlying69 (cells69.trans rfl) (fun m hm => (opens_field rfl (cells66.trans rfl) (opens_slice Try.underlying66 (cells9.trans rfl) (fun j hj => (opens_string Try.underlying9))) (opens_field rfl (cells2.trans rfl) (opens_int Try.underlying2) (opens_field rfl (cells66.trans rfl) (opens_slice Try.underlying66 (cells9.trans rfl) (fun j hj => (opens_string Try.underlying9))) (opens_field rfl (cells67.trans rfl) (opens_slice Try.underlying67 (cells202.trans rfl) (fun j hj => (opens202 j))) (opens_last rfl (cells66.trans rfl) (opens_slice Try.underlying66 (cells9.trans rfl) (fun j hj => (opens_string Try.underlying9))))))))))
/-- The plain statement. -/
def laws_FnExactValidConsole.Pure : Prop := ∀ (x0 : S69), wf69 x0 → ∃ k, laws_FnExactValidConsole.f k x0.f0 x0.f1 x0.f2 x0.f3 x0.f4 = some true
end Go.Proofs.Ytabbpnkbhapibaa.PFnExactValidConsole
