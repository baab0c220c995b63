/- What the law FnExactValidInstr's arguments are, as plain values, and its plain statement; no condition. -/
import Derived.Test.YtabbpnkbhapibaaYViW2
import Derived.Test.YtabbpnkbhapibaaYViP0
import Derived.Test.YtabbpnkbhapibaaYViP9
import Derived.KernelRfl
namespace Go.Proofs.Ytabbpnkbhapibaa.PFnExactValidInstr
open Go.RowKit Go.Proofs.YtabbpnkbhapibaaG Go.Proofs.YtabbpnkbhapibaaW.PrintWords Go.Proofs.YtabbpnkbhapibaaW.PrintLast Go.Proofs.YtabbpnkbhapibaaW.PrintMore
set_option linter.unusedVariables false
theorem cells2 : Try.prog.cellsOf 2 = 1 := by kernel_rfl
theorem cells9 : Try.prog.cellsOf 9 = 1 := by kernel_rfl
theorem cells103 : Try.prog.cellsOf 103 = 3 := by kernel_rfl
def wf103 (x : S103) : Prop := (WInt .i64) x.f0 ∧ (WInt .i64) x.f1 ∧ WStr x.f2
theorem opens103 : ∀ n, Opens Try.prog n 103 k103 wf103 := fun n => opens_iso (fun x : S103 => (x.f0, x.f1, x.f2)) (fun a => (⟨a.1, a.2.1, a.2.2⟩ : S103)) (fun _ => rfl) (opens_struct Try.underlying103 (cells103.trans rfl) (fun m hm => (opens_field rfl (cells2.trans rfl) (opens_int Try.underlying2) (opens_field rfl (cells2.trans rfl) (opens_int Try.underlying2) (opens_last rfl (cells9.trans rfl) (opens_string Try.underlying9))))))
/-- The plain statement. -/
def laws_FnExactValidInstr.Pure : Prop := ∀ (x0 : S103), wf103 x0 → ∃ k, laws_FnExactValidInstr.f k x0.f0 x0.f1 x0.f2 = some true
end Go.Proofs.Ytabbpnkbhapibaa.PFnExactValidInstr
