/- What the law FnExactFinalOf's arguments are, as plain values, and its plain statement; no condition. -/
import Derived.Test.YtabbpnkbhapibaaYFcW3
import Derived.Test.YtabbpnkbhapibaaYFcP0
import Derived.Test.YtabbpnkbhapibaaYFcP7
import Derived.KernelRfl
namespace Go.Proofs.Ytabbpnkbhapibaa.PFnExactFinalOf
open Go.RowKit Go.Proofs.YtabbpnkbhapibaaG Go.Proofs.YtabbpnkbhapibaaW.PrintWords Go.Proofs.YtabbpnkbhapibaaW.PrintLast Go.Proofs.YtabbpnkbhapibaaW.PrintMore
set_option linter.unusedVariables false
theorem cells2 : Try.prog.cellsOf 2 = 1 := by kernel_rfl
theorem cells4 : Try.prog.cellsOf 4 = 1 := by kernel_rfl
theorem cells9 : Try.prog.cellsOf 9 = 1 := by kernel_rfl
theorem cells149 : Try.prog.cellsOf 149 = 4 := by kernel_rfl
def wf149 (x : S149) : Prop := WStr x.f0 ∧ WStr x.f1 ∧ (fun _ => True) x.f2 ∧ (WInt .i64) x.f3
theorem opens149 : ∀ n, Opens Try.prog n 149 k149 wf149 := fun n => opens_iso (fun x : S149 => (x.f0, x.f1, x.f2, x.f3)) (fun a => (⟨a.1, a.2.1, a.2.2.1, a.2.2.2⟩ : S149)) (fun _ => rfl) (opens_struct Try.underlying149 (cells149.trans rfl) (fun m hm => (opens_field rfl (cells9.trans rfl) (opens_string Try.underlying9) (opens_field rfl (cells9.trans rfl) (opens_string Try.underlying9) (opens_field rfl (cells4.trans rfl) (opens_bool Try.underlying4) (opens_last rfl (cells2.trans rfl) (opens_int Try.underlying2)))))))
/-- The plain statement. -/
def laws_FnExactFinalOf.Pure : Prop := ∀ (x0 : List (S149)), (WList wf149) x0 → ∃ k, laws_FnExactFinalOf.f k x0 = some true
end Go.Proofs.Ytabbpnkbhapibaa.PFnExactFinalOf
