/- What the law FnExactPrintTokens's arguments are, as plain values, and its plain statement; no condition. -/
import Derived.Test.YtpbjagjknaglgaaDoorYPtW2
import Derived.Test.YtpbjagjknaglgaaDoorYPtP0
import Derived.Test.YtpbjagjknaglgaaDoorYPtP12
import Derived.KernelRfl
namespace Go.Proofs.YtpbjagjknaglgaaDoor.PFnExactPrintTokens
open Go.RowKit Go.Proofs.YtpbjagjknaglgaaDoorG Go.Proofs.YtpbjagjknaglgaaDoorW.PrintWords Go.Proofs.YtpbjagjknaglgaaDoorW.PrintLast Go.Proofs.YtpbjagjknaglgaaDoorW.PrintMore
set_option linter.unusedVariables false
theorem cells2 : Tryd.prog.cellsOf 2 = 1 := by kernel_rfl
theorem cells4 : Tryd.prog.cellsOf 4 = 1 := by kernel_rfl
theorem cells9 : Tryd.prog.cellsOf 9 = 1 := by kernel_rfl
theorem cells23 : Tryd.prog.cellsOf 23 = 5 := by kernel_rfl
def wf23 (x : S23) : Prop := (WInt .i64) x.f0 ∧ (WInt .i64) x.f1 ∧ WStr x.f2 ∧ (fun _ => True) x.f3 ∧ (fun _ => True) x.f4
theorem opens23 : ∀ n, Opens Tryd.prog n 23 k23 wf23 := fun n => opens_iso (fun x : S23 => (x.f0, x.f1, x.f2, x.f3, x.f4)) (fun a => (⟨a.1, a.2.1, a.2.2.1, a.2.2.2.1, a.2.2.2.2⟩ : S23)) (fun _ => rfl) (opens_struct Tryd.underlying23 (cells23.trans rfl) (fun m hm => (opens_field rfl (cells2.trans rfl) (opens_int Tryd.underlying2) (opens_field rfl (cells2.trans rfl) (opens_int Tryd.underlying2) (opens_field rfl (cells9.trans rfl) (opens_string Tryd.underlying9) (opens_field rfl (cells4.trans rfl) (opens_bool Tryd.underlying4) (opens_last rfl (cells4.trans rfl) (opens_bool Tryd.underlying4))))))))
/-- The plain statement. -/
def laws_FnExactPrintTokens.Pure : Prop := ∀ (x0 : List (S23)), (WList wf23) x0 → ∃ k, laws_FnExactPrintTokens.f k x0 = some true
end Go.Proofs.YtpbjagjknaglgaaDoor.PFnExactPrintTokens
