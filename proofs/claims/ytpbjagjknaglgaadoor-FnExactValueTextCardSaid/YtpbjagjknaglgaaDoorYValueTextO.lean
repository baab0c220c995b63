/- What the law FnExactValueText's arguments are, as plain values, and its plain statement; no condition. -/
import Derived.Test.YtpbjagjknaglgaaDoorYVtW2
import Derived.Test.YtpbjagjknaglgaaDoorYVtP0
import Derived.Test.YtpbjagjknaglgaaDoorYVtP5
import Derived.KernelRfl
namespace Go.Proofs.YtpbjagjknaglgaaDoor.PFnExactValueText
open Go.RowKit Go.Proofs.YtpbjagjknaglgaaDoorG Go.Proofs.YtpbjagjknaglgaaDoorW.PrintWords Go.Proofs.YtpbjagjknaglgaaDoorW.PrintLast Go.Proofs.YtpbjagjknaglgaaDoorW.PrintMore
set_option linter.unusedVariables false
theorem cells2 : Tryd.prog.cellsOf 2 = 1 := by kernel_rfl
theorem cells9 : Tryd.prog.cellsOf 9 = 1 := by kernel_rfl
theorem cells51 : Tryd.prog.cellsOf 51 = 4 := by kernel_rfl
def wf51 (x : S51) : Prop := (WInt .i64) x.f0 ∧ (WInt .i64) x.f1 ∧ WStr x.f2 ∧ (WInt .i64) x.f3
theorem opens51 : ∀ n, Opens Tryd.prog n 51 k51 wf51 := fun n => opens_iso (fun x : S51 => (x.f0, x.f1, x.f2, x.f3)) (fun a => (⟨a.1, a.2.1, a.2.2.1, a.2.2.2⟩ : S51)) (fun _ => rfl) (opens_struct Tryd.underlying51 (cells51.trans rfl) (fun m hm => (opens_field rfl (cells2.trans rfl) (opens_int Tryd.underlying2) (opens_field rfl (cells2.trans rfl) (opens_int Tryd.underlying2) (opens_field rfl (cells9.trans rfl) (opens_string Tryd.underlying9) (opens_last rfl (cells2.trans rfl) (opens_int Tryd.underlying2)))))))
/-- The plain statement. -/
def laws_FnExactValueText.Pure : Prop := ∀ (x0 : S51), wf51 x0 → ∃ k, laws_FnExactValueText.f k x0.f0 x0.f1 x0.f2 x0.f3 = some true
end Go.Proofs.YtpbjagjknaglgaaDoor.PFnExactValueText
