/- What the law FnExactNameOfValue's arguments are, as plain values, and its plain statement; no condition. -/
import Derived.Test.YtcnganocdjcbdaaGOpen
import Derived.Test.YtcnganocdjcbdaaPFnExactNameOfValuex0
import Derived.Test.YtcnganocdjcbdaaPFnExactNameOfValuex5
import Derived.KernelRfl
namespace Go.Proofs.Ytcnganocdjcbdaa.PFnExactNameOfValue
open Go.RowKit Go.Proofs.YtcnganocdjcbdaaG Go.Proofs.YtcnganocdjcbdaaW.PrintWords Go.Proofs.YtcnganocdjcbdaaW.PrintLast Go.Proofs.YtcnganocdjcbdaaW.PrintMore
set_option linter.unusedVariables false
theorem cells2 : Try.prog.cellsOf 2 = 1 := by kernel_rfl
theorem cells9 : Try.prog.cellsOf 9 = 1 := by kernel_rfl
theorem cells31 : Try.prog.cellsOf 31 = 4 := by kernel_rfl
def wf31 (x : S31) : Prop := (WInt .i64) x.f0 ∧ (WInt .i64) x.f1 ∧ WStr x.f2 ∧ (WInt .i64) x.f3
theorem opens31 : ∀ n, Opens Try.prog n 31 k31 wf31 := fun n => opens_iso (fun x : S31 => (x.f0, x.f1, x.f2, x.f3)) (fun a => (⟨a.1, a.2.1, a.2.2.1, a.2.2.2⟩ : S31)) (fun _ => rfl) (opens_struct Try.underlying31 (cells31.trans rfl) (fun m hm => (opens_field rfl (cells2.trans rfl) (opens_int Try.underlying2) (opens_field rfl (cells2.trans rfl) (opens_int Try.underlying2) (opens_field rfl (cells9.trans rfl) (opens_string Try.underlying9) (opens_last rfl (cells2.trans rfl) (opens_int Try.underlying2)))))))
/-- The plain statement. -/
def laws_FnExactNameOfValue.Pure : Prop := ∀ (x0 : S31), wf31 x0 → ∃ k, laws_FnExactNameOfValue.f k x0.f0 x0.f1 x0.f2 x0.f3 = some true
end Go.Proofs.Ytcnganocdjcbdaa.PFnExactNameOfValue
