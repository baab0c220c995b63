/- What the law FnExactGotoText's arguments are, as plain values, and its plain statement; no condition. -/
import Derived.Test.YtcnganocdjcbdaaGOpen
import Derived.Test.YtcnganocdjcbdaaPFnExactGotoTextx0
import Derived.Test.YtcnganocdjcbdaaPFnExactGotoTextx4
import Derived.KernelRfl
namespace Go.Proofs.Ytcnganocdjcbdaa.PFnExactGotoText
open Go.RowKit Go.Proofs.YtcnganocdjcbdaaG Go.Proofs.YtcnganocdjcbdaaW.PrintWords Go.Proofs.YtcnganocdjcbdaaW.PrintLast Go.Proofs.YtcnganocdjcbdaaW.PrintMore
set_option linter.unusedVariables false
theorem cells9 : Try.prog.cellsOf 9 = 1 := by kernel_rfl
theorem cells43 : Try.prog.cellsOf 43 = 3 := by kernel_rfl
def wf43 (x : S43) : Prop := WStr x.f0 ∧ WStr x.f1 ∧ WStr x.f2
theorem opens43 : ∀ n, Opens Try.prog n 43 k43 wf43 := fun n => opens_iso (fun x : S43 => (x.f0, x.f1, x.f2)) (fun a => (⟨a.1, a.2.1, a.2.2⟩ : S43)) (fun _ => rfl) (opens_struct Try.underlying43 (cells43.trans rfl) (fun m hm => (opens_field rfl (cells9.trans rfl) (opens_string Try.underlying9) (opens_field rfl (cells9.trans rfl) (opens_string Try.underlying9) (opens_last rfl (cells9.trans rfl) (opens_string Try.underlying9))))))
/-- The plain statement. -/
def laws_FnExactGotoText.Pure : Prop := ∀ (x0 : S43), wf43 x0 → ∃ k, laws_FnExactGotoText.f k x0.f0 x0.f1 x0.f2 = some true
end Go.Proofs.Ytcnganocdjcbdaa.PFnExactGotoText
