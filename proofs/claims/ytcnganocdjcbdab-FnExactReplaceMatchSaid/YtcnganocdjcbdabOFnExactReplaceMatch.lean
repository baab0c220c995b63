/- What the law FnExactReplaceMatch's arguments are, as plain values, and its plain statement; no condition. -/
import Derived.Test.YtcnganocdjcbdabGOpen
import Derived.Test.YtcnganocdjcbdabPFnExactReplaceMatchx0
import Derived.Test.YtcnganocdjcbdabPFnExactReplaceMatchx2
import Derived.KernelRfl
namespace Go.Proofs.Ytcnganocdjcbdab.PFnExactReplaceMatch
open Go.RowKit Go.Proofs.YtcnganocdjcbdabG Go.Proofs.YtcnganocdjcbdabW.PrintWords Go.Proofs.YtcnganocdjcbdabW.PrintLast Go.Proofs.YtcnganocdjcbdabW.PrintMore
set_option linter.unusedVariables false
theorem cells2 : Try.prog.cellsOf 2 = 1 := by kernel_rfl
theorem cells9 : Try.prog.cellsOf 9 = 1 := by kernel_rfl
theorem cells43 : Try.prog.cellsOf 43 = 1 := by kernel_rfl
theorem cells45 : Try.prog.cellsOf 45 = 3 := by kernel_rfl
theorem cells111 : Try.prog.cellsOf 111 = 4 := by kernel_rfl
def wf111 (x : S111) : Prop := WStr x.f0 ∧ WStr x.f1 ∧ (WInt .i64) x.f2 ∧ (WInt .i64) x.f3
theorem opens111 : ∀ n, Opens Try.prog n 111 k111 wf111 := fun n => opens_iso (fun x : S111 => (x.f0, x.f1, x.f2, x.f3)) (fun a => (⟨a.1, a.2.1, a.2.2.1, a.2.2.2⟩ : S111)) (fun _ => rfl) (opens_struct Try.underlying111 (cells111.trans rfl) (fun m hm => (opens_field rfl (cells9.trans rfl) (opens_string Try.underlying9) (opens_field rfl (cells9.trans rfl) (opens_string Try.underlying9) (opens_field rfl (cells2.trans rfl) (opens_int Try.underlying2) (opens_last rfl (cells2.trans rfl) (opens_int Try.underlying2)))))))
def wf45 (x : S45) : Prop := (WInt .i64) x.f0 ∧ (WInt .i64) x.f1 ∧ (WList wf111) x.f2
theorem opens45 : ∀ n, Opens Try.prog n 45 k45 wf45 := fun n => opens_iso (fun x : S45 => (x.f0, x.f1, x.f2)) (fun a => (⟨a.1, a.2.1, a.2.2⟩ : S45)) (fun _ => rfl) (opens_struct Try.underlying45 (cells45.trans rfl) (fun m hm => (opens_field rfl (cells2.trans rfl) (opens_int Try.underlying2) (opens_field rfl (cells2.trans rfl) (opens_int Try.underlying2) (opens_last rfl (cells43.trans rfl) (opens_slice Try.underlying43 (cells111.trans rfl) (fun j hj => (opens111 j))))))))
/-- The plain statement. -/
def laws_FnExactReplaceMatch.Pure : Prop := ∀ (x0 : ByteArray) (x1 : S45) (x2 : ByteArray), WStr x0 → wf45 x1 → WStr x2 → ∃ k, laws_FnExactReplaceMatch.f k x0 x1.f0 x1.f1 x1.f2 x2 = some true
end Go.Proofs.Ytcnganocdjcbdab.PFnExactReplaceMatch
