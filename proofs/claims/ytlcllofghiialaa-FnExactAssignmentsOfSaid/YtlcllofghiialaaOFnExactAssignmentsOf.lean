/- What the law FnExactAssignmentsOf's arguments are, as plain values, and its plain statement; no condition. -/
import Derived.Test.YtlcllofghiialaaGOpen
import Derived.Test.YtlcllofghiialaaPFnExactAssignmentsOfx0
import Derived.Test.YtlcllofghiialaaPFnExactAssignmentsOfx5
import Derived.KernelRfl
namespace Go.Proofs.Ytlcllofghiialaa.PFnExactAssignmentsOf
open Go.RowKit Go.Proofs.YtlcllofghiialaaG Go.Proofs.YtlcllofghiialaaW.PrintWords Go.Proofs.YtlcllofghiialaaW.PrintLast Go.Proofs.YtlcllofghiialaaW.PrintMore
set_option linter.unusedVariables false
theorem cells2 : Try.prog.cellsOf 2 = 1 := by kernel_rfl
theorem cells9 : Try.prog.cellsOf 9 = 1 := by kernel_rfl
theorem cells22 : Try.prog.cellsOf 22 = 1 := by kernel_rfl
theorem cells24 : Try.prog.cellsOf 24 = 3 := by kernel_rfl
theorem cells51 : Try.prog.cellsOf 51 = 4 := by kernel_rfl
def wf51 (x : S51) : Prop := WStr x.f0 ∧ WStr x.f1 ∧ (WInt .i64) x.f2 ∧ (WInt .i64) x.f3
theorem opens51 : ∀ n, Opens Try.prog n 51 k51 wf51 := fun n => opens_iso (fun x : S51 => (x.f0, x.f1, x.f2, x.f3)) (fun a => (⟨a.1, a.2.1, a.2.2.1, a.2.2.2⟩ : S51)) (fun _ => rfl) (opens_struct Try.underlying51 (cells51.trans rfl) (fun m hm => (opens_field rfl (cells9.trans rfl) (opens_string Try.underlying9) (opens_field rfl (cells9.trans rfl) (opens_string Try.underlying9) (opens_field rfl (cells2.trans rfl) (opens_int Try.underlying2) (opens_last rfl (cells2.trans rfl) (opens_int Try.underlying2)))))))
def wf24 (x : S24) : Prop := (WInt .i64) x.f0 ∧ (WInt .i64) x.f1 ∧ (WList wf51) x.f2
theorem opens24 : ∀ n, Opens Try.prog n 24 k24 wf24 := fun n => opens_iso (fun x : S24 => (x.f0, x.f1, x.f2)) (fun a => (⟨a.1, a.2.1, a.2.2⟩ : S24)) (fun _ => rfl) (opens_struct Try.underlying24 (cells24.trans rfl) (fun m hm => (opens_field rfl (cells2.trans rfl) (opens_int Try.underlying2) (opens_field rfl (cells2.trans rfl) (opens_int Try.underlying2) (opens_last rfl (cells22.trans rfl) (opens_slice Try.underlying22 (cells51.trans rfl) (fun j hj => (opens51 j))))))))
/-- The plain statement. -/
def laws_FnExactAssignmentsOf.Pure : Prop := ∀ (x0 : S24), wf24 x0 → ∃ k, laws_FnExactAssignmentsOf.f k x0.f0 x0.f1 x0.f2 = some true
end Go.Proofs.Ytlcllofghiialaa.PFnExactAssignmentsOf
