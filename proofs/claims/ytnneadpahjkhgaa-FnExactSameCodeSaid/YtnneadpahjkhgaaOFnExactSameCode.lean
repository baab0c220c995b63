/- What the law FnExactSameCode's arguments are, as plain values, and its plain statement; no condition. -/
import Derived.Test.YtnneadpahjkhgaaGOpen
import Derived.Test.YtnneadpahjkhgaaPFnExactSameCodex0
import Derived.Test.YtnneadpahjkhgaaPFnExactSameCodex5
import Derived.KernelRfl
namespace Go.Proofs.Ytnneadpahjkhgaa.PFnExactSameCode
open Go.RowKit Go.Proofs.YtnneadpahjkhgaaG Go.Proofs.YtnneadpahjkhgaaW.PrintWords Go.Proofs.YtnneadpahjkhgaaW.PrintLast Go.Proofs.YtnneadpahjkhgaaW.PrintMore
set_option linter.unusedVariables false
theorem cells2 : Try.prog.cellsOf 2 = 1 := by kernel_rfl
theorem cells9 : Try.prog.cellsOf 9 = 1 := by kernel_rfl
theorem cells22 : Try.prog.cellsOf 22 = 1 := by kernel_rfl
theorem cells23 : Try.prog.cellsOf 23 = 1 := by kernel_rfl
theorem cells25 : Try.prog.cellsOf 25 = 3 := by kernel_rfl
theorem cells123 : Try.prog.cellsOf 123 = 3 := by kernel_rfl
def wf123 (x : S123) : Prop := (WInt .i64) x.f0 ∧ (WInt .i64) x.f1 ∧ WStr x.f2
theorem opens123 : ∀ n, Opens Try.prog n 123 k123 wf123 := fun n => opens_iso (fun x : S123 => (x.f0, x.f1, x.f2)) (fun a => (⟨a.1, a.2.1, a.2.2⟩ : S123)) (fun _ => rfl) (opens_struct Try.underlying123 (cells123.trans rfl) (fun m hm => (opens_field rfl (cells2.trans rfl) (opens_int Try.underlying2) (opens_field rfl (cells2.trans rfl) (opens_int Try.underlying2) (opens_last rfl (cells9.trans rfl) (opens_string Try.underlying9))))))
def wf25 (x : S25) : Prop := (WList wf123) x.f0 ∧ (WList (WInt .i64)) x.f1 ∧ (WList (WInt .i64)) x.f2
theorem opens25 : ∀ n, Opens Try.prog n 25 k25 wf25 := fun n => opens_iso (fun x : S25 => (x.f0, x.f1, x.f2)) (fun a => (⟨a.1, a.2.1, a.2.2⟩ : S25)) (fun _ => rfl) (opens_struct Try.underlying25 (cells25.trans rfl) (fun m hm => (opens_field rfl (cells22.trans rfl) (opens_slice Try.underlying22 (cells123.trans rfl) (fun j hj => (opens123 j))) (opens_field rfl (cells23.trans rfl) (opens_slice Try.underlying23 (cells2.trans rfl) (fun j hj => (opens_int Try.underlying2))) (opens_last rfl (cells23.trans rfl) (opens_slice Try.underlying23 (cells2.trans rfl) (fun j hj => (opens_int Try.underlying2))))))))
/-- The plain statement. -/
def laws_FnExactSameCode.Pure : Prop := ∀ (x0 : S25) (x1 : S25), wf25 x0 → wf25 x1 → ∃ k, laws_FnExactSameCode.f k x0.f0 x0.f1 x0.f2 x1.f0 x1.f1 x1.f2 = some true
end Go.Proofs.Ytnneadpahjkhgaa.PFnExactSameCode
