/- What the law FnExactSizeOf's arguments are, as plain values, and its plain statement; no condition. -/
import Derived.Test.YtamegncijkfbhaaYHsW3
import Derived.Test.YtamegncijkfbhaaYHsP0
import Derived.Test.YtamegncijkfbhaaYHsP36
import Derived.KernelRfl
namespace Go.Proofs.Ytamegncijkfbhaa.PFnExactFitsHeap
open Go.RowKit Go.Proofs.YtamegncijkfbhaaG Go.Proofs.YtamegncijkfbhaaW.PrintWords Go.Proofs.YtamegncijkfbhaaW.PrintLast Go.Proofs.YtamegncijkfbhaaW.PrintMore
set_option linter.unusedVariables false
theorem cells2 : Try.prog.cellsOf 2 = 1 := by kernel_rfl
theorem cells9 : Try.prog.cellsOf 9 = 1 := by kernel_rfl
theorem cells22 : Try.prog.cellsOf 22 = 1 := by kernel_rfl
theorem cells24 : Try.prog.cellsOf 24 = 4 := by kernel_rfl
theorem cells26 : Try.prog.cellsOf 26 = 10 := by kernel_rfl
theorem cells36 : Try.prog.cellsOf 36 = 1 := by kernel_rfl
theorem cells38 : Try.prog.cellsOf 38 = 2 := by kernel_rfl
def wf24 (x : S24) : Prop := (WInt .i64) x.f0 ∧ (WInt .i64) x.f1 ∧ WStr x.f2 ∧ (WInt .i64) x.f3
theorem opens24 : ∀ n, Opens Try.prog n 24 k24 wf24 := fun n => opens_iso (fun x : S24 => (x.f0, x.f1, x.f2, x.f3)) (fun a => (⟨a.1, a.2.1, a.2.2.1, a.2.2.2⟩ : S24)) (fun _ => rfl) (opens_struct Try.underlying24 (cells24.trans rfl) (fun m hm => (opens_field rfl (cells2.trans rfl) (opens_int Try.underlying2) (opens_field rfl (cells2.trans rfl) (opens_int Try.underlying2) (opens_field rfl (cells9.trans rfl) (opens_string Try.underlying9) (opens_last rfl (cells2.trans rfl) (opens_int Try.underlying2)))))))
def wf26 (x : S26) : Prop := (WInt .i64) x.f0 ∧ (WInt .i64) x.f1 ∧ WStr x.f2 ∧ (WInt .i64) x.f3 ∧ (WList wf24) x.f4 ∧ (WList wf24) x.f5 ∧ wf24 x.f6
theorem opens26 : ∀ n, Opens Try.prog n 26 k26 wf26 := fun n => opens_iso (fun x : S26 => (x.f0, x.f1, x.f2, x.f3, x.f4, x.f5, x.f6)) (fun a => (⟨a.1, a.2.1, a.2.2.1, a.2.2.2.1, a.2.2.2.2.1, a.2.2.2.2.2.1, a.2.2.2.2.2.2⟩ : S26)) (fun _ => rfl) (opens_struct Try.underlying26 (cells26.trans rfl) (fun m hm => (opens_field rfl (cells2.trans rfl) (opens_int Try.underlying2) (opens_field rfl (cells2.trans rfl) (opens_int Try.underlying2) (opens_field rfl (cells9.trans rfl) (opens_string Try.underlying9) (opens_field rfl (cells2.trans rfl) (opens_int Try.underlying2) (opens_field rfl (cells22.trans rfl) (opens_slice Try.underlying22 (cells24.trans rfl) (fun j hj => (opens24 j))) (opens_field rfl (cells22.trans rfl) (opens_slice Try.underlying22 (cells24.trans rfl) (fun j hj => (opens24 j))) (opens_last rfl (cells24.trans rfl) (opens24 m))))))))))
def wf38 (x : S38) : Prop := (WInt .i64) x.f0 ∧ (WList wf26) x.f1
theorem opens38 : ∀ n, Opens Try.prog n 38 k38 wf38 := fun n => opens_iso (fun x : S38 => (x.f0, x.f1)) (fun a => (⟨a.1, a.2⟩ : S38)) (fun _ => rfl) (opens_struct Try.underlying38 (cells38.trans rfl) (fun m hm => (opens_field rfl (cells2.trans rfl) (opens_int Try.underlying2) (opens_last rfl (cells36.trans rfl) (opens_slice Try.underlying36 (cells26.trans rfl) (fun j hj => (opens26 j)))))))
/-- The plain statement. -/
def laws_FnExactSizeOf.Pure : Prop := ∀ (x0 : S38) (x1 : S24), wf38 x0 → wf24 x1 → ∃ k, laws_FnExactSizeOf.f k x0.f0 x0.f1 x1.f0 x1.f1 x1.f2 x1.f3 = some true
end Go.Proofs.Ytamegncijkfbhaa.PFnExactFitsHeap
