/- What the law FnExactSameScope's arguments are, as plain values, and its plain statement; no condition. -/
import Derived.Test.YtnneadpahjkhgaaGOpen
import Derived.Test.YtnneadpahjkhgaaPFnExactSameScopex0
import Derived.Test.YtnneadpahjkhgaaPFnExactSameScopex9
import Derived.KernelRfl
namespace Go.Proofs.Ytnneadpahjkhgaa.PFnExactSameScope
open Go.RowKit Go.Proofs.YtnneadpahjkhgaaG Go.Proofs.YtnneadpahjkhgaaW.PrintWords Go.Proofs.YtnneadpahjkhgaaW.PrintLast Go.Proofs.YtnneadpahjkhgaaW.PrintMore
set_option linter.unusedVariables false
theorem cells2 : Try.prog.cellsOf 2 = 1 := by kernel_rfl
theorem cells9 : Try.prog.cellsOf 9 = 1 := by kernel_rfl
theorem cells33 : Try.prog.cellsOf 33 = 1 := by kernel_rfl
theorem cells46 : Try.prog.cellsOf 46 = 1 := by kernel_rfl
theorem cells47 : Try.prog.cellsOf 47 = 1 := by kernel_rfl
theorem cells48 : Try.prog.cellsOf 48 = 1 := by kernel_rfl
theorem cells50 : Try.prog.cellsOf 50 = 3 := by kernel_rfl
theorem cells132 : Try.prog.cellsOf 132 = 4 := by kernel_rfl
theorem cells134 : Try.prog.cellsOf 134 = 5 := by kernel_rfl
theorem cells136 : Try.prog.cellsOf 136 = 4 := by kernel_rfl
theorem cells138 : Try.prog.cellsOf 138 = 2 := by kernel_rfl
def wf132 (x : S132) : Prop := (WInt .i64) x.f0 ∧ (WInt .i64) x.f1 ∧ WStr x.f2 ∧ (WInt .i64) x.f3
theorem opens132 : ∀ n, Opens Try.prog n 132 k132 wf132 := fun n => opens_iso (fun x : S132 => (x.f0, x.f1, x.f2, x.f3)) (fun a => (⟨a.1, a.2.1, a.2.2.1, a.2.2.2⟩ : S132)) (fun _ => rfl) (opens_struct Try.underlying132 (cells132.trans rfl) (fun m hm => (opens_field rfl (cells2.trans rfl) (opens_int Try.underlying2) (opens_field rfl (cells2.trans rfl) (opens_int Try.underlying2) (opens_field rfl (cells9.trans rfl) (opens_string Try.underlying9) (opens_last rfl (cells2.trans rfl) (opens_int Try.underlying2)))))))
def wf134 (x : S134) : Prop := WStr x.f0 ∧ wf132 x.f1
theorem opens134 : ∀ n, Opens Try.prog n 134 k134 wf134 := fun n => opens_iso (fun x : S134 => (x.f0, x.f1)) (fun a => (⟨a.1, a.2⟩ : S134)) (fun _ => rfl) (opens_struct Try.underlying134 (cells134.trans rfl) (fun m hm => (opens_field rfl (cells9.trans rfl) (opens_string Try.underlying9) (opens_last rfl (cells132.trans rfl) (opens132 m)))))
def wf136 (x : S136) : Prop := WStr x.f0 ∧ (WList WStr) x.f1 ∧ (WList WStr) x.f2 ∧ WStr x.f3
theorem opens136 : ∀ n, Opens Try.prog n 136 k136 wf136 := fun n => opens_iso (fun x : S136 => (x.f0, x.f1, x.f2, x.f3)) (fun a => (⟨a.1, a.2.1, a.2.2.1, a.2.2.2⟩ : S136)) (fun _ => rfl) (opens_struct Try.underlying136 (cells136.trans rfl) (fun m hm => (opens_field rfl (cells9.trans rfl) (opens_string Try.underlying9) (opens_field rfl (cells33.trans rfl) (opens_slice Try.underlying33 (cells9.trans rfl) (fun j hj => (opens_string Try.underlying9))) (opens_field rfl (cells33.trans rfl) (opens_slice Try.underlying33 (cells9.trans rfl) (fun j hj => (opens_string Try.underlying9))) (opens_last rfl (cells9.trans rfl) (opens_string Try.underlying9)))))))
def wf138 (x : S138) : Prop := WStr x.f0 ∧ (WList WStr) x.f1
theorem opens138 : ∀ n, Opens Try.prog n 138 k138 wf138 := fun n => opens_iso (fun x : S138 => (x.f0, x.f1)) (fun a => (⟨a.1, a.2⟩ : S138)) (fun _ => rfl) (opens_struct Try.underlying138 (cells138.trans rfl) (fun m hm => (opens_field rfl (cells9.trans rfl) (opens_string Try.underlying9) (opens_last rfl (cells33.trans rfl) (opens_slice Try.underlying33 (cells9.trans rfl) (fun j hj => (opens_string Try.underlying9)))))))
def wf50 (x : S50) : Prop := (WList wf134) x.f0 ∧ (WList wf136) x.f1 ∧ (WList wf138) x.f2
theorem opens50 : ∀ n, Opens Try.prog n 50 k50 wf50 := fun n => opens_iso (fun x : S50 => (x.f0, x.f1, x.f2)) (fun a => (⟨a.1, a.2.1, a.2.2⟩ : S50)) (fun _ => rfl) (opens_struct Try.underlying50 (cells50.trans rfl) (fun m hm => (opens_field rfl (cells46.trans rfl) (opens_slice Try.underlying46 (cells134.trans rfl) (fun j hj => (opens134 j))) (opens_field rfl (cells47.trans rfl) (opens_slice Try.underlying47 (cells136.trans rfl) (fun j hj => (opens136 j))) (opens_last rfl (cells48.trans rfl) (opens_slice Try.underlying48 (cells138.trans rfl) (fun j hj => (opens138 j))))))))
/-- The plain statement. -/
def laws_FnExactSameScope.Pure : Prop := ∀ (x0 : S50) (x1 : S50), wf50 x0 → wf50 x1 → ∃ k, laws_FnExactSameScope.f k x0.f0 x0.f1 x0.f2 x1.f0 x1.f1 x1.f2 = some true
end Go.Proofs.Ytnneadpahjkhgaa.PFnExactSameScope
