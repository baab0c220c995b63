/- What the law FnExactIsPureGen's arguments are, as plain values, and its plain statement; no condition. -/
import Derived.Test.YtfpkngdoijpafaaYVgW3
import Derived.Test.YtfpkngdoijpafaaYVgP0
import Derived.Test.YtfpkngdoijpafaaYVgP18
import Derived.KernelRfl
namespace Go.Proofs.Ytfpkngdoijpafaa.PFnExactValidGen
open Go.RowKit Go.Proofs.YtfpkngdoijpafaaG Go.Proofs.YtfpkngdoijpafaaW.PrintWords Go.Proofs.YtfpkngdoijpafaaW.PrintLast Go.Proofs.YtfpkngdoijpafaaW.PrintMore
set_option linter.unusedVariables false
theorem cells2 : Try.prog.cellsOf 2 = 1 := by kernel_rfl
theorem cells9 : Try.prog.cellsOf 9 = 1 := by kernel_rfl
theorem cells23 : Try.prog.cellsOf 23 = 4 := by kernel_rfl
theorem cells24 : Try.prog.cellsOf 24 = 1 := by kernel_rfl
theorem cells26 : Try.prog.cellsOf 26 = 8 := by kernel_rfl
def wf23 (x : S23) : Prop := (WInt .i64) x.f0 ∧ (WInt .i64) x.f1 ∧ WStr x.f2 ∧ (WInt .i64) x.f3
theorem opens23 : ∀ n, Opens Try.prog n 23 k23 wf23 := fun n => opens_iso (fun x : S23 => (x.f0, x.f1, x.f2, x.f3)) (fun a => (⟨a.1, a.2.1, a.2.2.1, a.2.2.2⟩ : S23)) (fun _ => rfl) (opens_struct Try.underlying23 (cells23.trans rfl) (fun m hm => (opens_field rfl (cells2.trans rfl) (opens_int Try.underlying2) (opens_field rfl (cells2.trans rfl) (opens_int Try.underlying2) (opens_field rfl (cells9.trans rfl) (opens_string Try.underlying9) (opens_last rfl (cells2.trans rfl) (opens_int Try.underlying2)))))))
inductive wf26 : S26 → Prop
  | mk (x : S26) (h0 : (WInt .i64) x.f0) (h1 : (WInt .i64) x.f1) (h2 : WStr x.f2) (h3 : wf23 x.f3) (l4 : x.f4.length ≤ 9223372036854775807) (h4 : ∀ y, y ∈ x.f4 → wf26 y) : wf26 x
theorem opens26 : ∀ n, Opens Try.prog n 26 k26 wf26 := opens_fix mono26 (fun n d hd IH => opens_wf (opens_iso (fun x : S26 => (x.f0, x.f1, x.f2, x.f3, x.f4)) (fun a => (⟨a.1, a.2.1, a.2.2.1, a.2.2.2.1, a.2.2.2.2⟩ : S26)) (fun _ => rfl) (opens_struct Try.underlying26 (cells26.trans rfl) (fun m hm => (opens_field rfl (cells2.trans rfl) (opens_int Try.underlying2) (opens_field rfl (cells2.trans rfl) (opens_int Try.underlying2) (opens_field rfl (cells9.trans rfl) (opens_string Try.underlying9) (opens_field rfl (cells23.trans rfl) (opens23 m) (opens_last rfl (cells24.trans rfl) (opens_slice Try.underlying24 (cells26.trans hd.symm) (fun j hj => IH j (by omega))))))))))) (fun a ha => wf26.mk a ha.1 ha.2.1 ha.2.2.1 ha.2.2.2.1 ha.2.2.2.2.1 ha.2.2.2.2.2))
/-- The plain statement. -/
def laws_FnExactIsPureGen.Pure : Prop := ∀ (x0 : S26), wf26 x0 → ∃ k, laws_FnExactIsPureGen.f k x0.f0 x0.f1 x0.f2 x0.f3.f0 x0.f3.f1 x0.f3.f2 x0.f3.f3 x0.f4 = some true
end Go.Proofs.Ytfpkngdoijpafaa.PFnExactValidGen
