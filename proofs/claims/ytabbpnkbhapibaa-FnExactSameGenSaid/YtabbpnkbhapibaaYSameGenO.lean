/- What the law FnExactSameGen's arguments are, as plain values, and its plain statement; no condition. -/
import Derived.Test.YtabbpnkbhapibaaYSgW3
import Derived.Test.YtabbpnkbhapibaaYSgP0
import Derived.Test.YtabbpnkbhapibaaYSgP8
import Derived.KernelRfl
namespace Go.Proofs.Ytabbpnkbhapibaa.PFnExactSameGen
open Go.RowKit Go.Proofs.YtabbpnkbhapibaaG Go.Proofs.YtabbpnkbhapibaaW.PrintWords Go.Proofs.YtabbpnkbhapibaaW.PrintLast Go.Proofs.YtabbpnkbhapibaaW.PrintMore
set_option linter.unusedVariables false
theorem cells2 : Try.prog.cellsOf 2 = 1 := by kernel_rfl
theorem cells9 : Try.prog.cellsOf 9 = 1 := by kernel_rfl
theorem cells48 : Try.prog.cellsOf 48 = 4 := by kernel_rfl
theorem cells49 : Try.prog.cellsOf 49 = 1 := by kernel_rfl
theorem cells51 : Try.prog.cellsOf 51 = 8 := by kernel_rfl
def wf48 (x : S48) : Prop := (WInt .i64) x.f0 ∧ (WInt .i64) x.f1 ∧ WStr x.f2 ∧ (WInt .i64) x.f3
theorem opens48 : ∀ n, Opens Try.prog n 48 k48 wf48 := fun n => opens_iso (fun x : S48 => (x.f0, x.f1, x.f2, x.f3)) (fun a => (⟨a.1, a.2.1, a.2.2.1, a.2.2.2⟩ : S48)) (fun _ => rfl) (opens_struct Try.underlying48 (cells48.trans rfl) (fun m hm => (opens_field rfl (cells2.trans rfl) (opens_int Try.underlying2) (opens_field rfl (cells2.trans rfl) (opens_int Try.underlying2) (opens_field rfl (cells9.trans rfl) (opens_string Try.underlying9) (opens_last rfl (cells2.trans rfl) (opens_int Try.underlying2)))))))
inductive wf51 : S51 → Prop
  | mk (x : S51) (h0 : (WInt .i64) x.f0) (h1 : (WInt .i64) x.f1) (h2 : WStr x.f2) (h3 : wf48 x.f3) (l4 : x.f4.length ≤ 9223372036854775807) (h4 : ∀ y, y ∈ x.f4 → wf51 y) : wf51 x
theorem opens51 : ∀ n, Opens Try.prog n 51 k51 wf51 := opens_fix mono51 (fun n d hd IH => opens_wf (opens_iso (fun x : S51 => (x.f0, x.f1, x.f2, x.f3, x.f4)) (fun a => (⟨a.1, a.2.1, a.2.2.1, a.2.2.2.1, a.2.2.2.2⟩ : S51)) (fun _ => rfl) (opens_struct Try.underlying51 (cells51.trans rfl) (fun m hm => (opens_field rfl (cells2.trans rfl) (opens_int Try.underlying2) (opens_field rfl (cells2.trans rfl) (opens_int Try.underlying2) (opens_field rfl (cells9.trans rfl) (opens_string Try.underlying9) (opens_field rfl (cells48.trans rfl) (opens48 m) (opens_last rfl (cells49.trans rfl) (opens_slice Try.underlying49 (cells51.trans hd.symm) (fun j hj => IH j (by omega))))))))))) (fun a ha => wf51.mk a ha.1 ha.2.1 ha.2.2.1 ha.2.2.2.1 ha.2.2.2.2.1 ha.2.2.2.2.2))
/-- The plain statement. -/
def laws_FnExactSameGen.Pure : Prop := ∀ (x0 : S51) (x1 : S51), wf51 x0 → wf51 x1 → ∃ k, laws_FnExactSameGen.f k x0.f0 x0.f1 x0.f2 x0.f3.f0 x0.f3.f1 x0.f3.f2 x0.f3.f3 x0.f4 x1.f0 x1.f1 x1.f2 x1.f3.f0 x1.f3.f1 x1.f3.f2 x1.f3.f3 x1.f4 = some true
end Go.Proofs.Ytabbpnkbhapibaa.PFnExactSameGen
