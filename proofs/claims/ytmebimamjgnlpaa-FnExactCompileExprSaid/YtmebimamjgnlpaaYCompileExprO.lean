/- What the law FnExactCompileExpr's arguments are, as plain values, and its plain statement; no condition. -/
import Derived.Test.YtmebimamjgnlpaaYCeW3
import Derived.Test.YtmebimamjgnlpaaYCeP0
import Derived.Test.YtmebimamjgnlpaaYCeP20
import Derived.KernelRfl
namespace Go.Proofs.Ytmebimamjgnlpaa.PFnExactCompileExpr
open Go.RowKit Go.Proofs.YtmebimamjgnlpaaG Go.Proofs.YtmebimamjgnlpaaW.PrintWords Go.Proofs.YtmebimamjgnlpaaW.PrintLast Go.Proofs.YtmebimamjgnlpaaW.PrintMore
set_option linter.unusedVariables false
theorem cells2 : Try.prog.cellsOf 2 = 1 := by kernel_rfl
theorem cells9 : Try.prog.cellsOf 9 = 1 := by kernel_rfl
theorem cells36 : Try.prog.cellsOf 36 = 1 := by kernel_rfl
theorem cells38 : Try.prog.cellsOf 38 = 4 := by kernel_rfl
inductive wf38 : S38 → Prop
  | mk (x : S38) (h0 : (WInt .i64) x.f0) (h1 : (WInt .i64) x.f1) (h2 : WStr x.f2) (l3 : x.f3.length ≤ 9223372036854775807) (h3 : ∀ y, y ∈ x.f3 → wf38 y) : wf38 x
theorem opens38 : ∀ n, Opens Try.prog n 38 k38 wf38 := opens_fix mono38 (fun n d hd IH => opens_wf (opens_iso (fun x : S38 => (x.f0, x.f1, x.f2, x.f3)) (fun a => (⟨a.1, a.2.1, a.2.2.1, a.2.2.2⟩ : S38)) (fun _ => rfl) (opens_struct Try.underlying38 (cells38.trans rfl) (fun m hm => (opens_field rfl (cells2.trans rfl) (opens_int Try.underlying2) (opens_field rfl (cells2.trans rfl) (opens_int Try.underlying2) (opens_field rfl (cells9.trans rfl) (opens_string Try.underlying9) (opens_last rfl (cells36.trans rfl) (opens_slice Try.underlying36 (cells38.trans hd.symm) (fun j hj => IH j (by omega)))))))))) (fun a ha => wf38.mk a ha.1 ha.2.1 ha.2.2.1 ha.2.2.2.1 ha.2.2.2.2))
/-- The plain statement. -/
def laws_FnExactCompileExpr.Pure : Prop := ∀ (x0 : S38), wf38 x0 → ∃ k, laws_FnExactCompileExpr.f k x0.f0 x0.f1 x0.f2 x0.f3 = some true
end Go.Proofs.Ytmebimamjgnlpaa.PFnExactCompileExpr
