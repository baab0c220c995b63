/- What the law FnExactInstrText's arguments are, as plain values, and its plain statement; no condition. -/
import Derived.Test.YtiikhelcecbjhaaDoorYItW2
import Derived.Test.YtiikhelcecbjhaaDoorYItP0
import Derived.Test.YtiikhelcecbjhaaDoorYItP10
import Derived.KernelRfl
namespace Go.Proofs.YtiikhelcecbjhaaDoor.PFnExactInstrText
open Go.RowKit Go.Proofs.YtiikhelcecbjhaaDoorG Go.Proofs.YtiikhelcecbjhaaDoorW.PrintWords Go.Proofs.YtiikhelcecbjhaaDoorW.PrintLast Go.Proofs.YtiikhelcecbjhaaDoorW.PrintMore
set_option linter.unusedVariables false
theorem cells2 : Tryd.prog.cellsOf 2 = 1 := by kernel_rfl
theorem cells9 : Tryd.prog.cellsOf 9 = 1 := by kernel_rfl
theorem cells23 : Tryd.prog.cellsOf 23 = 3 := by kernel_rfl
def wf23 (x : S23) : Prop := (WInt .i64) x.f0 ∧ (WInt .i64) x.f1 ∧ WStr x.f2
theorem opens23 : ∀ n, Opens Tryd.prog n 23 k23 wf23 := fun n => opens_iso (fun x : S23 => (x.f0, x.f1, x.f2)) (fun a => (⟨a.1, a.2.1, a.2.2⟩ : S23)) (fun _ => rfl) (opens_struct Tryd.underlying23 (cells23.trans rfl) (fun m hm => (opens_field rfl (cells2.trans rfl) (opens_int Tryd.underlying2) (opens_field rfl (cells2.trans rfl) (opens_int Tryd.underlying2) (opens_last rfl (cells9.trans rfl) (opens_string Tryd.underlying9))))))
/-- The plain statement. -/
def laws_FnExactInstrText.Pure : Prop := ∀ (x0 : S23), wf23 x0 → ∃ k, laws_FnExactInstrText.f k x0.f0 x0.f1 x0.f2 = some true
end Go.Proofs.YtiikhelcecbjhaaDoor.PFnExactInstrText
