/- The program's BuiltinNames returns what the reference's returns (a closed computation); no condition. -/
import Derived.Test.YtcnganocdjcbdaaPFnExactBuiltinNamesx2
namespace Go.Proofs.Ytcnganocdjcbdaa.Pure
open Go.RowKit Go.Proofs.Ytcnganocdjcbdaa.PFnExactBuiltinNames Go.Proofs.YtcnganocdjcbdaaW.PrintWords Go.Proofs.YtcnganocdjcbdaaW.PrintLast

/-- YOURS: ∃ k, laws_FnExactBuiltinNames.f k  = some true
What it reaches (each with k first where it has rounds; `.mono`: more rounds tell the same; `.l0`, ..: its loops, with `.mono_l`): spec_l17Predicates.f, spec_l17Strings.f, spec_l17Patterns.f, spec_l17Heaps.f, spec_l17Files.f, spec_l05Put.f, spec_BuiltinNames.f, impl_builtins.f, impl_BuiltinNames.f, laws_eqStringS.f, laws_markText.f, laws_markStringS.f, laws_heldStringS.f, laws_FnExactBuiltinNames.f -/
theorem FnExactBuiltinNames : laws_FnExactBuiltinNames.Pure := by
  exact ⟨300, by decide +kernel⟩

end Go.Proofs.Ytcnganocdjcbdaa.Pure
