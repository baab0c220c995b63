/- The program's NameOfValue returns what the reference's returns, for every value: both ask whether the value is valid and a name; no condition. -/
import Derived.Test.YtcnganocdjcbdaaOFnExactNameOfValue
import Derived.Test.YtcnganocdjcbdaaVFnExactNameOfValueValues
namespace Go.Proofs.Ytcnganocdjcbdaa.Pure
open Go.RowKit Go.Proofs.YtcnganocdjcbdaaG Go.Proofs.Ytcnganocdjcbdaa.PFnExactNameOfValue Go.Proofs.YtcnganocdjcbdaaW.PrintWords Go.Proofs.YtcnganocdjcbdaaW.PrintLast Go.Proofs.YtcnganocdjcbdaaW.PrintMore Go.Proofs.Ytcnganocdjcbdaa.PureFnExactNameOfValue

theorem FnExactNameOfValue : laws_FnExactNameOfValue.Pure := by
  intro x _
  obtain ⟨K1, h1⟩ := spec_ValidValue_ev x.f0 x.f1 x.f2 x.f3
  obtain ⟨K2, h2⟩ := impl_ValidValue_ev x.f0 x.f1 x.f2 x.f3
  obtain ⟨K3, h3⟩ := spec_IsName_ev x.f2
  obtain ⟨K4, h4⟩ := impl_IsName_ev x.f2
  have e1 := h1 (K1 + K2 + K3 + K4) (by omega)
  have e2 := h2 (K1 + K2 + K3 + K4) (by omega)
  have e3 := h3 (K1 + K2 + K3 + K4) (by omega)
  have e4 := h4 (K1 + K2 + K3 + K4) (by omega)
  refine ⟨K1 + K2 + K3 + K4, ?_⟩
  generalize K1 + K2 + K3 + K4 = k at e1 e2 e3 e4
  have hs : laws_szValue.f x.f0 x.f1 x.f2 x.f3 1048576 = some (if (wrap64 (1048576 - (x.f2.size : Int))) < 0 then -1 else (wrap64 (1048576 - (x.f2.size : Int)))) := by
    simp only [laws_szValue.f]; split <;> rfl
  simp only [laws_FnExactNameOfValue.f, hs, laws_toValue.f, spec_NameOfValue.f, impl_NameOfValue.f, e1, e2, e3, e4, Option.bind_some]
  split
  · rfl
  · cases validV x.f0 x.f1 x.f2 x.f3 <;> cases isNameS x.f2 <;> by_cases a : x.f0 = 7 <;> by_cases b : x.f0 = 1 <;> simp [a, b]

end Go.Proofs.Ytcnganocdjcbdaa.Pure
