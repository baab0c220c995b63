/- The program's StackEffect returns what the reference's returns, for every instruction: both ask whether it is valid and read how many values it takes and leaves; no condition. -/
import Derived.Test.YtabbpnkbhapibaaYStackEffectA
import Derived.Test.YtabbpnkbhapibaaYStackEffectVValues
import Derived.Test.YtabbpnkbhapibaaYStackEffectVQuotes
import Derived.Test.YtabbpnkbhapibaaYStackEffectVInstrs
namespace Go.Proofs.Ytabbpnkbhapibaa.Pure
open Go.Proofs.Ytabbpnkbhapibaa.PureFnExactStackEffect Go.RowKit Go.Proofs.YtabbpnkbhapibaaG Go.Proofs.Ytabbpnkbhapibaa.PFnExactValidInstr Go.Proofs.YtabbpnkbhapibaaW.PrintWords Go.Proofs.YtabbpnkbhapibaaW.PrintLast Go.Proofs.YtabbpnkbhapibaaW.PrintMore

theorem core : laws_FnExactStackEffect.Core := by
  intro k n t g0 g1 g2
  obtain ⟨b, hs, hi, hb⟩ := ValidInstr_same k n t
  simp only [spec_StackEffect.f, impl_StackEffect.f]
  cases b with
  | false => exact ⟨(-1, -1), ev_bind hs (ev_neg Bool.false_ne_true (ev_some _)), ev_bind hi (ev_neg Bool.false_ne_true (ev_some _)), ⟨by decide, by decide⟩, by decide, by decide⟩
  | true =>
    obtain ⟨h0, h1, h13⟩ := hb rfl
    have hr := row_small k h0 h1
    refine ⟨_, ev_bind hs (ev_pos rfl (ev_bind (spec_effect_ev k n t h0 h1) (ev_some _))), ev_bind hi (ev_pos rfl (ev_bindc (impl_effect_eq k n t h0 h1) (ev_some _))), ?_, ?_⟩
    · show -9223372036854775808 ≤ (if k = 13 then n else (rowI k).f5) ∧ (if k = 13 then n else (rowI k).f5) ≤ 9223372036854775807
      split <;> omega
    · show -9223372036854775808 ≤ (rowI k).f6 ∧ (rowI k).f6 ≤ 9223372036854775807
      omega
theorem FnExactStackEffect : laws_FnExactStackEffect.Pure := close core
end Go.Proofs.Ytabbpnkbhapibaa.Pure
