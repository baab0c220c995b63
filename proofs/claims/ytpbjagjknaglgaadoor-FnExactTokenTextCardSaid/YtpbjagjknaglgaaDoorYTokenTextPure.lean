/- The program's TokenText returns what the reference's returns, for every token: both ask whether it is valid and spell its kind; no condition. -/
import Derived.Test.YtpbjagjknaglgaaDoorYTokenTextA
import Derived.Test.YtpbjagjknaglgaaDoorYTokenTextVValues
import Derived.Test.YtpbjagjknaglgaaDoorYTokenTextVQuotes
import Derived.Test.YtpbjagjknaglgaaDoorYTokenTextVDigits
import Derived.Test.YtpbjagjknaglgaaDoorYTokenTextVTokens
namespace Go.Proofs.YtpbjagjknaglgaaDoor.Pure
open Go.Proofs.YtpbjagjknaglgaaDoor.PureFnExactTokenText Go.RowKit Go.Proofs.YtpbjagjknaglgaaDoorG Go.Proofs.YtpbjagjknaglgaaDoor.PFnExactTokenText Go.Proofs.YtpbjagjknaglgaaDoorW.PrintWords Go.Proofs.YtpbjagjknaglgaaDoorW.PrintLast Go.Proofs.YtpbjagjknaglgaaDoorW.PrintMore

theorem textT_size (k n : Int) (t : ByteArray) (ht : t.size ≤ 1048576) (h : tokV k n t = true) : (textT k n t).size ≤ 1048576 := by
  unfold textT
  by_cases h2 : k = 2
  · subst h2
    have := tok_two h
    rw [if_pos rfl]; have := itoa_size n (by omega) (by omega); omega
  · rw [if_neg h2]
    by_cases h3 : k = 3
    · rw [if_pos h3]; have := quoted_size t; omega
    · rw [if_neg h3]
      by_cases h1 : k = 1
      · rw [if_pos h1]; exact ht
      · rw [if_neg h1]
        by_cases h4 : k = 4
        · rw [if_pos h4]; exact ht
        · rw [if_neg h4]
          have := tok_rest h h1 h2 h3 h4
          have : k = 5 ∨ k = 6 ∨ k = 7 ∨ k = 8 ∨ k = 9 ∨ k = 10 := by omega
          rcases this with rfl | rfl | rfl | rfl | rfl | rfl <;> decide
theorem core : laws_FnExactTokenText.Core := by
  intro k n t a b g0 g1 g2 g3 g4
  simp only [spec_TokenText.f, impl_TokenText.f]
  cases hv : tokV k n t with
  | false =>
    have hs := spec_ValidToken_ev k n t a b
    have hi := impl_ValidToken_ev k n t a b
    rw [hv] at hs hi
    exact ⟨_, ev_bind hs (ev_neg Bool.false_ne_true (ev_some _)), ev_bind hi (ev_neg Bool.false_ne_true (ev_some _)), by show (0 : Nat) ≤ 1048576; omega⟩
  | true =>
    have hs := spec_ValidToken_ev k n t a b
    have hi := impl_ValidToken_ev k n t a b
    rw [hv] at hs hi
    exact ⟨_, ev_bind hs (ev_pos rfl (ev_bind (spec_text_ev k n t a b hv) (ev_some _))), ev_bind hi (ev_pos rfl (ev_bind (impl_text_ev k n t a b hv) (ev_some _))), textT_size k n t g2.size hv⟩
theorem FnExactTokenText : laws_FnExactTokenText.Pure := close core
end Go.Proofs.YtpbjagjknaglgaaDoor.Pure
