/- The program's ReplaceMatch returns what the reference's returns, for every subject, match and text: both cut at the same places and ask whether the sum is short; no condition. -/
import Derived.Test.YtcnganocdjcbdabAFnExactReplaceMatch
namespace Go.Proofs.Ytcnganocdjcbdab.Pure
open Go.Proofs.Ytcnganocdjcbdab.PureFnExactReplaceMatch Go.RowKit Go.Proofs.YtcnganocdjcbdabG Go.Proofs.Ytcnganocdjcbdab.PFnExactReplaceMatch Go.Proofs.YtcnganocdjcbdabW.PrintWords Go.Proofs.YtcnganocdjcbdabW.PrintLast Go.Proofs.YtcnganocdjcbdabW.PrintMore
set_option linter.unusedSimpArgs false

theorem fitsS (s : ByteArray) (x y : Int) (l : List S30) : spec_l12Fits.f s x y l = some (decide (0 ≤ x ∧ x ≤ y ∧ y ≤ (s.size : Int))) := by
  simp only [spec_l12Fits.f, spec_l00In.f]
  by_cases h1 : y ≥ 0 <;> by_cases h2 : y ≤ (s.size : Int) <;> by_cases h3 : x ≥ 0 <;> by_cases h4 : x ≤ y <;> simp [h1, h2, h3, h4] <;> omega
theorem fitsI (s : ByteArray) (x y : Int) (l : List S30) : impl_Match_fits.f x y l s = some (decide (0 ≤ x ∧ x ≤ y ∧ y ≤ (s.size : Int))) := by
  simp only [impl_Match_fits.f]
  by_cases h1 : x ≥ 0 <;> by_cases h2 : x ≤ y <;> by_cases h3 : y ≤ (s.size : Int) <;> simp [h1, h2, h3] <;> omega
theorem core : laws_FnExactReplaceMatch.Core := by
  intro s x y l t gs gx gy gl gt
  have hs := gs.size
  have ht := gt.size
  simp only [spec_ReplaceMatch.f, impl_ReplaceMatch.f, fitsS, fitsI, Option.bind_some]
  by_cases h : 0 ≤ x ∧ x ≤ y ∧ y ≤ (s.size : Int)
  · simp only [h, and_self, decide_true, if_true]
    have e1 : (s.extract 0 x.toNat).size = x.toNat := by rw [ByteArray.size_extract]; omega
    have e2 : (s.extract y.toNat s.size).size = s.size - y.toNat := by rw [ByteArray.size_extract]; omega
    have e3 : ((s.extract 0 x.toNat) ++ t ++ (s.extract y.toNat s.size)).size = x.toNat + t.size + (s.size - y.toNat) := by rw [ByteArray.size_append, ByteArray.size_append, e1, e2]
    have e4 : wrap64 (wrap64 (wrap64 (x + (t.size : Int)) + (s.size : Int)) - y) = x + t.size + s.size - y := by
      rw [wrap_id (x := x + (t.size : Int)) (by omega) (by omega), wrap_id (x := x + (t.size : Int) + (s.size : Int)) (by omega) (by omega), wrap_id (by omega) (by omega)]
    rw [e4, e1, e2]
    have c1 : x ≤ (s.size : Int) := by omega
    have c2 : x.toNat + t.size ≤ 9223372036854775807 := by omega
    have c3 : 0 ≤ y := by omega
    have c4 : x.toNat + t.size + (s.size - y.toNat) ≤ 9223372036854775807 := by omega
    simp only [c1, c2, c3, c4, if_true]
    simp only [impl_isShort.f, e3, Option.bind_some]
    by_cases c : x + t.size + s.size - y > 200
    · refine ⟨((⟨#[]⟩ : ByteArray), 6), ev_of_eq (if_pos c), ev_of_eq ?_, And.intro (show (0 : Nat) ≤ 1048576 by omega) (show (-9223372036854775808 : Int) ≤ 6 ∧ (6 : Int) ≤ 9223372036854775807 by omega)⟩
      rw [if_neg (by rw [decide_eq_true_eq]; omega)]
    · refine ⟨(s.extract 0 x.toNat ++ t ++ s.extract y.toNat s.size, 0), ev_of_eq (if_neg c), ev_of_eq ?_, And.intro (show (s.extract 0 x.toNat ++ t ++ s.extract y.toNat s.size).size ≤ 1048576 by omega) (show (-9223372036854775808 : Int) ≤ 0 ∧ (0 : Int) ≤ 9223372036854775807 by omega)⟩
      rw [if_pos (by rw [decide_eq_true_eq]; omega)]
  · simp only [h, decide_false, if_false, reduceCtorEq]
    exact ⟨((⟨#[]⟩ : ByteArray), 3), ev_some _, ev_some _, And.intro (show (0 : Nat) ≤ 1048576 by omega) (show (-9223372036854775808 : Int) ≤ 3 ∧ (3 : Int) ≤ 9223372036854775807 by omega)⟩
theorem FnExactReplaceMatch : laws_FnExactReplaceMatch.Pure := close core
end Go.Proofs.Ytcnganocdjcbdab.Pure
