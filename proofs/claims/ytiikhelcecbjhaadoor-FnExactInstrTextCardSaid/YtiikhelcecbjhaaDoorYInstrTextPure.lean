/- The program's InstrText returns what the reference's returns, for every instruction: both ask whether it is valid and spell its form; no condition. -/
import Derived.Test.YtiikhelcecbjhaaDoorYInstrTextA
import Derived.Test.YtiikhelcecbjhaaDoorYInstrTextVValues
import Derived.Test.YtiikhelcecbjhaaDoorYInstrTextVQuotes
import Derived.Test.YtiikhelcecbjhaaDoorYInstrTextVInstrs
import Derived.Test.YtiikhelcecbjhaaDoorYInstrTextVDigits
namespace Go.Proofs.YtiikhelcecbjhaaDoor.Pure
open Go.Proofs.YtiikhelcecbjhaaDoor.PureFnExactInstrText Go.RowKit Go.Proofs.YtiikhelcecbjhaaDoorG Go.Proofs.YtiikhelcecbjhaaDoor.PFnExactInstrText Go.Proofs.YtiikhelcecbjhaaDoorW.PrintWords Go.Proofs.YtiikhelcecbjhaaDoorW.PrintLast Go.Proofs.YtiikhelcecbjhaaDoorW.PrintMore

theorem ev_eq {α : Type} {g : Nat → Option α} {a b : α} (h : Ev g a) (k : Ev g b) : a = b := by
  obtain ⟨n, hn⟩ := h
  obtain ⟨m, hm⟩ := k
  have := hn (n + m) (by omega)
  rw [hm (n + m) (by omega)] at this
  exact (Option.some.inj this).symm
def wordsI : List ByteArray := (spec_l24Words.f).getD []
theorem words_eq : spec_l24Words.f = some wordsI := rfl
theorem word_same (k : Int) (h0 : 1 ≤ k) (h1 : k ≤ 31) : rdOf ByteArray.empty wordsI k = (rowI k).f0 ∧ (fieldsI k).1 = (rowI k).f1 ∧ (k ≠ 2 → (fieldsI k).2 = (rowI k).f4) ∧ (rowI k).f0.size ≤ 12 := by
  rcases kinds31 h0 h1 with rfl | rfl | rfl | rfl | rfl | rfl | rfl | rfl | rfl | rfl | rfl | rfl | rfl | rfl | rfl | rfl | rfl | rfl | rfl | rfl | rfl | rfl | rfl | rfl | rfl | rfl | rfl | rfl | rfl | rfl | rfl <;> exact ⟨rfl, rfl, fun h => by first | rfl | exact absurd rfl h, by decide⟩
theorem cat_assoc (a b c : ByteArray) : (a ++ b) ++ c = a ++ (b ++ c) := by
  apply ByteArray.ext
  rw [ByteArray.data_append, ByteArray.data_append, ByteArray.data_append, ByteArray.data_append, Array.append_assoc]
def headI (k n : Int) : ByteArray := if (rowI k).f1 = true then (rowI k).f0 ++ ((⟨#[32]⟩ : ByteArray) ++ itoaB n) else (rowI k).f0
def tailI (k : Int) (t : ByteArray) (x : ByteArray) : ByteArray := if k = 2 then x ++ ((⟨#[32]⟩ : ByteArray) ++ quotedB t) else if (rowI k).f4 = true then x ++ ((⟨#[32]⟩ : ByteArray) ++ t) else x
theorem head_size (k n : Int) (h0 : 1 ≤ k) (h1 : k ≤ 31) (hn0 : -9223372036854775808 ≤ n) (hn1 : n ≤ 9223372036854775807) : (headI k n).size ≤ 50 := by
  have hw := (word_same k h0 h1).2.2.2
  have hi := itoa_size n hn0 hn1
  unfold headI
  split
  · rw [ByteArray.size_append, ByteArray.size_append]; show _ + (1 + _) ≤ 50; omega
  · omega
theorem spec_tail_ev (k n : Int) (t x : ByteArray) (h0 : 1 ≤ k) (h1 : k ≤ 31) (hx : x.size ≤ 50) (ht : t.size ≤ 1048576) : Ev (fun j => spec_InstrText.j0 j (fieldsI k).2 x k n t) (tailI k t x) := by
  have hq := quoted_size t
  refine ev_shift ?_; simp only [spec_InstrText.j0, tailI]
  by_cases h2 : k = 2
  · simp only [if_pos h2]
    refine ev_pos (by omega) (ev_bind (spec_QuoteString_ev t) (ev_pos (by omega) ?_))
    rw [cat_assoc]; exact ev_some _
  · simp only [if_neg h2]
    rw [(word_same k h0 h1).2.2.1 h2]
    exact ev_ite (ev_pos (by omega) (ev_pos (by omega) (ev_some _))) (ev_some _)
theorem impl_tail_ev (k n : Int) (t x : ByteArray) (a : ByteArray) (b : Bool) (c d : Int) (e f : Int) (hx : x.size ≤ 50) (ht : t.size ≤ 1048576) : Ev (fun j => impl_InstrText.j0 j x k n t a b c d (rowI k).f4 e f) (tailI k t x) := by
  have hq := quoted_size t
  refine ev_shift ?_; simp only [impl_InstrText.j0, tailI]
  by_cases h2 : k = 2
  · simp only [if_pos h2]
    exact ev_bind (impl_QuoteString_ev t) (ev_pos (by omega) (ev_pos (by omega) (ev_some _)))
  · simp only [if_neg h2]
    exact ev_ite (ev_pos (by omega) (ev_pos (by omega) (ev_some _))) (ev_some _)
theorem core : laws_FnExactInstrText.Core := by
  intro k n t g0 g1 g2
  have hn := g1.i64
  have ht := g2.size
  obtain ⟨b, hs, hi, hb⟩ := ValidInstr_same k n t
  simp only [spec_InstrText.f, impl_InstrText.f]
  cases b with
  | false => exact ⟨_, ev_bind hs (ev_neg Bool.false_ne_true (ev_some _)), ev_bind hi (ev_neg Bool.false_ne_true (ev_some _)), by show (0 : Nat) ≤ 1048576; omega⟩
  | true =>
    obtain ⟨h0, h1, _⟩ := hb rfl
    have hw := word_same k h0 h1
    have hsz := head_size k n h0 h1 hn.1 hn.2
    have hit := itoa_size n hn.1 hn.2
    have hl : (wordsI.length : Int) = 32 := rfl
    by_cases hall : (tailI k t (headI k n)).size ≤ 1048576
    · refine ⟨tailI k t (headI k n), ev_bind hs (ev_pos rfl (ev_bind (spec_fields_ev k h0 h1) (ev_bindc words_eq (ev_pos (by omega) (ev_pos (by omega) ?_))))), ev_bind hi (ev_pos rfl (ev_bindc (impl_form_at k n t h0 h1) ?_)), hall⟩
      · rw [hw.1, hw.2.1]
        have T := fun x hx => spec_tail_ev k n t x h0 h1 hx ht
        unfold headI at hsz ⊢
        by_cases hf : (rowI k).f1 = true
        · rw [if_pos hf] at hsz ⊢
          exact ev_pos hf (ev_bind (spec_digits_ev n hn.1 hn.2) (ev_pos (by omega) (ev_pos (by omega) (T _ hsz))))
        · rw [if_neg hf] at hsz ⊢
          exact ev_neg hf (T _ hsz)
      · have T := fun x hx => impl_tail_ev k n t x (rowI k).f0 (rowI k).f1 (rowI k).f2 (rowI k).f3 (rowI k).f5 (rowI k).f6 hx ht
        dsimp only
        unfold headI at hsz ⊢
        by_cases hf : (rowI k).f1 = true
        · rw [if_pos hf] at hsz ⊢
          exact ev_pos hf (ev_bindc (impl_decimal_eq n hn.1 hn.2) (ev_pos (by omega) (ev_pos (by omega) (T _ hsz))))
        · rw [if_neg hf] at hsz ⊢
          exact ev_neg hf (T _ hsz)
    · exfalso
      apply hall
      unfold tailI
      have hq := quoted_size t
      have hv : k ≠ 2 → (rowI k).f4 = true → t.size ≤ 12 := by
        intro h2 h4
        have hu := ev_eq hi (impl_ValidInstr_ev k n t h0 h1)
        have hu' := (Bool.and_eq_true _ _ ▸ hu.symm).1
        rw [textI, if_neg h2, if_pos h4, isNameS] at hu'
        simp only [Bool.and_eq_true, decide_eq_true_eq] at hu'
        exact hu'.1.1.2
      split
      · rw [ByteArray.size_append, ByteArray.size_append]; show _ + (1 + _) ≤ 1048576; omega
      · rename_i h2
        split
        · rename_i h4
          have := hv h2 h4
          rw [ByteArray.size_append, ByteArray.size_append]; show _ + (1 + _) ≤ 1048576; omega
        · omega
theorem FnExactInstrText : laws_FnExactInstrText.Pure := close core
end Go.Proofs.YtiikhelcecbjhaaDoor.Pure
