/- What the functions on tokens come to: opB, tokV, textT. No condition. -/
import Derived.Test.YtpbjagjknaglgaaDoorYPrintTokensVQuotes
import Derived.Test.YtpbjagjknaglgaaDoorYPrintTokensVDigits
import Derived.Test.YtpbjagjknaglgaaDoorYPtP0
import Derived.Test.YtpbjagjknaglgaaDoorYPtP4
import Derived.Test.YtpbjagjknaglgaaDoorYPtP5
import Derived.Test.YtpbjagjknaglgaaDoorYPtP8
import Derived.Test.YtpbjagjknaglgaaDoorYPtP9
import Derived.Test.YtpbjagjknaglgaaDoorYPtP10
namespace Go.Proofs.YtpbjagjknaglgaaDoor.PureFnExactPrintTokens
open Go.RowKit Go.Proofs.YtpbjagjknaglgaaDoorG Go.Proofs.YtpbjagjknaglgaaDoor.PFnExactPrintTokens Go.Proofs.YtpbjagjknaglgaaDoorW.PrintWords Go.Proofs.YtpbjagjknaglgaaDoorW.PrintLast Go.Proofs.YtpbjagjknaglgaaDoorW.PrintMore
set_option linter.unusedSimpArgs false
set_option linter.unusedVariables false

theorem ite_or {c : Prop} [Decidable c] (b : Bool) : (if c then some true else some b) = some (decide c || b) := by
  by_cases h : c
  · rw [if_pos h, decide_eq_true h]; rfl
  · rw [if_neg h, decide_eq_false h]; rfl
theorem ev_and {b : Bool} {f : Nat → Option Bool} {c : Bool} (h : Ev f c) : Ev (fun n => if b = true then f n else some false) (b && c) := by
  cases b with
  | true => exact ev_pos rfl (by simpa using h)
  | false => exact ev_neg Bool.false_ne_true (ev_some _)
theorem ev_emp {s : ByteArray} {f : Nat → Option Bool} {b : Bool} (k : Ev f b) : Ev (fun n => if s.toList = ([] : List UInt8) then f n else some false) (s.toList.isEmpty && b) := by
  by_cases h : s.toList = []
  · rw [List.isEmpty_iff.2 h, Bool.true_and]; exact ev_pos h k
  · rw [show s.toList.isEmpty = false from by rw [← Bool.not_eq_true, List.isEmpty_iff]; exact h, Bool.false_and]; exact ev_neg h (ev_some _)
theorem ev_zero {n : Int} {f : Nat → Option Bool} {b : Bool} (k : Ev f b) : Ev (fun j => if n = 0 then f j else some false) (n == 0 && b) := by
  by_cases h : n = 0
  · rw [beq_iff_eq.2 h, Bool.true_and]; exact ev_pos h k
  · rw [beq_eq_false_iff_ne.2 h, Bool.false_and]; exact ev_neg h (ev_some _)
def opC (c : Int) : Bool := decide (c = 43) || (decide (c = 45) || (decide (c = 42) || (decide (c = 47) || (decide (c = 124) || (decide (c = 46) || (decide (c = 36) || (decide (c = 64) || (decide (c = 61) || false))))))))
def opB (s : ByteArray) : Bool := decide (s.size = 1) && opC (bt s 0)
theorem spec_op_eq (c : Int) : spec_l02Operator.f c = some (opC c) := by
  simp only [spec_l02Operator.f, ite_or, opC]
theorem spec_IsOperator_eq (s : ByteArray) : spec_IsOperator.f s = some (opB s) := by
  simp only [spec_IsOperator.f, spec_op_eq, Option.bind_some, opB]
  by_cases h : s.size = 1
  · rw [if_pos (by omega), if_pos (by omega), decide_eq_true h, Bool.true_and]
  · rw [if_neg (by omega), decide_eq_false h, Bool.false_and]
theorem byte_eq (c : UInt8) (n : Nat) (hn : n < 256) : (c == UInt8.ofNat n) = decide (((c.toNat : Nat) : Int) = (n : Int)) := by
  rw [Bool.eq_iff_iff, beq_iff_eq, decide_eq_true_eq]
  constructor
  · rintro rfl
    rw [UInt8.toNat_ofNat_of_lt' (by simpa using hn)]
  · intro h
    apply UInt8.toNat_inj.1
    rw [UInt8.toNat_ofNat_of_lt' (by simpa using hn)]
    omega
theorem ops_contains (c : UInt8) : ([43, 45, 42, 47, 124, 46, 36, 64, 61] : List UInt8).contains c = opC ((c.toNat : Nat) : Int) := by
  have e := fun n h => byte_eq c n h
  simp only [List.contains_cons, List.contains_nil, opC]
  rw [show (43 : UInt8) = UInt8.ofNat 43 from rfl, show (45 : UInt8) = UInt8.ofNat 45 from rfl, show (42 : UInt8) = UInt8.ofNat 42 from rfl, show (47 : UInt8) = UInt8.ofNat 47 from rfl, show (124 : UInt8) = UInt8.ofNat 124 from rfl, show (46 : UInt8) = UInt8.ofNat 46 from rfl, show (36 : UInt8) = UInt8.ofNat 36 from rfl, show (64 : UInt8) = UInt8.ofNat 64 from rfl, show (61 : UInt8) = UInt8.ofNat 61 from rfl]
  rw [e 43 (by decide), e 45 (by decide), e 42 (by decide), e 47 (by decide), e 124 (by decide), e 46 (by decide), e 36 (by decide), e 64 (by decide), e 61 (by decide)]
  rfl
theorem impl_IsOperator_eq (s : ByteArray) : impl_IsOperator.f s = some (opB s) := by
  simp only [impl_IsOperator.f, opB]
  by_cases h : s.size = 1
  · rw [if_pos (by omega), decide_eq_true h, Bool.true_and]
    have hl : s.data.toList.length = 1 := by rw [data_length]; exact h
    obtain ⟨c, hc⟩ := List.length_eq_one_iff.1 hl
    obtain rfl : s = ⟨#[c]⟩ := ByteArray.ext (Array.toList_inj.1 (by rw [hc]))
    rw [contains_eq, holds_contains]
    show some (List.contains [43, 45, 42, 47, 124, 46, 36, 64, 61] c) = some (opC _)
    rw [ops_contains]
    rfl
  · rw [if_neg (by omega), decide_eq_false h, Bool.false_and]
def tokV (k n : Int) (t : ByteArray) : Bool :=
  if k = 1 then n == 0 && isNameS t
  else if k = 2 then t.toList.isEmpty && (decide (0 ≤ n) && decide (n ≤ 1000000000000))
  else if k = 3 then n == 0 && quoteS t
  else if k = 4 then n == 0 && opB t
  else (decide (5 ≤ k) && decide (k ≤ 10)) && (n == 0 && t.toList.isEmpty)
theorem spec_ValidToken_ev (k n : Int) (t : ByteArray) (a b : Bool) : Ev (fun j => spec_ValidToken.f j k n t a b) (tokV k n t) := by
  simp only [spec_ValidToken.f, spec_IsOperator_eq, spec_l00In_eq, Option.bind_some, tokV]
  refine ev_ite ?_ (ev_ite (ev_emp (ev_some _)) (ev_ite ?_ (ev_ite ?_ ?_)))
  · rw [Bool.and_comm]; exact ev_bind (spec_IsName_ev t) (ev_and (ev_some _))
  · rw [Bool.and_comm]; exact ev_bind (spec_CanQuote_ev t) (ev_and (ev_some _))
  · rw [Bool.and_comm]; exact ev_and (ev_some _)
  · rw [Bool.and_comm (n == 0)]; exact ev_and (ev_emp (ev_some _))
theorem impl_ValidToken_ev (k n : Int) (t : ByteArray) (a b : Bool) : Ev (fun j => impl_ValidToken.f j k n t a b) (tokV k n t) := by
  simp only [impl_ValidToken.f, impl_IsOperator_eq, impl_isNumber.f, impl_within_eq, Option.bind_some, tokV]
  exact ev_ite (ev_zero (ev_bind (impl_IsName_ev t) (ev_some _))) (ev_ite (ev_emp (ev_some _)) (ev_ite (ev_zero (ev_bind (impl_CanQuote_ev t) (ev_some _))) (ev_ite (ev_zero (ev_some _)) (ev_and (ev_zero (ev_some _))))))
theorem dec_bytes {m : Nat} (h : 10 ≤ m) : Lib.decDigits m = Lib.decDigits (m / 10) ++ [UInt8.ofNat (48 + m % 10)] := by
  rw [Lib.decDigits, dif_neg (by omega)]
theorem dec_small {m : Nat} (h : m < 10) : Lib.decDigits m = [UInt8.ofNat (48 + m)] := by rw [Lib.decDigits, dif_pos h]
theorem spec_int_loop (d : Nat) : ∀ (m : Nat) (l : List UInt8), m < 10 ^ (d + 1) → m ≤ 9223372036854775807 → l.length + d ≤ 1000 → Ev (fun k => spec_l02Int.l0 k (m : Int) ⟨l.toArray⟩) ⟨(Lib.decDigits m ++ l).toArray⟩ := by
  have last : ∀ (m : Nat) (l : List UInt8), m < 10 → l.length ≤ 1000 → Ev (fun k => spec_l02Int.l0 k (m : Int) ⟨l.toArray⟩) ⟨(Lib.decDigits m ++ l).toArray⟩ := by
    intro m l hm hl
    refine ev_shift ?_; simp only [spec_l02Int.l0]
    refine ev_neg (by omega) (ev_bindc rfl ?_)
    rw [wrap_id (x := 48 + (m : Int)) (by omega) (by omega), show (48 + (m : Int)) % 256 = ((48 + m : Nat) : Int) by omega, one_num _ (by omega), show (⟨#[UInt8.ofNat (48 + m)]⟩ : ByteArray) = ⟨([UInt8.ofNat (48 + m)] : List UInt8).toArray⟩ from rfl, cat_bytes, dec_small hm]
    exact ev_pos (by rw [size_bytes, size_bytes]; simp only [List.length_cons, List.length_nil]; omega) (ev_some _)
  induction d with
  | zero => exact fun m l hm _ hl => last m l (by simpa using hm) (by omega)
  | succ d ih =>
    intro m l hm hb hl
    by_cases h10 : m < 10
    · exact last m l h10 (by omega)
    · refine ev_shift ?_; simp only [spec_l02Int.l0]
      have e1 : Int.tmod (m : Int) 10 = ((m % 10 : Nat) : Int) := rfl
      have e2 : Int.tdiv (m : Int) 10 = ((m / 10 : Nat) : Int) := rfl
      rw [e1, e2]
      refine ev_pos (by omega) (ev_bindc rfl ?_)
      rw [wrap_id (x := 48 + ((m % 10 : Nat) : Int)) (by omega) (by omega), wrap_id (x := ((m / 10 : Nat) : Int)) (by omega) (by omega), show (48 + ((m % 10 : Nat) : Int)) % 256 = ((48 + m % 10 : Nat) : Int) by omega, one_num _ (by omega), show (⟨#[UInt8.ofNat (48 + m % 10)]⟩ : ByteArray) = ⟨([UInt8.ofNat (48 + m % 10)] : List UInt8).toArray⟩ from rfl, cat_bytes]
      refine ev_pos (by rw [size_bytes, size_bytes]; simp only [List.length_cons, List.length_nil]; omega) ?_
      have := ih (m / 10) (UInt8.ofNat (48 + m % 10) :: l) (by rw [Nat.pow_succ] at hm; omega) (by omega) (by simp only [List.length_cons]; omega)
      rw [dec_bytes (by omega)]
      simpa using this
theorem spec_int_ev (n : Int) (h0 : 0 ≤ n) (h1 : n ≤ 1000000000000) : Ev (fun k => spec_l02Int.f k n) (itoaB n) := by
  obtain ⟨m, rfl⟩ : ∃ m : Nat, n = (m : Int) := ⟨n.toNat, by omega⟩
  refine ev_shift ?_; simp only [spec_l02Int.f]
  refine ev_neg (by omega) ?_
  have := spec_int_loop 13 m [] (by omega) (by omega) (by simp)
  rw [List.append_nil] at this
  rw [itoaB, Lib.itoa, if_neg (by omega), Int.toNat_natCast]
  exact this
def marksT : List ByteArray := [(⟨#[40]⟩ : ByteArray), (⟨#[41]⟩ : ByteArray), (⟨#[60]⟩ : ByteArray), (⟨#[62]⟩ : ByteArray), (⟨#[44]⟩ : ByteArray), (⟨#[58]⟩ : ByteArray)]
def textT (k n : Int) (t : ByteArray) : ByteArray := if k = 2 then itoaB n else if k = 3 then quotedB t else if k = 1 then t else if k = 4 then t else rdOf ByteArray.empty marksT (k - 5)
theorem tok_two {n : Int} {t : ByteArray} (h : tokV 2 n t = true) : 0 ≤ n ∧ n ≤ 1000000000000 := by
  rw [show tokV 2 n t = (t.toList.isEmpty && (decide (0 ≤ n) && decide (n ≤ 1000000000000))) from rfl, Bool.and_eq_true, Bool.and_eq_true, decide_eq_true_eq, decide_eq_true_eq] at h
  exact h.2
theorem tok_rest {k n : Int} {t : ByteArray} (h : tokV k n t = true) (h1 : k ≠ 1) (h2 : k ≠ 2) (h3 : k ≠ 3) (h4 : k ≠ 4) : 5 ≤ k ∧ k ≤ 10 := by
  rw [tokV, if_neg h1, if_neg h2, if_neg h3, if_neg h4, Bool.and_eq_true, Bool.and_eq_true, decide_eq_true_eq, decide_eq_true_eq] at h
  exact h.1
theorem spec_text_ev (k n : Int) (t : ByteArray) (a b : Bool) (h : tokV k n t = true) : Ev (fun j => spec_l02Text.f j k n t a b) (textT k n t) := by
  simp only [spec_l02Text.f, textT]
  by_cases h2 : k = 2
  · subst h2
    have := tok_two h
    rw [if_pos rfl]; exact ev_pos rfl (ev_bind (spec_int_ev n this.1 this.2) (ev_some _))
  · rw [if_neg h2]; refine ev_neg h2 ?_
    by_cases h3 : k = 3
    · rw [if_pos h3]; exact ev_pos h3 (ev_bind (spec_QuoteString_ev t) (ev_some _))
    · rw [if_neg h3]; refine ev_neg h3 ?_
      by_cases h1 : k = 1
      · simp only [if_pos h1]; exact ev_some _
      · simp only [if_neg h1]
        by_cases h4 : k = 4
        · simp only [if_pos h4]; exact ev_some _
        · simp only [if_neg h4]
          refine ev_bindc (a := marksT) rfl ?_
          have := tok_rest h h1 h2 h3 h4
          have hl : (marksT.length : Int) = 6 := rfl
          rw [wrap_id (x := k - 5) (by omega) (by omega)]
          exact ev_pos (by omega) (ev_pos (by omega) (ev_some _))
theorem mark_cut (k : Int) (h0 : 5 ≤ k) (h1 : k ≤ 10) : (⟨#[40, 41, 60, 62, 44, 58]⟩ : ByteArray).extract (k - 5).toNat (k - 5 + 1).toNat = rdOf ByteArray.empty marksT (k - 5) := by
  have : k = 5 ∨ k = 6 ∨ k = 7 ∨ k = 8 ∨ k = 9 ∨ k = 10 := by omega
  rcases this with rfl | rfl | rfl | rfl | rfl | rfl <;> rfl
theorem impl_text_ev (k n : Int) (t : ByteArray) (a b : Bool) (h : tokV k n t = true) : Ev (fun j => impl_Token_text.f j k n t a b) (textT k n t) := by
  have J : ∀ c : Bool, (c = true ↔ (k = 1 ∨ k = 4)) → Ev (fun j => impl_Token_text.j0 j k c k n t a b) (textT k n t) := by
    intro c hc
    refine ev_shift ?_; simp only [impl_Token_text.j0, textT]
    by_cases h14 : k = 1 ∨ k = 4
    · refine ev_pos (hc.2 h14) ?_
      rcases h14 with rfl | rfl
      · exact ev_some _
      · exact ev_some _
    · refine ev_neg (fun e => h14 (hc.1 e)) ?_
      have h1 : k ≠ 1 := fun e => h14 (Or.inl e)
      have h4 : k ≠ 4 := fun e => h14 (Or.inr e)
      by_cases h2 : k = 2
      · subst h2
        have := tok_two h
        rw [if_pos rfl]; exact ev_pos rfl (ev_bindc (impl_decimal_eq n (by omega) (by omega)) (ev_some _))
      · rw [if_neg h2]; refine ev_neg h2 ?_
        by_cases h3 : k = 3
        · rw [if_pos h3]; exact ev_pos h3 (ev_bind (impl_QuoteString_ev t) (ev_some _))
        · rw [if_neg h3, if_neg h1, if_neg h4]; refine ev_neg h3 ?_
          have := tok_rest h h1 h2 h3 h4
          rw [wrap_id (x := k - 5) (by omega) (by omega), wrap_id (x := k - 5 + 1) (by omega) (by omega), mark_cut k this.1 this.2]
          exact ev_pos (by omega) (ev_pos (by omega) (ev_pos (by omega) (ev_some _)))
  simp only [impl_Token_text.f]
  by_cases h1 : k = 1
  · exact ev_pos h1 (J _ ⟨fun _ => Or.inl h1, fun _ => beq_iff_eq.2 h1⟩)
  · exact ev_neg h1 (J _ ⟨fun e => Or.inr (beq_iff_eq.1 e), fun e => e.elim (fun e => absurd e h1) (fun e => beq_iff_eq.2 e)⟩)
end Go.Proofs.YtpbjagjknaglgaaDoor.PureFnExactPrintTokens
