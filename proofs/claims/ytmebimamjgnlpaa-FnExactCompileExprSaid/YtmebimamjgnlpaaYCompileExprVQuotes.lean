/- What the functions on printable and quotable texts come to: isPl, holdsB, quoteS. No condition. -/
import Derived.Test.YtmebimamjgnlpaaYCompileExprVValues
import Derived.Test.YtmebimamjgnlpaaYCeW3
import Derived.Lib.IndexAny
import Derived.Test.YtmebimamjgnlpaaYCeP0
import Derived.Test.YtmebimamjgnlpaaYCeP3
import Derived.Test.YtmebimamjgnlpaaYCeP4
import Derived.Test.YtmebimamjgnlpaaYCeP9
namespace Go.Proofs.Ytmebimamjgnlpaa.PureFnExactCompileExpr
open Go.RowKit Go.Proofs.YtmebimamjgnlpaaG Go.Proofs.Ytmebimamjgnlpaa.PFnExactCompileExpr Go.Proofs.YtmebimamjgnlpaaW.PrintWords Go.Proofs.YtmebimamjgnlpaaW.PrintLast Go.Proofs.YtmebimamjgnlpaaW.PrintMore
set_option linter.unusedSimpArgs false
set_option linter.unusedVariables false

def isPl (c : Int) : Bool := decide (32 ≤ c) && decide (c ≤ 126)
def prB (b : Bool) (c : Int) : Bool := isPl c || (b && decide (c = 10))
def plainS (s : ByteArray) : Bool := allN s.size (fun i => isPl (bt s (i : Int)))
def anyN (n : Nat) (P : Nat → Bool) : Bool := (List.range' 0 n).any P
theorem anyN_iff (n : Nat) (P : Nat → Bool) : anyN n P = true ↔ ∃ i, i < n ∧ P i = true := by
  simp [anyN, List.any_eq_true, List.mem_range'_1]
theorem idx_any {g : Nat → Int → Option Bool} (n : Nat) (P : Nat → Bool) (h0 : Ev (fun k => g k (n : Int)) false)
    (h1 : ∀ i, i < n → P i = false → ∀ r, Ev (fun k => g k ((i : Int) + 1)) r → Ev (fun k => g k (i : Int)) r)
    (h2 : ∀ i, i < n → P i = true → Ev (fun k => g k (i : Int)) true) : Ev (fun k => g k 0) (anyN n P) := by
  suffices h : ∀ d i : Nat, i + d = n → Ev (fun k => g k (i : Int)) ((List.range' i d).any P) from h n 0 (Nat.zero_add _)
  intro d
  induction d with
  | zero =>
    intro i hi
    have e : i = n := by omega
    subst e
    exact h0
  | succ d ih =>
    intro i hi
    rw [List.range'_succ, List.any_cons]
    cases hp : P i with
    | true => exact h2 i (by omega) hp
    | false => exact h1 i (by omega) hp _ (by simpa using ih (i + 1) (by omega))
theorem spec_printable_ev (s : ByteArray) (hs : s.size ≤ 9223372036854775807) (b : Bool) : Ev (fun k => spec_l01Printable.f k s b) (allN s.size (fun i => prB b (bt s (i : Int)))) := by
  simp only [spec_l01Printable.f]
  refine idx_all (g := fun k i => spec_l01Printable.l0 k s b i) s.size _ ?_ ?_ ?_
  · refine ev_shift ?_; simp only [spec_l01Printable.l0]; exact ev_neg (by omega) (ev_some _)
  · intro i hi hp r hr
    refine ev_shift ?_; simp only [spec_l01Printable.l0]
    rw [wrap_up (by omega) (show (i : Int) < (s.size : Int) by omega) hs]
    refine ev_pos (by omega) (ev_pos (by omega) ?_)
    simp only [prB, isPl, Bool.or_eq_true, Bool.and_eq_true, decide_eq_true_eq] at hp
    by_cases h1 : bt s (i : Int) < 32
    · rcases hp with hp | ⟨hb, hp⟩
      · exfalso; omega
      · exact ev_pos h1 (ev_pos hb (ev_pos hp hr))
    · refine ev_neg h1 ?_
      by_cases h2 : bt s (i : Int) > 126
      · rcases hp with hp | ⟨hb, hp⟩
        · exfalso; omega
        · exact ev_pos h2 (ev_pos hb (ev_pos hp hr))
      · exact ev_neg h2 hr
  · intro i hi hp
    refine ev_shift ?_; simp only [spec_l01Printable.l0]
    refine ev_pos (by omega) (ev_pos (by omega) ?_)
    simp only [prB, isPl, Bool.or_eq_false_iff, Bool.and_eq_false_iff, decide_eq_false_iff_not] at hp
    by_cases h1 : bt s (i : Int) < 32
    · refine ev_pos h1 ?_
      by_cases hb : b = true
      · exact ev_pos hb (ev_neg (by rcases hp.2 with h | h; · rw [hb] at h; cases h
                                    · exact h) (ev_some _))
      · exact ev_neg hb (ev_some _)
    · refine ev_neg h1 ?_
      by_cases h2 : bt s (i : Int) > 126
      · refine ev_pos h2 ?_
        by_cases hb : b = true
        · exact ev_pos hb (ev_neg (by rcases hp.2 with h | h; · rw [hb] at h; cases h
                                      · exact h) (ev_some _))
        · exact ev_neg hb (ev_some _)
      · exfalso; omega
theorem prB_false (c : Int) : prB false c = isPl c := by simp [prB]
theorem spec_plain_ev (s : ByteArray) (hs : s.size ≤ 9223372036854775807) : Ev (fun k => spec_l01Printable.f k s false) (plainS s) := by
  have := spec_printable_ev s hs false
  simp only [prB_false] at this
  exact this
theorem impl_isPlain_eq (c : Int) : impl_isPlain.f c = some (isPl c) := by
  simp only [impl_isPlain.f, isPl]; split <;> simp_all <;> omega
theorem impl_plains_ev (s : ByteArray) (hs : s.size ≤ 9223372036854775807) : Ev (fun k => impl_areAll_byte__impl_isPlain.f k (bytesOf s)) (plainS s) := by
  have hl : (bytesOf s).length = s.size := bytes_size s
  simp only [impl_areAll_byte__impl_isPlain.f]
  refine idx_all (g := fun k i => impl_areAll_byte__impl_isPlain.l0 k (bytesOf s) ((bytesOf s).length : Int) i) s.size _ ?_ ?_ ?_
  · refine ev_shift ?_; simp only [impl_areAll_byte__impl_isPlain.l0]; exact ev_neg (by omega) (ev_some _)
  · intro i hi hp r hr
    refine ev_shift ?_; simp only [impl_areAll_byte__impl_isPlain.l0, impl_isPlain_eq, Option.bind_some, rd_bytesOf]
    refine ev_pos (by omega) (ev_pos (by omega) (ev_pos (by omega) (ev_pos hp ?_)))
    rw [wrap_up (by omega) (show (i : Int) < (s.size : Int) by omega) hs]; exact hr
  · intro i hi hp
    refine ev_shift ?_; simp only [impl_areAll_byte__impl_isPlain.l0, impl_isPlain_eq, Option.bind_some, rd_bytesOf]
    exact ev_pos (by omega) (ev_pos (by omega) (ev_pos (by omega) (ev_neg (fun h => absurd (hp.symm.trans h) Bool.false_ne_true) (ev_some _))))
theorem impl_isPlainText_ev (s : ByteArray) (hs : s.size ≤ 9223372036854775807) : Ev (fun k => impl_isPlainText.f k s) (plainS s) := by
  simp only [impl_isPlainText.f, conv_eq s hs, Option.bind_some]
  exact ev_bind (impl_plains_ev s hs) (ev_some _)
def holdsB (s : ByteArray) (c : Int) : Bool := anyN s.size (fun i => bt s (i : Int) == c)
theorem spec_holds_ev (s : ByteArray) (hs : s.size ≤ 9223372036854775807) (c : Int) : Ev (fun k => spec_l02Holds.f k s c) (holdsB s c) := by
  simp only [spec_l02Holds.f]
  refine idx_any (g := fun k i => spec_l02Holds.l0 k s c i) s.size _ ?_ ?_ ?_
  · refine ev_shift ?_; simp only [spec_l02Holds.l0]; exact ev_neg (by omega) (ev_some _)
  · intro i hi hp r hr
    refine ev_shift ?_; simp only [spec_l02Holds.l0]
    refine ev_pos (by omega) (ev_pos (by omega) (ev_neg (beq_eq_false_iff_ne.1 hp) ?_))
    rw [wrap_up (by omega) (show (i : Int) < (s.size : Int) by omega) hs]; exact hr
  · intro i hi hp
    refine ev_shift ?_; simp only [spec_l02Holds.l0]
    exact ev_pos (by omega) (ev_pos (by omega) (ev_pos (beq_iff_eq.1 hp) (ev_some _)))
theorem bt_data (s : ByteArray) (i : Nat) (h : i < s.data.toList.length) : bt s (i : Int) = ((s.data.toList[i].toNat : Nat) : Int) := by
  have h' : i < s.size := by rw [← data_length]; exact h
  unfold bt
  rw [Int.toNat_natCast, dif_pos h']
  simp only [Array.getElem_toList]
  rfl
theorem holds_contains (s : ByteArray) (c : UInt8) : holdsB s (c.toNat : Int) = s.data.toList.contains c := by
  rw [Bool.eq_iff_iff, holdsB, anyN_iff, List.contains_iff_mem]
  constructor
  · rintro ⟨i, hi, hp⟩
    have h' : i < s.data.toList.length := by rw [data_length]; exact hi
    have e := beq_iff_eq.1 hp
    rw [bt_data s i h'] at e
    have : s.data.toList[i] = c := UInt8.toNat_inj.1 (by omega)
    rw [← this]; exact List.getElem_mem h'
  · intro h
    obtain ⟨i, hi, e⟩ := List.getElem_of_mem h
    refine ⟨i, by rw [← data_length]; exact hi, beq_iff_eq.2 ?_⟩
    rw [bt_data s i hi, e]
theorem contains_eq (s : ByteArray) (c : UInt8) : strings_Contains.f s (⟨#[c]⟩ : ByteArray) = some (holdsB s (c.toNat : Int)) := by
  rw [holds_contains, Lib.contains_iff_indexByte]
  rfl
def quoteS (s : ByteArray) : Bool := decide (s.size ≤ 200) && (plainS s && !(holdsB s 39 && holdsB s 34))
theorem spec_CanQuote_ev (s : ByteArray) : Ev (fun k => spec_CanQuote.f k s) (quoteS s) := by
  simp only [spec_CanQuote.f, quoteS]
  by_cases h : s.size ≤ 200
  · rw [decide_eq_true h, Bool.true_and]
    refine ev_pos (by omega) (ev_bind (spec_plain_ev s (by omega)) ?_)
    cases plainS s with
    | false => exact ev_neg Bool.false_ne_true (ev_some _)
    | true =>
      refine ev_pos rfl (ev_bind (spec_holds_ev s (by omega) 39) ?_)
      cases holdsB s 39 with
      | false => exact ev_neg Bool.false_ne_true (ev_some _)
      | true => exact ev_pos rfl (ev_bind (spec_holds_ev s (by omega) 34) (ev_some _))
  · rw [decide_eq_false h, Bool.false_and]
    exact ev_neg (by omega) (ev_some _)
theorem impl_CanQuote_ev (s : ByteArray) : Ev (fun k => impl_CanQuote.f k s) (quoteS s) := by
  simp only [impl_CanQuote.f, quoteS, contains_eq, Option.bind_some]
  by_cases h : s.size ≤ 200
  · rw [decide_eq_true h, Bool.true_and]
    refine ev_pos (by omega) (ev_bind (impl_isPlainText_ev s (by omega)) ?_)
    cases plainS s with
    | false => exact ev_neg Bool.false_ne_true (ev_some _)
    | true =>
      refine ev_pos rfl ?_
      show Ev (fun _ => if holdsB s 39 = true then some (!holdsB s 34) else some (!false)) (true && !(holdsB s 39 && holdsB s 34))
      cases holdsB s 39 with
      | false => exact ev_neg Bool.false_ne_true (ev_some _)
      | true => exact ev_pos rfl (ev_some _)
  · rw [decide_eq_false h, Bool.false_and]
    exact ev_neg (by omega) (ev_some _)
def quotedB (s : ByteArray) : ByteArray := if quoteS s = true then (if holdsB s 39 = true then ((⟨#[34]⟩ : ByteArray) ++ s) ++ (⟨#[34]⟩ : ByteArray) else ((⟨#[39]⟩ : ByteArray) ++ s) ++ (⟨#[39]⟩ : ByteArray)) else (⟨#[]⟩ : ByteArray)
theorem quote_size {s : ByteArray} (h : quoteS s = true) : s.size ≤ 200 := by
  rw [quoteS, Bool.and_eq_true] at h
  exact of_decide_eq_true h.1
theorem quoted_size (s : ByteArray) : (quotedB s).size ≤ 202 := by
  unfold quotedB
  split
  · rename_i h
    have := quote_size h
    split <;> (rw [ByteArray.size_append, ByteArray.size_append]; show 1 + s.size + 1 ≤ 202; omega)
  · show 0 ≤ 202; omega
end Go.Proofs.Ytmebimamjgnlpaa.PureFnExactCompileExpr
