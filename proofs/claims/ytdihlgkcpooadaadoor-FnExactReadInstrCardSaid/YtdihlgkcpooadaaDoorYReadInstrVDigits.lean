/- What the functions that spell numbers come to: Lib.itoa. No condition. -/
import Derived.Test.YtdihlgkcpooadaaDoorYRiW3
import Derived.Test.YtdihlgkcpooadaaDoorYReadInstrO
import Derived.Lib.ItoaNum
import Derived.Test.YtdihlgkcpooadaaDoorYRiP0
import Derived.Test.YtdihlgkcpooadaaDoorYRiP3
import Derived.Test.YtdihlgkcpooadaaDoorYRiP13
namespace Go.Proofs.YtdihlgkcpooadaaDoor.PureFnExactReadInstr
open Go.RowKit Go.Proofs.YtdihlgkcpooadaaDoorG Go.Proofs.YtdihlgkcpooadaaDoor.PFnExactReadInstr Go.Proofs.YtdihlgkcpooadaaDoorW.PrintWords Go.Proofs.YtdihlgkcpooadaaDoorW.PrintLast Go.Proofs.YtdihlgkcpooadaaDoorW.PrintMore
set_option linter.unusedSimpArgs false
set_option linter.unusedVariables false

def itoaB (n : Int) : ByteArray := ⟨(Lib.itoa n).toArray⟩
def decOf (m : Nat) : List UInt8 := if m = 0 then [] else Lib.decDigits m
theorem decOf_step {m : Nat} (h : m ≠ 0) : decOf m = decOf (m / 10) ++ [UInt8.ofNat (48 + m % 10)] := by
  rw [decOf, if_neg h, Lib.decDigits]
  by_cases h1 : m < 10
  · rw [dif_pos h1, decOf, if_pos (by omega), Nat.mod_eq_of_lt h1]; rfl
  · rw [dif_neg h1, decOf, if_neg (by omega)]
theorem decOf_length : ∀ (d m : Nat), m < 10 ^ d → (decOf m).length ≤ d := by
  intro d
  induction d with
  | zero => intro m h; rw [decOf, if_pos (by simpa using h)]; simp
  | succ d ih =>
    intro m h
    by_cases h0 : m = 0
    · rw [decOf, if_pos h0]; simp
    · rw [decOf_step h0, List.length_append]
      have := ih (m / 10) (by rw [Nat.pow_succ] at h; omega)
      simpa using this
theorem one_num (c : Nat) (h : c < 256) : strOfNums [(c : Int)] = ⟨#[UInt8.ofNat c]⟩ := by
  simp [strOfNums]
theorem itoa_pos (m : Nat) (h : m ≠ 0) : itoaB (m : Int) = ⟨(decOf m).toArray⟩ := by
  rw [itoaB, Lib.itoa, if_neg (by omega), decOf, if_neg h, Int.toNat_natCast]
theorem itoa_neg (m : Nat) (h : m ≠ 0) : itoaB (-(m : Int)) = ⟨(45 :: decOf m).toArray⟩ := by
  rw [itoaB, Lib.itoa, if_pos (by omega), decOf, if_neg h, Int.natAbs_neg, Int.natAbs_natCast]
theorem itoa_size (n : Int) (h0 : -9223372036854775808 ≤ n) (h1 : n ≤ 9223372036854775807) : (itoaB n).size ≤ 21 := by
  obtain ⟨m, hm⟩ : ∃ m : Nat, n = (m : Int) ∨ n = -(m : Int) := ⟨n.natAbs, by omega⟩
  have hp : m < 10 ^ 20 := by omega
  have hl := decOf_length 20 m hp
  by_cases h : m = 0
  · subst h
    have : n = 0 := by omega
    subst this
    rw [itoaB, Lib.itoa, if_neg (by decide), show (0 : Int).toNat = 0 from rfl, Lib.decDigits, dif_pos (by decide)]
    decide
  · rcases hm with rfl | rfl
    · rw [itoa_pos m h]
      show (decOf m).toArray.size ≤ 21
      simp; omega
    · rw [itoa_neg m h]
      show (45 :: decOf m).toArray.size ≤ 21
      simp; omega
theorem cat_bytes (a b : List UInt8) : (⟨a.toArray⟩ : ByteArray) ++ (⟨b.toArray⟩ : ByteArray) = ⟨(a ++ b).toArray⟩ := by
  apply ByteArray.ext
  rw [ByteArray.data_append]
  simp
theorem size_bytes (a : List UInt8) : (⟨a.toArray⟩ : ByteArray).size = a.length := by
  show a.toArray.size = _
  simp
theorem spec_digits_loop (x0 : Int) (d : Nat) : ∀ (m : Nat) (x4 : Int) (l : List UInt8), (x4 = (m : Int) ∨ x4 = -(m : Int)) → m < 10 ^ d → m ≤ 9223372036854775808 → -9223372036854775808 ≤ x4 → x4 ≤ 9223372036854775807 → l.length + d ≤ 1000 →
    Ev (fun k => spec_l06Digits.l0 k x0 ⟨l.toArray⟩ x4) ⟨((if x0 < 0 then [45] else []) ++ (decOf m ++ l)).toArray⟩ := by
  have base : ∀ l : List UInt8, l.length ≤ 1000 → Ev (fun k => spec_l06Digits.l0 k x0 ⟨l.toArray⟩ 0) ⟨((if x0 < 0 then [45] else []) ++ l).toArray⟩ := by
    intro l hl
    refine ev_shift ?_; simp only [spec_l06Digits.l0]
    refine ev_pos trivial ?_
    by_cases h : x0 < 0
    · rw [show (if x0 < 0 then ([45] : List UInt8) else []) = [45] from if_pos h]
      refine ev_pos h (ev_pos (by rw [size_bytes]; omega) ?_)
      rw [show (⟨#[45]⟩ : ByteArray) = ⟨([45] : List UInt8).toArray⟩ from rfl, cat_bytes]
      exact ev_some _
    · rw [show (if x0 < 0 then ([45] : List UInt8) else []) = [] from if_neg h, List.nil_append]
      exact ev_neg h (ev_some _)
  induction d with
  | zero =>
    intro m x4 l hx hm _ _ _ hl
    have h0 : m = 0 := by simpa using hm
    subst h0
    have h4 : x4 = 0 := by omega
    subst h4
    rw [show decOf 0 = [] from rfl, List.nil_append]
    exact base l (by omega)
  | succ d ih =>
    intro m x4 l hx hm hb hw0 hw1 hl
    by_cases h0 : m = 0
    · subst h0
      have h4 : x4 = 0 := by omega
      subst h4
      rw [show decOf 0 = [] from rfl, List.nil_append]
      exact base l (by omega)
    · have h4 : ¬ x4 = 0 := by omega
      have hmod : m % 10 < 10 := Nat.mod_lt _ (by decide)
      have hdig : (48 + ((m % 10 : Nat) : Int)) % 256 = ((48 + m % 10 : Nat) : Int) := by omega
      have hstep : ∀ y : Int, (y = ((m / 10 : Nat) : Int) ∨ y = -((m / 10 : Nat) : Int)) → Ev (fun k => if (strOfNums [(48 + ((m % 10 : Nat) : Int)) % 256]).size + (⟨l.toArray⟩ : ByteArray).size ≤ 9223372036854775807 then spec_l06Digits.l0 k x0 (strOfNums [(48 + ((m % 10 : Nat) : Int)) % 256] ++ ⟨l.toArray⟩) y else none) ⟨((if x0 < 0 then [45] else []) ++ (decOf m ++ l)).toArray⟩ := by
        intro y hy
        rw [hdig, one_num _ (by omega), show (⟨#[UInt8.ofNat (48 + m % 10)]⟩ : ByteArray) = ⟨([UInt8.ofNat (48 + m % 10)] : List UInt8).toArray⟩ from rfl, cat_bytes]
        refine ev_pos (by rw [size_bytes, size_bytes]; simp only [List.length_cons, List.length_nil]; omega) ?_
        have := ih (m / 10) y (UInt8.ofNat (48 + m % 10) :: l) hy (by rw [Nat.pow_succ] at hm; omega) (by omega) (by omega) (by omega) (by simp only [List.length_cons]; omega)
        rw [decOf_step h0]
        simpa using this
      refine ev_shift ?_; simp only [spec_l06Digits.l0]
      refine ev_neg h4 ?_
      rcases hx with rfl | rfl
      · have e1 : Int.tmod (m : Int) 10 = ((m % 10 : Nat) : Int) := rfl
        have e2 : Int.tdiv (m : Int) 10 = ((m / 10 : Nat) : Int) := rfl
        rw [e1, e2]
        refine ev_neg (by omega) (ev_bindc rfl ?_)
        rw [wrap_id (x := 48 + ((m % 10 : Nat) : Int)) (by omega) (by omega), wrap_id (x := ((m / 10 : Nat) : Int)) (by omega) (by omega)]
        exact hstep _ (Or.inl rfl)
      · have e1 : Int.tmod (-(m : Int)) 10 = -((m % 10 : Nat) : Int) := by rw [Int.neg_tmod]; rfl
        have e2 : Int.tdiv (-(m : Int)) 10 = -((m / 10 : Nat) : Int) := by rw [Int.neg_tdiv]; rfl
        rw [e1, e2, wrap_id (x := -((m / 10 : Nat) : Int)) (by omega) (by omega)]
        by_cases hz : m % 10 = 0
        · refine ev_neg (by omega) (ev_bindc rfl ?_)
          have := hstep (-((m / 10 : Nat) : Int)) (Or.inr rfl)
          rw [hz] at this
          rw [hz, wrap_id (x := 48 + -((0 : Nat) : Int)) (by decide) (by decide)]
          exact this
        · refine ev_pos (by omega) (ev_bindc rfl ?_)
          rw [Int.neg_neg, wrap_id (x := ((m % 10 : Nat) : Int)) (by omega) (by omega), wrap_id (x := 48 + ((m % 10 : Nat) : Int)) (by omega) (by omega)]
          exact hstep _ (Or.inr rfl)
theorem spec_digits_ev (n : Int) (h0 : -9223372036854775808 ≤ n) (h1 : n ≤ 9223372036854775807) : Ev (fun k => spec_l06Digits.f k n) (itoaB n) := by
  simp only [spec_l06Digits.f]
  by_cases hz : n = 0
  · subst hz
    refine ev_pos rfl ?_
    rw [show itoaB 0 = (⟨#[48]⟩ : ByteArray) by rw [itoaB, Lib.itoa, if_neg (by decide), show (0 : Int).toNat = 0 from rfl, Lib.decDigits, dif_pos (by decide)]; rfl]
    exact ev_some _
  · refine ev_neg hz ?_
    obtain ⟨m, hm⟩ : ∃ m : Nat, n = (m : Int) ∨ n = -(m : Int) := ⟨n.natAbs, by omega⟩
    have := spec_digits_loop n 20 m n [] hm (by omega) (by omega) h0 h1 (by simp)
    rcases hm with rfl | rfl
    · rw [itoa_pos m (by omega)]
      rw [if_neg (by omega), List.nil_append, List.append_nil] at this
      exact this
    · rw [itoa_neg m (by omega)]
      rw [if_pos (by omega), List.append_nil] at this
      exact this
theorem impl_decimal_eq (n : Int) (h0 : -9223372036854775808 ≤ n) (h1 : n ≤ 9223372036854775807) : impl_decimal.f n = some (itoaB n) := by
  simp only [impl_decimal.f, strconv_FormatInt.f]
  rw [if_pos trivial, if_pos h0, if_pos h1]
  rfl
end Go.Proofs.YtdihlgkcpooadaaDoor.PureFnExactReadInstr
