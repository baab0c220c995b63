/- What the reference's and the program's functions on names and values come to: isNameS, validV. No condition. -/
import Derived.Test.YtmebimamjgnlpaaYCeP0
import Derived.Test.YtmebimamjgnlpaaYCeP5
import Derived.Test.YtmebimamjgnlpaaYCeP10
import Derived.Test.YtmebimamjgnlpaaYCeW3
namespace Go.Proofs.Ytmebimamjgnlpaa.PureFnExactCompileExpr
open Go.RowKit Go.Proofs.YtmebimamjgnlpaaG Go.Proofs.Ytmebimamjgnlpaa.PFnExactCompileExpr Go.Proofs.YtmebimamjgnlpaaW.PrintWords Go.Proofs.YtmebimamjgnlpaaW.PrintLast Go.Proofs.YtmebimamjgnlpaaW.PrintMore
set_option linter.unusedSimpArgs false

theorem spec_l00In_eq (a b c : Int) : spec_l00In.f a b c = some (decide (b ≤ a) && decide (a ≤ c)) := by
  simp only [spec_l00In.f]; split <;> simp_all <;> omega
theorem impl_within_eq (a b c : Int) : impl_within.f a b c = some (decide (b ≤ a) && decide (a ≤ c)) := by
  simp only [impl_within.f]; split <;> simp_all <;> omega
theorem spec_l02Letter_eq (c : Int) : spec_l02Letter.f c = some (isLet c) := by
  simp only [spec_l02Letter.f, isLet]; (repeat' split) <;> simp_all <;> omega
theorem spec_l02Digit_eq (c : Int) : spec_l02Digit.f c = some (isDig c) := by
  simp only [spec_l02Digit.f, isDig]; split <;> simp_all <;> omega
theorem impl_isLetter_eq (c : Int) : impl_isLetter.f c = some (isLet c) := by
  simp only [impl_isLetter.f, isLet]; (repeat' split) <;> simp_all <;> omega
theorem impl_isDigit_eq (c : Int) : impl_isDigit.f c = some (isDig c) := by
  simp only [impl_isDigit.f, isDig]; split <;> simp_all <;> omega
theorem impl_isNameByte_eq (c : Int) : impl_isNameByte.f c = some (isNmB c) := by
  simp only [impl_isNameByte.f, impl_isLetter_eq, impl_isDigit_eq, Option.bind_some, isNmB]
  cases isLet c <;> cases isDig c <;> simp <;> rfl
theorem spec_nameEnd_loop (s : ByteArray) (hs : s.size ≤ 9223372036854775807) (d : Nat) : ∀ i : Nat, i ≤ s.size → s.size - i = d →
    Ev (fun k => spec_l02NameEnd.l0 k s (i : Int)) ((i + (((bytesOf s).drop i).takeWhile isNmB).length : Nat) : Int) := by
  induction d with
  | zero =>
    intro i hi hd
    refine ev_shift ?_
    simp only [spec_l02NameEnd.l0]
    refine ev_neg (by omega) ?_
    rw [List.drop_of_length_le (by rw [bytes_size]; omega)]
    exact ev_some _
  | succ d ih =>
    intro i hi hd
    have hlt : i < s.size := by omega
    have hlt' : i < (bytesOf s).length := by rw [bytes_size]; exact hlt
    refine ev_shift ?_
    simp only [spec_l02NameEnd.l0]
    refine ev_pos (by omega) (ev_pos (by omega) ?_)
    rw [wrap_up (by omega) (show (i : Int) < (s.size : Int) by omega) hs, bt_get s i hlt, List.drop_eq_getElem_cons hlt', List.takeWhile_cons]
    have step : Ev (fun k => spec_l02NameEnd.l0 k s ((i : Int) + 1)) ((i + 1 + (((bytesOf s).drop (i + 1)).takeWhile isNmB).length : Nat) : Int) := by
      have := ih (i + 1) (by omega) (by omega)
      simpa using this
    refine ev_bindc (spec_l02Letter_eq _) ?_
    cases hA : isLet ((bytesOf s)[i]) with
    | true =>
      refine ev_pos rfl ?_
      rw [if_pos (by simp [isNmB, hA])]
      simpa [Nat.add_assoc, Nat.add_comm 1] using step
    | false =>
      refine ev_neg (by decide) (ev_bindc (spec_l02Digit_eq _) ?_)
      cases hB : isDig ((bytesOf s)[i]) with
      | true =>
        refine ev_pos rfl ?_
        rw [if_pos (by simp [isNmB, hB])]
        simpa [Nat.add_assoc, Nat.add_comm 1] using step
      | false =>
        refine ev_neg (by decide) ?_
        by_cases hC : (bytesOf s)[i] = 95
        · refine ev_pos hC ?_
          rw [if_pos (by simp [isNmB, hC])]
          simpa [Nat.add_assoc, Nat.add_comm 1] using step
        · refine ev_neg hC ?_
          rw [if_neg (by simp [isNmB, hA, hB, hC])]
          exact ev_some _
theorem all_takeWhile (l : List Int) (p : Int → Bool) : (l.takeWhile p).length = l.length ↔ l.all p = true := by
  induction l with
  | nil => simp
  | cons a l ih =>
    rw [List.takeWhile_cons, List.all_cons]
    cases hp : p a with
    | true => simp [ih]
    | false => simp
theorem spec_IsName_ev (s : ByteArray) : Ev (fun k => spec_IsName.f k s) (isNameS s) := by
  by_cases h0 : s.size = 0
  · simp only [spec_IsName.f]
    refine ev_pos ((toList_nil s).2 h0) ?_
    simpa [isNameS, h0] using ev_some false
  · simp only [spec_IsName.f]
    refine ev_neg (fun h => h0 ((toList_nil s).1 h)) ?_
    by_cases h12 : s.size ≤ 12
    · refine ev_pos (by omega) ?_
      have hb0 : bt s 0 = (bytesOf s)[0]'(by rw [bytes_size]; omega) := bt_get s 0 (by omega)
      have hne : bytesOf s = (bytesOf s)[0]'(by rw [bytes_size]; omega) :: (bytesOf s).drop 1 := by
        have := List.drop_eq_getElem_cons (l := bytesOf s) (i := 0) (by rw [bytes_size]; omega)
        simpa using this
      have hend : Ev (fun k => spec_l02NameEnd.f k s 0) (if isLet (bt s 0) = true then (((bytesOf s).takeWhile isNmB).length : Int) else 0) := by
        simp only [spec_l02NameEnd.f]
        refine ev_neg (by omega) (ev_pos (by omega) (ev_pos (by omega) (ev_bindc (spec_l02Letter_eq _) ?_)))
        cases hA : isLet (bt s 0) with
        | false => (refine ev_shift ?_; simp only [spec_l02NameEnd.j0]; exact ev_pos (by decide) (by simpa using ev_some (0 : Int)))
        | true =>
          refine ev_shift ?_
          simp only [spec_l02NameEnd.j0]
          refine ev_neg (by decide) ?_
          have := spec_nameEnd_loop s (by omega) s.size 0 (by omega) (by omega)
          simpa using this
      refine ev_bind hend ?_
      have hr : (decide ((if isLet (bt s 0) = true then (((bytesOf s).takeWhile isNmB).length : Int) else 0) = (s.size : Int))) = isNameS s := by
        have h1 : 1 ≤ s.size := by omega
        cases hA : isLet (bt s 0) with
        | false => simp [isNameS, hA, h1, h12]; omega
        | true =>
          have ha := all_takeWhile (bytesOf s) isNmB
          rw [bytes_size] at ha
          simp only [isNameS, hA, h1, h12, if_true, decide_true, Bool.and_self, Bool.true_and]
          rw [Bool.eq_iff_iff, ← ha]
          simp
          omega
      rw [← hr]
      exact ev_some _
    · refine ev_neg (by omega) ?_
      simpa [isNameS, h12] using ev_some false
theorem impl_nameBytes_ev (l : List Int) (hl : l.length ≤ 9223372036854775807) : Ev (fun k => impl_areAll_byte__impl_isNameByte.f k l) (l.all isNmB) := by
  simp only [impl_areAll_byte__impl_isNameByte.f]
  exact areAll_loop impl_areAll_byte__impl_isNameByte.l0 rd (fun _ x => impl_isNameByte.f x) isNmB (fun k xs n i => by simp only [impl_areAll_byte__impl_isNameByte.l0]) (fun xs i h => rd_get xs i h) l hl (fun x _ => ev_of_eq (impl_isNameByte_eq x))
theorem conv_eq (s : ByteArray) (hs : s.size ≤ 9223372036854775807) : conv_bytes.f s = some (bytesOf s) := by simp only [conv_bytes.f]; rw [if_pos hs]
theorem impl_IsName_ev (s : ByteArray) : Ev (fun k => impl_IsName.f k s) (isNameS s) := by
  by_cases h0 : 1 ≤ s.size
  · simp only [impl_IsName.f]
    refine ev_pos (by omega) ?_
    by_cases h12 : s.size ≤ 12
    · refine ev_pos (by omega) (ev_pos (by omega) (ev_bindc (impl_isLetter_eq _) ?_))
      cases hA : isLet (bt s 0) with
      | false => exact ev_neg (by decide) (by simpa [isNameS, hA] using ev_some false)
      | true =>
        refine ev_pos rfl (ev_bindc (conv_eq s (by omega)) ?_)
        refine ev_bind (impl_nameBytes_ev (bytesOf s) (by rw [bytes_size]; omega)) ?_
        have : (bytesOf s).all isNmB = isNameS s := by simp [isNameS, hA, h0, h12]
        rw [this]
        exact ev_some _
    · exact ev_neg (by omega) (by simpa [isNameS, h12] using ev_some false)
  · simp only [impl_IsName.f]
    refine ev_neg (by omega) ?_
    simpa [isNameS, h0] using ev_some false

theorem toList_isEmpty (s : ByteArray) : s.toList.isEmpty = decide (s.size = 0) := by
  rw [Bool.eq_iff_iff, List.isEmpty_iff, toList_nil]; simp
end Go.Proofs.Ytmebimamjgnlpaa.PureFnExactCompileExpr
