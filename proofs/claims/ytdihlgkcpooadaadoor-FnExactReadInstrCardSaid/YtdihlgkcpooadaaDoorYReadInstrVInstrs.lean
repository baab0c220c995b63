/- What the functions on instructions come to: the table of their forms. No condition. -/
import Derived.Test.YtdihlgkcpooadaaDoorYReadInstrVQuotes
import Derived.Test.YtdihlgkcpooadaaDoorYRiP0
import Derived.Test.YtdihlgkcpooadaaDoorYRiP2
import Derived.Test.YtdihlgkcpooadaaDoorYRiP6
import Derived.Test.YtdihlgkcpooadaaDoorYRiP8
import Derived.Test.YtdihlgkcpooadaaDoorYRiP12
namespace Go.Proofs.YtdihlgkcpooadaaDoor.PureFnExactReadInstr
open Go.RowKit Go.Proofs.YtdihlgkcpooadaaDoorG Go.Proofs.YtdihlgkcpooadaaDoor.PFnExactReadInstr Go.Proofs.YtdihlgkcpooadaaDoorW.PrintWords Go.Proofs.YtdihlgkcpooadaaDoorW.PrintLast Go.Proofs.YtdihlgkcpooadaaDoorW.PrintMore
set_option linter.unusedSimpArgs false
set_option linter.unusedVariables false

theorem ev_two' {α : Type} {g : Nat → Option α} {r : α} (h : ∀ k, g (k + 2) = some r) : Ev g r := ⟨2, fun k hk => by
  obtain ⟨m, rfl⟩ : ∃ m, k = m + 2 := ⟨k - 2, by omega⟩
  exact h m⟩
theorem kinds31 {a : Int} (h0 : 1 ≤ a) (h1 : a ≤ 31) : a = 1 ∨ a = 2 ∨ a = 3 ∨ a = 4 ∨ a = 5 ∨ a = 6 ∨ a = 7 ∨ a = 8 ∨ a = 9 ∨ a = 10 ∨ a = 11 ∨ a = 12 ∨ a = 13 ∨ a = 14 ∨ a = 15 ∨ a = 16 ∨ a = 17 ∨ a = 18 ∨ a = 19 ∨ a = 20 ∨ a = 21 ∨ a = 22 ∨ a = 23 ∨ a = 24 ∨ a = 25 ∨ a = 26 ∨ a = 27 ∨ a = 28 ∨ a = 29 ∨ a = 30 ∨ a = 31 := by omega
def fieldsI (a : Int) : Bool × Bool := (decide (a = 1 ∨ a = 3 ∨ a = 8 ∨ a = 27 ∨ a = 31 ∨ a = 11 ∨ a = 13), decide (a = 2 ∨ a = 4 ∨ a = 5 ∨ a = 6 ∨ a = 7 ∨ a = 16 ∨ a = 17 ∨ a = 20 ∨ a = 23 ∨ a = 11 ∨ a = 13))
theorem spec_fields_ev (a : Int) (h0 : 1 ≤ a) (h1 : a ≤ 31) : Ev (fun k => spec_l24Fields.f k a) (fieldsI a) := by
  refine ev_two' fun k => ?_
  rcases kinds31 h0 h1 with rfl | rfl | rfl | rfl | rfl | rfl | rfl | rfl | rfl | rfl | rfl | rfl | rfl | rfl | rfl | rfl | rfl | rfl | rfl | rfl | rfl | rfl | rfl | rfl | rfl | rfl | rfl | rfl | rfl | rfl | rfl <;> rfl
def spI (k n : Int) (t : ByteArray) : Bool :=
  if k = 1 ∨ k = 27 then decide (0 ≤ n) && decide (n ≤ 79)
  else if k = 2 then quoteS t
  else if k = 3 then decide (0 ≤ n) && decide (n ≤ 1000000000000)
  else if k = 8 then decide (6 ≤ n) && decide (n ≤ 11)
  else if k = 11 then (decide (21 ≤ n) && decide (n ≤ 22)) && isNameS t
  else if k = 13 then (decide (0 ≤ n) && decide (n ≤ 6)) && isNameS t
  else if k = 31 then decide (1 ≤ n) && decide (n ≤ 11)
  else if (fieldsI k).2 = true then isNameS t else true
theorem ev_and {b : Bool} {f : Nat → Option Bool} {c : Bool} (h : Ev f c) : Ev (fun n => if b = true then f n else some false) (b && c) := by
  cases b with
  | true => exact ev_pos rfl (by simpa using h)
  | false => exact ev_neg Bool.false_ne_true (ev_some _)
theorem spec_vi_j1 (k n : Int) (t : ByteArray) (b : Bool) : Ev (fun j => spec_ValidInstr.j1 j (fieldsI k).2 k b k n t) (if b = true then decide (0 ≤ n) && decide (n ≤ 79)
  else if k = 2 then quoteS t
  else if k = 3 then decide (0 ≤ n) && decide (n ≤ 1000000000000)
  else if k = 8 then decide (6 ≤ n) && decide (n ≤ 11)
  else if k = 11 then (decide (21 ≤ n) && decide (n ≤ 22)) && isNameS t
  else if k = 13 then (decide (0 ≤ n) && decide (n ≤ 6)) && isNameS t
  else if k = 31 then decide (1 ≤ n) && decide (n ≤ 11)
  else if (fieldsI k).2 = true then isNameS t else true) := by
  refine ev_shift ?_; simp only [spec_ValidInstr.j1, spec_l00In_eq, Option.bind_some]
  exact ev_ite (ev_some _) (ev_ite (ev_bind (spec_CanQuote_ev t) (ev_some _)) (ev_ite (ev_some _) (ev_ite (ev_some _) (ev_ite (ev_and (ev_bind (spec_IsName_ev t) (ev_some _))) (ev_ite (ev_and (ev_bind (spec_IsName_ev t) (ev_some _))) (ev_ite (ev_some _) (ev_ite (ev_bind (spec_IsName_ev t) (ev_some _)) (ev_some _))))))))
theorem spec_vi_j0 (k n : Int) (t : ByteArray) (b : Bool) : Ev (fun j => spec_ValidInstr.j0 j (fieldsI k).2 b k n t) (!b && spI k n t) := by
  refine ev_shift ?_; simp only [spec_ValidInstr.j0]
  cases b with
  | true => exact ev_pos rfl (ev_some _)
  | false =>
    refine ev_neg Bool.false_ne_true ?_
    rw [Bool.not_false, Bool.true_and, spI]
    by_cases h1 : k = 1
    · refine ev_pos h1 ?_
      rw [if_pos (Or.inl h1)]
      simpa [h1] using spec_vi_j1 k n t (k == 1)
    · refine ev_neg h1 ?_
      have := spec_vi_j1 k n t (k == 27)
      simpa only [beq_iff_eq, h1, false_or] using this
theorem spec_ValidInstr_ev (k n : Int) (t : ByteArray) (h0 : 1 ≤ k) (h1 : k ≤ 31) : Ev (fun j => spec_ValidInstr.f j k n t) (((fieldsI k).1 || n == 0) && (((fieldsI k).2 || t.toList.isEmpty) && spI k n t)) := by
  simp only [spec_ValidInstr.f, spec_l00In_eq, Option.bind_some]
  have hr : (decide (1 ≤ k) && decide (k ≤ 31)) = true := by rw [decide_eq_true h0, decide_eq_true h1]; rfl
  rw [hr]
  refine ev_pos rfl (ev_bind (spec_fields_ev k h0 h1) ?_)
  have J := fun b => spec_vi_j0 k n t b
  have tail : Ev (fun j => if (fieldsI k).2 = true then spec_ValidInstr.j0 j (fieldsI k).2 false k n t else spec_ValidInstr.j0 j (fieldsI k).2 (!t.toList.isEmpty) k n t) (((fieldsI k).2 || t.toList.isEmpty) && spI k n t) := by
    cases h2 : (fieldsI k).2 with
    | true =>
      have := J false
      rw [h2] at this
      exact ev_pos rfl (by simpa using this)
    | false =>
      have := J (!t.toList.isEmpty)
      rw [h2] at this
      exact ev_neg Bool.false_ne_true (by simpa using this)
  cases h1 : (fieldsI k).1 with
  | true => exact ev_pos rfl (by simpa using tail)
  | false =>
    refine ev_neg Bool.false_ne_true ?_
    by_cases hn : n = 0
    · rw [beq_iff_eq.2 hn]
      exact ev_pos hn (by simpa using tail)
    · rw [beq_eq_false_iff_ne.2 hn]
      exact ev_neg hn (by simpa using J true)
theorem spec_ValidInstr_out (k n : Int) (t : ByteArray) (h : ¬ (1 ≤ k ∧ k ≤ 31)) : Ev (fun j => spec_ValidInstr.f j k n t) false := by
  simp only [spec_ValidInstr.f, spec_l00In_eq, Option.bind_some]
  have hr : (decide (1 ≤ k) && decide (k ≤ 31)) = false := by rw [← Bool.not_eq_true, Bool.and_eq_true, decide_eq_true_eq, decide_eq_true_eq]; exact h
  rw [hr]; exact ev_neg Bool.false_ne_true (ev_some _)
def tblI : List S43 := (impl_instrForms.f).getD []
theorem forms_eq : impl_instrForms.f = some tblI := rfl
def rowI (k : Int) : S43 := rd_T43 tblI (k - 1)
theorem impl_form_at (k n : Int) (t : ByteArray) (h0 : 1 ≤ k) (h1 : k ≤ 31) : impl_Instr_form.f k n t = some ((rowI k).f0, (rowI k).f1, (rowI k).f2, (rowI k).f3, (rowI k).f4, (rowI k).f5, (rowI k).f6) := by
  have hl : (tblI.length : Int) = 31 := rfl
  simp only [impl_Instr_form.f, forms_eq, Option.bind_some, rowI]
  rw [wrap_id (by omega) (by omega), if_pos (by omega), if_pos (by omega)]
def textI (k : Int) (t : ByteArray) : Bool := if k = 2 then quoteS t else if (rowI k).f4 = true then isNameS t else t.toList.isEmpty
theorem impl_ValidInstr_ev (k n : Int) (t : ByteArray) (h0 : 1 ≤ k) (h1 : k ≤ 31) : Ev (fun j => impl_ValidInstr.f j k n t) (textI k t && (decide ((rowI k).f2 ≤ n) && decide (n ≤ (rowI k).f3))) := by
  simp only [impl_ValidInstr.f, impl_within_eq, Option.bind_some, impl_form_at k n t h0 h1]
  have hr : (decide (1 ≤ k) && decide (k ≤ 31)) = true := by rw [decide_eq_true h0, decide_eq_true h1]; rfl
  rw [hr]
  refine ev_pos rfl ?_
  have J : ∀ b : Bool, Ev (fun j => impl_ValidInstr.j0 j b k n t (rowI k).f0 (rowI k).f1 (rowI k).f2 (rowI k).f3 (rowI k).f4 (rowI k).f5 (rowI k).f6) (b && (decide ((rowI k).f2 ≤ n) && decide (n ≤ (rowI k).f3))) := by
    intro b
    refine ev_shift ?_; simp only [impl_ValidInstr.j0, impl_within_eq, Option.bind_some]
    exact ev_and (ev_some _)
  simp only [textI]
  by_cases h2 : k = 2
  · rw [if_pos h2]; exact ev_pos h2 (ev_bind (impl_CanQuote_ev t) (J _))
  · rw [if_neg h2]
    refine ev_neg h2 ?_
    by_cases h4 : (rowI k).f4 = true
    · rw [if_pos h4]; exact ev_pos h4 (ev_bind (impl_IsName_ev t) (J _))
    · rw [if_neg h4]; exact ev_neg h4 (J _)
theorem impl_ValidInstr_out (k n : Int) (t : ByteArray) (h : ¬ (1 ≤ k ∧ k ≤ 31)) : Ev (fun j => impl_ValidInstr.f j k n t) false := by
  simp only [impl_ValidInstr.f, impl_within_eq, Option.bind_some]
  have hr : (decide (1 ≤ k) && decide (k ≤ 31)) = false := by rw [← Bool.not_eq_true, Bool.and_eq_true, decide_eq_true_eq, decide_eq_true_eq]; exact h
  rw [hr]; exact ev_neg Bool.false_ne_true (ev_some _)
theorem valid_same (k n : Int) (t : ByteArray) (h0 : 1 ≤ k) (h1 : k ≤ 31) : (((fieldsI k).1 || n == 0) && (((fieldsI k).2 || t.toList.isEmpty) && spI k n t)) = (textI k t && (decide ((rowI k).f2 ≤ n) && decide (n ≤ (rowI k).f3))) := by
  have hn : (n == 0) = (decide (0 ≤ n) && decide (n ≤ 0)) := by rw [Bool.eq_iff_iff, beq_iff_eq, Bool.and_eq_true, decide_eq_true_eq, decide_eq_true_eq]; omega
  rcases kinds31 h0 h1 with rfl | rfl | rfl | rfl | rfl | rfl | rfl | rfl | rfl | rfl | rfl | rfl | rfl | rfl | rfl | rfl | rfl | rfl | rfl | rfl | rfl | rfl | rfl | rfl | rfl | rfl | rfl | rfl | rfl | rfl | rfl
  · show ((true || n == 0) && ((false || t.toList.isEmpty) && (decide (0 ≤ n) && decide (n ≤ 79)))) = (t.toList.isEmpty && (decide (0 ≤ n) && decide (n ≤ 79)))
    generalize t.toList.isEmpty = e, isNameS t = m, quoteS t = q, (decide (0 ≤ n) && decide (n ≤ 79)) = d
    cases e <;> cases m <;> cases q <;> cases d <;> rfl
  · show ((false || n == 0) && ((true || t.toList.isEmpty) && quoteS t)) = (quoteS t && (decide (0 ≤ n) && decide (n ≤ 0)))
    rw [hn]; generalize t.toList.isEmpty = e, isNameS t = m, quoteS t = q, (decide (0 ≤ n) && decide (n ≤ 0)) = d
    cases e <;> cases m <;> cases q <;> cases d <;> rfl
  · show ((true || n == 0) && ((false || t.toList.isEmpty) && (decide (0 ≤ n) && decide (n ≤ 1000000000000)))) = (t.toList.isEmpty && (decide (0 ≤ n) && decide (n ≤ 1000000000000)))
    generalize t.toList.isEmpty = e, isNameS t = m, quoteS t = q, (decide (0 ≤ n) && decide (n ≤ 1000000000000)) = d
    cases e <;> cases m <;> cases q <;> cases d <;> rfl
  · show ((false || n == 0) && ((true || t.toList.isEmpty) && isNameS t)) = (isNameS t && (decide (0 ≤ n) && decide (n ≤ 0)))
    rw [hn]; generalize t.toList.isEmpty = e, isNameS t = m, quoteS t = q, (decide (0 ≤ n) && decide (n ≤ 0)) = d
    cases e <;> cases m <;> cases q <;> cases d <;> rfl
  · show ((false || n == 0) && ((true || t.toList.isEmpty) && isNameS t)) = (isNameS t && (decide (0 ≤ n) && decide (n ≤ 0)))
    rw [hn]; generalize t.toList.isEmpty = e, isNameS t = m, quoteS t = q, (decide (0 ≤ n) && decide (n ≤ 0)) = d
    cases e <;> cases m <;> cases q <;> cases d <;> rfl
  · show ((false || n == 0) && ((true || t.toList.isEmpty) && isNameS t)) = (isNameS t && (decide (0 ≤ n) && decide (n ≤ 0)))
    rw [hn]; generalize t.toList.isEmpty = e, isNameS t = m, quoteS t = q, (decide (0 ≤ n) && decide (n ≤ 0)) = d
    cases e <;> cases m <;> cases q <;> cases d <;> rfl
  · show ((false || n == 0) && ((true || t.toList.isEmpty) && isNameS t)) = (isNameS t && (decide (0 ≤ n) && decide (n ≤ 0)))
    rw [hn]; generalize t.toList.isEmpty = e, isNameS t = m, quoteS t = q, (decide (0 ≤ n) && decide (n ≤ 0)) = d
    cases e <;> cases m <;> cases q <;> cases d <;> rfl
  · show ((true || n == 0) && ((false || t.toList.isEmpty) && (decide (6 ≤ n) && decide (n ≤ 11)))) = (t.toList.isEmpty && (decide (6 ≤ n) && decide (n ≤ 11)))
    generalize t.toList.isEmpty = e, isNameS t = m, quoteS t = q, (decide (6 ≤ n) && decide (n ≤ 11)) = d
    cases e <;> cases m <;> cases q <;> cases d <;> rfl
  · show ((false || n == 0) && ((false || t.toList.isEmpty) && true)) = (t.toList.isEmpty && (decide (0 ≤ n) && decide (n ≤ 0)))
    rw [hn]; generalize t.toList.isEmpty = e, isNameS t = m, quoteS t = q, (decide (0 ≤ n) && decide (n ≤ 0)) = d
    cases e <;> cases m <;> cases q <;> cases d <;> rfl
  · show ((false || n == 0) && ((false || t.toList.isEmpty) && true)) = (t.toList.isEmpty && (decide (0 ≤ n) && decide (n ≤ 0)))
    rw [hn]; generalize t.toList.isEmpty = e, isNameS t = m, quoteS t = q, (decide (0 ≤ n) && decide (n ≤ 0)) = d
    cases e <;> cases m <;> cases q <;> cases d <;> rfl
  · show ((true || n == 0) && ((true || t.toList.isEmpty) && ((decide (21 ≤ n) && decide (n ≤ 22)) && isNameS t))) = (isNameS t && (decide (21 ≤ n) && decide (n ≤ 22)))
    generalize t.toList.isEmpty = e, isNameS t = m, quoteS t = q, (decide (21 ≤ n) && decide (n ≤ 22)) = d
    cases e <;> cases m <;> cases q <;> cases d <;> rfl
  · show ((false || n == 0) && ((false || t.toList.isEmpty) && true)) = (t.toList.isEmpty && (decide (0 ≤ n) && decide (n ≤ 0)))
    rw [hn]; generalize t.toList.isEmpty = e, isNameS t = m, quoteS t = q, (decide (0 ≤ n) && decide (n ≤ 0)) = d
    cases e <;> cases m <;> cases q <;> cases d <;> rfl
  · show ((true || n == 0) && ((true || t.toList.isEmpty) && ((decide (0 ≤ n) && decide (n ≤ 6)) && isNameS t))) = (isNameS t && (decide (0 ≤ n) && decide (n ≤ 6)))
    generalize t.toList.isEmpty = e, isNameS t = m, quoteS t = q, (decide (0 ≤ n) && decide (n ≤ 6)) = d
    cases e <;> cases m <;> cases q <;> cases d <;> rfl
  · show ((false || n == 0) && ((false || t.toList.isEmpty) && true)) = (t.toList.isEmpty && (decide (0 ≤ n) && decide (n ≤ 0)))
    rw [hn]; generalize t.toList.isEmpty = e, isNameS t = m, quoteS t = q, (decide (0 ≤ n) && decide (n ≤ 0)) = d
    cases e <;> cases m <;> cases q <;> cases d <;> rfl
  · show ((false || n == 0) && ((false || t.toList.isEmpty) && true)) = (t.toList.isEmpty && (decide (0 ≤ n) && decide (n ≤ 0)))
    rw [hn]; generalize t.toList.isEmpty = e, isNameS t = m, quoteS t = q, (decide (0 ≤ n) && decide (n ≤ 0)) = d
    cases e <;> cases m <;> cases q <;> cases d <;> rfl
  · show ((false || n == 0) && ((true || t.toList.isEmpty) && isNameS t)) = (isNameS t && (decide (0 ≤ n) && decide (n ≤ 0)))
    rw [hn]; generalize t.toList.isEmpty = e, isNameS t = m, quoteS t = q, (decide (0 ≤ n) && decide (n ≤ 0)) = d
    cases e <;> cases m <;> cases q <;> cases d <;> rfl
  · show ((false || n == 0) && ((true || t.toList.isEmpty) && isNameS t)) = (isNameS t && (decide (0 ≤ n) && decide (n ≤ 0)))
    rw [hn]; generalize t.toList.isEmpty = e, isNameS t = m, quoteS t = q, (decide (0 ≤ n) && decide (n ≤ 0)) = d
    cases e <;> cases m <;> cases q <;> cases d <;> rfl
  · show ((false || n == 0) && ((false || t.toList.isEmpty) && true)) = (t.toList.isEmpty && (decide (0 ≤ n) && decide (n ≤ 0)))
    rw [hn]; generalize t.toList.isEmpty = e, isNameS t = m, quoteS t = q, (decide (0 ≤ n) && decide (n ≤ 0)) = d
    cases e <;> cases m <;> cases q <;> cases d <;> rfl
  · show ((false || n == 0) && ((false || t.toList.isEmpty) && true)) = (t.toList.isEmpty && (decide (0 ≤ n) && decide (n ≤ 0)))
    rw [hn]; generalize t.toList.isEmpty = e, isNameS t = m, quoteS t = q, (decide (0 ≤ n) && decide (n ≤ 0)) = d
    cases e <;> cases m <;> cases q <;> cases d <;> rfl
  · show ((false || n == 0) && ((true || t.toList.isEmpty) && isNameS t)) = (isNameS t && (decide (0 ≤ n) && decide (n ≤ 0)))
    rw [hn]; generalize t.toList.isEmpty = e, isNameS t = m, quoteS t = q, (decide (0 ≤ n) && decide (n ≤ 0)) = d
    cases e <;> cases m <;> cases q <;> cases d <;> rfl
  · show ((false || n == 0) && ((false || t.toList.isEmpty) && true)) = (t.toList.isEmpty && (decide (0 ≤ n) && decide (n ≤ 0)))
    rw [hn]; generalize t.toList.isEmpty = e, isNameS t = m, quoteS t = q, (decide (0 ≤ n) && decide (n ≤ 0)) = d
    cases e <;> cases m <;> cases q <;> cases d <;> rfl
  · show ((false || n == 0) && ((false || t.toList.isEmpty) && true)) = (t.toList.isEmpty && (decide (0 ≤ n) && decide (n ≤ 0)))
    rw [hn]; generalize t.toList.isEmpty = e, isNameS t = m, quoteS t = q, (decide (0 ≤ n) && decide (n ≤ 0)) = d
    cases e <;> cases m <;> cases q <;> cases d <;> rfl
  · show ((false || n == 0) && ((true || t.toList.isEmpty) && isNameS t)) = (isNameS t && (decide (0 ≤ n) && decide (n ≤ 0)))
    rw [hn]; generalize t.toList.isEmpty = e, isNameS t = m, quoteS t = q, (decide (0 ≤ n) && decide (n ≤ 0)) = d
    cases e <;> cases m <;> cases q <;> cases d <;> rfl
  · show ((false || n == 0) && ((false || t.toList.isEmpty) && true)) = (t.toList.isEmpty && (decide (0 ≤ n) && decide (n ≤ 0)))
    rw [hn]; generalize t.toList.isEmpty = e, isNameS t = m, quoteS t = q, (decide (0 ≤ n) && decide (n ≤ 0)) = d
    cases e <;> cases m <;> cases q <;> cases d <;> rfl
  · show ((false || n == 0) && ((false || t.toList.isEmpty) && true)) = (t.toList.isEmpty && (decide (0 ≤ n) && decide (n ≤ 0)))
    rw [hn]; generalize t.toList.isEmpty = e, isNameS t = m, quoteS t = q, (decide (0 ≤ n) && decide (n ≤ 0)) = d
    cases e <;> cases m <;> cases q <;> cases d <;> rfl
  · show ((false || n == 0) && ((false || t.toList.isEmpty) && true)) = (t.toList.isEmpty && (decide (0 ≤ n) && decide (n ≤ 0)))
    rw [hn]; generalize t.toList.isEmpty = e, isNameS t = m, quoteS t = q, (decide (0 ≤ n) && decide (n ≤ 0)) = d
    cases e <;> cases m <;> cases q <;> cases d <;> rfl
  · show ((true || n == 0) && ((false || t.toList.isEmpty) && (decide (0 ≤ n) && decide (n ≤ 79)))) = (t.toList.isEmpty && (decide (0 ≤ n) && decide (n ≤ 79)))
    generalize t.toList.isEmpty = e, isNameS t = m, quoteS t = q, (decide (0 ≤ n) && decide (n ≤ 79)) = d
    cases e <;> cases m <;> cases q <;> cases d <;> rfl
  · show ((false || n == 0) && ((false || t.toList.isEmpty) && true)) = (t.toList.isEmpty && (decide (0 ≤ n) && decide (n ≤ 0)))
    rw [hn]; generalize t.toList.isEmpty = e, isNameS t = m, quoteS t = q, (decide (0 ≤ n) && decide (n ≤ 0)) = d
    cases e <;> cases m <;> cases q <;> cases d <;> rfl
  · show ((false || n == 0) && ((false || t.toList.isEmpty) && true)) = (t.toList.isEmpty && (decide (0 ≤ n) && decide (n ≤ 0)))
    rw [hn]; generalize t.toList.isEmpty = e, isNameS t = m, quoteS t = q, (decide (0 ≤ n) && decide (n ≤ 0)) = d
    cases e <;> cases m <;> cases q <;> cases d <;> rfl
  · show ((false || n == 0) && ((false || t.toList.isEmpty) && true)) = (t.toList.isEmpty && (decide (0 ≤ n) && decide (n ≤ 0)))
    rw [hn]; generalize t.toList.isEmpty = e, isNameS t = m, quoteS t = q, (decide (0 ≤ n) && decide (n ≤ 0)) = d
    cases e <;> cases m <;> cases q <;> cases d <;> rfl
  · show ((true || n == 0) && ((false || t.toList.isEmpty) && (decide (1 ≤ n) && decide (n ≤ 11)))) = (t.toList.isEmpty && (decide (1 ≤ n) && decide (n ≤ 11)))
    generalize t.toList.isEmpty = e, isNameS t = m, quoteS t = q, (decide (1 ≤ n) && decide (n ≤ 11)) = d
    cases e <;> cases m <;> cases q <;> cases d <;> rfl
theorem ValidInstr_same (k n : Int) (t : ByteArray) : ∃ b : Bool, Ev (fun j => spec_ValidInstr.f j k n t) b ∧ Ev (fun j => impl_ValidInstr.f j k n t) b ∧ (b = true → 1 ≤ k ∧ k ≤ 31 ∧ (k = 13 → 0 ≤ n ∧ n ≤ 6)) := by
  by_cases h : 1 ≤ k ∧ k ≤ 31
  · refine ⟨_, spec_ValidInstr_ev k n t h.1 h.2, ?_, fun hb => ⟨h.1, h.2, ?_⟩⟩
    · rw [valid_same k n t h.1 h.2]; exact impl_ValidInstr_ev k n t h.1 h.2
    · rintro rfl
      rw [valid_same _ n t h.1 h.2, Bool.and_eq_true, Bool.and_eq_true] at hb
      exact ⟨of_decide_eq_true hb.2.1, of_decide_eq_true hb.2.2⟩
  · exact ⟨false, spec_ValidInstr_out k n t h, impl_ValidInstr_out k n t h, fun h => absurd h Bool.false_ne_true⟩
theorem row_small (k : Int) (h0 : 1 ≤ k) (h1 : k ≤ 31) : 0 ≤ (rowI k).f5 ∧ (rowI k).f5 ≤ 4 ∧ 0 ≤ (rowI k).f6 ∧ (rowI k).f6 ≤ 3 := by
  rcases kinds31 h0 h1 with rfl | rfl | rfl | rfl | rfl | rfl | rfl | rfl | rfl | rfl | rfl | rfl | rfl | rfl | rfl | rfl | rfl | rfl | rfl | rfl | rfl | rfl | rfl | rfl | rfl | rfl | rfl | rfl | rfl | rfl | rfl <;> decide
end Go.Proofs.YtdihlgkcpooadaaDoor.PureFnExactReadInstr
