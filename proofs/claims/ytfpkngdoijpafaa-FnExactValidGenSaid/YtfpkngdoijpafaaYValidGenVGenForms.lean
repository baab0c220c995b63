/- What the forms and the sizes of expressions come to: formG, okT, cntT, pureT. No condition. -/
import Derived.Test.YtfpkngdoijpafaaYValidGenVGens
import Derived.Test.YtfpkngdoijpafaaYValidGenVValues
import Derived.Test.YtfpkngdoijpafaaYVgP0
import Derived.Test.YtfpkngdoijpafaaYVgP2
import Derived.Test.YtfpkngdoijpafaaYVgP6
import Derived.Test.YtfpkngdoijpafaaYVgP7
import Derived.Test.YtfpkngdoijpafaaYVgP8
import Derived.Test.YtfpkngdoijpafaaYVgP11
import Derived.Test.YtfpkngdoijpafaaYVgP12
import Derived.Test.YtfpkngdoijpafaaYVgP13
import Derived.Test.YtfpkngdoijpafaaYVgP14
import Derived.Test.YtfpkngdoijpafaaYVgP15
namespace Go.Proofs.Ytfpkngdoijpafaa.PureFnExactValidGen
open Go.RowKit Go.Proofs.YtfpkngdoijpafaaG Go.Proofs.Ytfpkngdoijpafaa.PFnExactValidGen Go.Proofs.YtfpkngdoijpafaaW.PrintWords Go.Proofs.YtfpkngdoijpafaaW.PrintLast Go.Proofs.YtfpkngdoijpafaaW.PrintMore
set_option linter.unusedSimpArgs false
set_option linter.unusedVariables false

theorem one_lt {α : Type} (x : α) : (0 : Int) < (([x] : List α).length : Int) := by simp
theorem rd_one (x : S32) : rd_T32 [x] 0 = x := rfl
def kidsG (k : Int) : Int := if k = 6 ∨ k = 7 ∨ k = 10 ∨ k = 13 ∨ k = 16 ∨ k = 17 ∨ k = 18 then 1 else if k = 4 ∨ k = 5 ∨ k = 9 ∨ k = 11 ∨ k = 14 then 2 else if k = 8 ∨ k = 12 ∨ k = 15 then 3 else 0
theorem ev_two {α : Type} {g : Nat → Option α} {r : α} (h : ∀ k, g (k + 2) = some r) : Ev g r := ⟨2, fun k hk => by
  obtain ⟨m, rfl⟩ : ∃ m, k = m + 2 := ⟨k - 2, by omega⟩
  exact h m⟩
theorem spec_kids_ev (a : Int) : Ev (fun k => spec_l22Kids.f k a) (kidsG a) := by
  refine ev_two fun k => ?_
  simp only [spec_l22Kids.f, spec_l22Kids.j0, spec_l22Kids.j1, kidsG]
  by_cases h6 : a = 6
  · subst h6; rfl
  by_cases h7 : a = 7
  · subst h7; rfl
  by_cases h10 : a = 10
  · subst h10; rfl
  by_cases h13 : a = 13
  · subst h13; rfl
  by_cases h16 : a = 16
  · subst h16; rfl
  by_cases h17 : a = 17
  · subst h17; rfl
  by_cases h18 : a = 18
  · subst h18; rfl
  by_cases h4 : a = 4
  · subst h4; rfl
  by_cases h5 : a = 5
  · subst h5; rfl
  by_cases h9 : a = 9
  · subst h9; rfl
  by_cases h11 : a = 11
  · subst h11; rfl
  by_cases h14 : a = 14
  · subst h14; rfl
  simp [h6, h7, h10, h13, h16, h17, h18, h4, h5, h9, h11, h14]
  by_cases h8 : a = 8
  · simp [h8]
  by_cases h12 : a = 12
  · simp [h12]
  by_cases h15 : a = 15
  · simp [h15]
  simp [h8, h12, h15]
theorem impl_kids_ev (a : Int) (h : 1 ≤ a) (h' : a ≤ 18) : Ev (fun k => impl_genKids.f k a) (kidsG a) := by
  refine ev_two fun k => ?_
  have : a = 1 ∨ a = 2 ∨ a = 3 ∨ a = 4 ∨ a = 5 ∨ a = 6 ∨ a = 7 ∨ a = 8 ∨ a = 9 ∨ a = 10 ∨ a = 11 ∨ a = 12 ∨ a = 13 ∨ a = 14 ∨ a = 15 ∨ a = 16 ∨ a = 17 ∨ a = 18 := by omega
  rcases this with rfl | rfl | rfl | rfl | rfl | rfl | rfl | rfl | rfl | rfl | rfl | rfl | rfl | rfl | rfl | rfl | rfl | rfl <;> rfl
def opsL : List (List UInt8) := [[97, 100, 100], [115, 117, 98], [109, 117, 108], [100, 105, 118], [99, 97, 116], [108, 116], [108, 101], [101, 113], [110, 101], [103, 116], [103, 101], [115, 101, 113], [115, 110, 101], [115, 108, 116], [105, 115]]
def isOp (s : ByteArray) : Bool := opsL.any (fun o => decide (s.toList = o))
theorem ite_or {c : Prop} [Decidable c] (b : Bool) : (if c then some true else some b) = some (decide c || b) := by
  by_cases h : c
  · rw [if_pos h, decide_eq_true h]; rfl
  · rw [if_neg h, decide_eq_false h]; rfl
theorem ev_emp {s : ByteArray} {f : Nat → Option Bool} {b : Bool} (k : Ev f b) : Ev (fun n => if s.toList = ([] : List UInt8) then f n else some false) (s.toList.isEmpty && b) := by
  by_cases h : s.toList = []
  · rw [List.isEmpty_iff.2 h, Bool.true_and]; exact ev_pos h k
  · rw [show s.toList.isEmpty = false from by rw [← Bool.not_eq_true, List.isEmpty_iff]; exact h, Bool.false_and]; exact ev_neg h (ev_some _)
def opsB : List ByteArray := [(⟨#[97, 100, 100]⟩ : ByteArray), (⟨#[115, 117, 98]⟩ : ByteArray), (⟨#[109, 117, 108]⟩ : ByteArray), (⟨#[100, 105, 118]⟩ : ByteArray), (⟨#[99, 97, 116]⟩ : ByteArray), (⟨#[108, 116]⟩ : ByteArray), (⟨#[108, 101]⟩ : ByteArray), (⟨#[101, 113]⟩ : ByteArray), (⟨#[110, 101]⟩ : ByteArray), (⟨#[103, 116]⟩ : ByteArray), (⟨#[103, 101]⟩ : ByteArray), (⟨#[115, 101, 113]⟩ : ByteArray), (⟨#[115, 110, 101]⟩ : ByteArray), (⟨#[115, 108, 116]⟩ : ByteArray), (⟨#[105, 115]⟩ : ByteArray)]
theorem opsB_toL (i : Nat) (h : i < 15) : (rdOf ByteArray.empty opsB (i : Int)).toList = opsL[i]'(by simpa [opsL] using h) := by
  have : i = 0 ∨ i = 1 ∨ i = 2 ∨ i = 3 ∨ i = 4 ∨ i = 5 ∨ i = 6 ∨ i = 7 ∨ i = 8 ∨ i = 9 ∨ i = 10 ∨ i = 11 ∨ i = 12 ∨ i = 13 ∨ i = 14 := by omega
  rcases this with rfl | rfl | rfl | rfl | rfl | rfl | rfl | rfl | rfl | rfl | rfl | rfl | rfl | rfl | rfl <;> (rw [Go.ByteArray.toList_eq]; rfl)
theorem impl_isOp_eq (s : ByteArray) : impl_isOperatorName.f s = some (isOp s) := by
  simp only [impl_isOperatorName.f, isOp, opsL, ite_or, List.any_cons, List.any_nil]
theorem spec_among_ev (s : ByteArray) : ∃ v : Int, Ev (fun k => spec_l22Among.f k opsB s) v ∧ decide (v ≥ 0) = isOp s := by
  simp only [spec_l22Among.f]
  obtain ⟨v, hv, h⟩ := idx_find (g := fun k i => spec_l22Among.l0 k opsB s i) 15 (fun i => decide ((rdOf ByteArray.empty opsB (i : Int)).toList = s.toList))
    (by refine ev_shift ?_; simp only [spec_l22Among.l0]; exact ev_neg (by decide) (ev_some _))
    (fun i hi hp r hr => by
      refine ev_shift ?_; simp only [spec_l22Among.l0]
      refine ev_pos (by have : opsB.length = 15 := rfl; omega) (ev_pos (by omega) (ev_neg (of_decide_eq_false hp) ?_))
      rw [wrap_up (n := 15) (by omega) (by omega) (by omega)]; exact hr)
    (fun i hi hp => by
      refine ev_shift ?_; simp only [spec_l22Among.l0]
      exact ev_pos (by have : opsB.length = 15 := rfl; omega) (ev_pos (by omega) (ev_pos (of_decide_eq_true hp) (ev_some _))))
  refine ⟨v, hv, ?_⟩
  rcases h with ⟨rfl, h⟩ | ⟨i, rfl, hi, hp, _⟩
  · have : isOp s = false := by
      rw [isOp, List.any_eq_false]
      intro o ho
      obtain ⟨i, hi, rfl⟩ := List.getElem_of_mem ho
      have := of_decide_eq_false (h i hi)
      rw [opsB_toL i hi] at this
      simpa using fun e => this e.symm
    rw [this]; rfl
  · have : isOp s = true := by
      have e := of_decide_eq_true hp
      rw [opsB_toL i hi] at e
      rw [isOp, List.any_eq_true]
      exact ⟨_, List.getElem_mem (l := opsL) hi, decide_eq_true e.symm⟩
    rw [this]; exact decide_eq_true (by omega)
def dataV (v : S29) : Bool := validV v.f0 v.f1 v.f2 v.f3 && (decide (v.f0 = 1) || (decide (v.f0 = 2) || (decide (4 ≤ v.f0) && decide (v.f0 ≤ 6))))
def zeroV (v : S29) : Bool := v.f0 == 0 && (v.f1 == 0 && (v.f2.toList.isEmpty && (v.f3 == 0)))
def textG (x : S32) : Bool :=
  if x.f0 = 1 then x.f2.toList.isEmpty && dataV x.f3
  else if x.f0 = 2 ∨ x.f0 = 16 ∨ x.f0 = 17 then isNameS x.f2
  else if x.f0 = 11 then isOp x.f2
  else if x.f0 = 6 then x.f2.toList.isEmpty && (decide (0 ≤ x.f1) && decide (x.f1 ≤ 60))
  else x.f2.toList.isEmpty
def formG (x : S32) : Bool :=
  (decide (1 ≤ x.f0) && decide (x.f0 ≤ 18)) && (((x.f4.length : Int) == kidsG x.f0) && ((decide (x.f0 = 6) || x.f1 == 0) && ((decide (x.f0 = 1) || zeroV x.f3) && textG x)))
theorem spec_isRef_eq (a b : Int) (c : ByteArray) (d : Int) : spec_l07IsRef.f a b c d = some (decide (4 ≤ a) && decide (a ≤ 6)) := by
  simp only [spec_l07IsRef.f, spec_l00In_eq, Option.bind_some]
theorem spec_shape_j2 (x : S32) (K : Int) (b : Bool) : Ev (fun k => spec_l22Shape.j2 k [x] K b)
    (if b = true then isNameS x.f2 else if K = 11 then isOp x.f2 else if K = 6 then x.f2.toList.isEmpty && (decide (0 ≤ x.f1) && decide (x.f1 ≤ 60)) else x.f2.toList.isEmpty) := by
  refine ev_shift ?_; simp only [spec_l22Shape.j2, rd_one, spec_l00In_eq, Option.bind_some]
  refine ev_ite (ev_pos (one_lt x) (ev_bind (spec_IsName_ev _) (ev_some _))) (ev_ite ?_ (ev_ite (ev_pos (one_lt x) ?_) (ev_pos (one_lt x) (ev_some _))))
  · obtain ⟨v, hv, e⟩ := spec_among_ev x.f2
    refine ev_bindc (a := opsB) rfl (ev_pos (one_lt x) ?_)
    rw [← e]
    exact ev_bind hv (ev_some _)
  · exact ev_emp (ev_some _)
theorem spec_shape_j1 (x : S32) (b : Bool) : Ev (fun k => spec_l22Shape.j1 k [x] b) (!b && textG x) := by
  refine ev_shift ?_; simp only [spec_l22Shape.j1, rd_one, spec_isRef_eq, Option.bind_some]
  cases b with
  | true => exact ev_pos rfl (ev_some _)
  | false =>
    refine ev_neg (by decide) (ev_pos (one_lt x) ?_)
    simp only [Bool.not_false, Bool.true_and, textG]
    by_cases h1 : x.f0 = 1
    · rw [if_pos h1]
      refine ev_pos h1 (ev_emp (ev_bind (spec_ValidValue_ev _ _ _ _) ?_))
      simp only [dataV]
      cases validV x.f3.f0 x.f3.f1 x.f3.f2 x.f3.f3 with
      | false => exact ev_neg (by decide) (ev_some _)
      | true =>
        refine ev_pos rfl ?_
        by_cases c1 : x.f3.f0 = 1
        · simp only [decide_eq_true c1, Bool.true_or, Bool.true_and]; exact ev_pos c1 (ev_some _)
        · refine ev_neg c1 ?_
          by_cases c2 : x.f3.f0 = 2
          · simp only [decide_eq_true c2, Bool.true_or, Bool.or_true, Bool.true_and]; exact ev_pos c2 (ev_some _)
          · simp only [decide_eq_false c1, decide_eq_false c2, Bool.false_or, Bool.true_and]; exact ev_neg c2 (ev_some _)
    · rw [if_neg h1]
      refine ev_neg h1 ?_
      by_cases h2 : x.f0 = 2
      · rw [if_pos (Or.inl h2)]
        refine ev_pos h2 ?_
        simpa [h2] using spec_shape_j2 x x.f0 (x.f0 == 2)
      · refine ev_neg h2 ?_
        by_cases h3 : x.f0 = 16
        · rw [if_pos (Or.inr (Or.inl h3))]
          refine ev_pos h3 ?_
          simpa [h3] using spec_shape_j2 x x.f0 (x.f0 == 16)
        · refine ev_neg h3 ?_
          have := spec_shape_j2 x x.f0 (x.f0 == 17)
          by_cases h4 : x.f0 = 17
          · simpa [h4] using this
          · simpa [h2, h3, h4] using this
theorem spec_zero (x : S32) : (!(x.f3.f0 == 0) || (!(x.f3.f1 == 0) || (!(x.f3.f2.toList).isEmpty || (!(x.f3.f3 == 0))))) = !zeroV x.f3 := by
  simp only [zeroV, Bool.not_and]
theorem spec_shape_j0 (x : S32) (b : Bool) : Ev (fun k => spec_l22Shape.j0 k [x] b) (!b && ((decide (x.f0 = 6) || x.f1 == 0) && ((decide (x.f0 = 1) || zeroV x.f3) && textG x))) := by
  refine ev_shift ?_; simp only [spec_l22Shape.j0, rd_one, spec_zero]
  cases b with
  | true => exact ev_pos rfl (ev_some _)
  | false =>
    refine ev_neg (by decide) (ev_pos (one_lt x) ?_)
    simp only [Bool.not_false, Bool.true_and]
    by_cases h6 : x.f0 = 6
    · have h1 : ¬ x.f0 = 1 := by omega
      simp only [decide_eq_true h6, decide_eq_false h1, Bool.true_or, Bool.true_and, Bool.false_or]
      refine ev_pos h6 (ev_neg h1 ?_)
      simpa using spec_shape_j1 x (!zeroV x.f3)
    · refine ev_neg h6 ?_
      simp only [decide_eq_false h6, Bool.false_or]
      by_cases h0 : x.f1 = 0
      · refine ev_pos h0 ?_
        rw [show (x.f1 == 0) = true from beq_iff_eq.2 h0, Bool.true_and]
        by_cases h1 : x.f0 = 1
        · simp only [decide_eq_true h1, Bool.true_or, Bool.true_and]
          exact ev_pos h1 (by simpa using spec_shape_j1 x false)
        · simp only [decide_eq_false h1, Bool.false_or]
          exact ev_neg h1 (by simpa using spec_shape_j1 x (!zeroV x.f3))
      · refine ev_neg h0 ?_
        rw [show (x.f1 == 0) = false from beq_eq_false_iff_ne.2 h0, Bool.false_and]
        simpa using spec_shape_j1 x true
theorem spec_shape_ev (x : S32) : Ev (fun k => spec_l22Shape.f k [x]) (formG x) := by
  simp only [spec_l22Shape.f, rd_one, spec_l00In_eq, Option.bind_some, formG]
  refine ev_pos (one_lt x) ?_
  cases (decide (1 ≤ x.f0) && decide (x.f0 ≤ 18)) with
  | false => exact ev_neg (by decide) (by simpa using spec_shape_j0 x true)
  | true =>
    refine ev_pos rfl (ev_bind (spec_kids_ev _) ?_)
    simpa [bne] using spec_shape_j0 x ((x.f4.length : Int) != kidsG x.f0)
theorem impl_isData_ev (a b : Int) (c : ByteArray) (d : Int) : Ev (fun k => impl_isData.f k a b c d) (dataV ⟨a, b, c, d⟩) := by
  simp only [impl_isData.f, impl_refers.f, impl_within_eq, Option.bind_some, dataV]
  refine ev_bind (impl_ValidValue_ev _ _ _ _) ?_
  cases validV a b c d with
  | false => exact ev_neg (by decide) (ev_some _)
  | true =>
    refine ev_pos rfl ?_
    by_cases c1 : a = 1
    · simp only [decide_eq_true c1, Bool.true_or, Bool.true_and]; exact ev_pos c1 (ev_some _)
    · refine ev_neg c1 ?_
      by_cases c2 : a = 2
      · simp only [decide_eq_true c2, Bool.true_or, Bool.or_true, Bool.true_and]; exact ev_pos c2 (ev_some _)
      · simp only [decide_eq_false c1, decide_eq_false c2, Bool.false_or, Bool.true_and]; exact ev_neg c2 (ev_some _)
/-- The last step of the program's form, with its answers told. -/
theorem impl_tail (K : Int) (l : List S32) (n t v : Bool) : Ev (fun k => if (decide (1 ≤ K) && decide (K ≤ 18)) = true then (if n = true then (if t = true then (if v = true then ((impl_genKids.f k K).bind fun t218 => (some ((l.length : Int) == t218))) else (some false)) else (some false)) else (some false)) else (some false))
    ((decide (1 ≤ K) && decide (K ≤ 18)) && (((l.length : Int) == kidsG K) && (n && (v && t)))) := by
  cases hr : (decide (1 ≤ K) && decide (K ≤ 18)) with
  | false => exact ev_neg (by decide) (ev_some _)
  | true =>
    have hr' := Bool.and_eq_true _ _ ▸ hr
    refine ev_pos rfl ?_
    cases n with
    | false => simpa using ev_some false
    | true =>
      refine ev_pos rfl ?_
      cases t with
      | false => simpa using ev_some false
      | true =>
        refine ev_pos rfl ?_
        cases v with
        | false => simpa using ev_some false
        | true =>
          refine ev_pos rfl ?_
          simpa using ev_bind (f := fun _ t218 => some ((l.length : Int) == t218)) (impl_kids_ev K (of_decide_eq_true hr'.1) (of_decide_eq_true hr'.2)) (ev_some _)
theorem impl_form_j0 (n t v : Bool) (b : Bool) (x : S32) : Ev (fun k => impl_Gen_hasForm.j0 k n t v x.f0 b x.f0 x.f1 x.f2 x.f3.f0 x.f3.f1 x.f3.f2 x.f3.f3 x.f4)
    ((decide (1 ≤ x.f0) && decide (x.f0 ≤ 18)) && (((x.f4.length : Int) == kidsG x.f0) && ((if b = true then n else if x.f0 = 6 then (decide (0 ≤ x.f1) && decide (x.f1 ≤ 60)) else n) && (v && (if b = true then isNameS x.f2 else if x.f0 = 6 then t else if x.f0 = 11 then isOp x.f2 else t))))) := by
  refine ev_shift ?_; simp only [impl_Gen_hasForm.j0, impl_within_eq, impl_isOp_eq, Option.bind_some]
  cases b with
  | true => exact ev_pos rfl (ev_bind (impl_IsName_ev _) (impl_tail x.f0 x.f4 n (isNameS x.f2) v))
  | false =>
    refine ev_neg (by decide) ?_
    simp only [if_neg Bool.false_ne_true]
    by_cases h6 : x.f0 = 6
    · simp only [if_pos h6]
      exact impl_tail x.f0 x.f4 (decide (0 ≤ x.f1) && decide (x.f1 ≤ 60)) t v
    · simp only [if_neg h6]
      by_cases h11 : x.f0 = 11
      · simp only [if_pos h11]
        exact impl_tail x.f0 x.f4 n (isOp x.f2) v
      · simp only [if_neg h11]
        exact impl_tail x.f0 x.f4 n t v
theorem impl_form_ev (x : S32) : Ev (fun k => impl_Gen_hasForm.f k x.f0 x.f1 x.f2 x.f3.f0 x.f3.f1 x.f3.f2 x.f3.f3 x.f4) (formG x) := by
  simp only [impl_Gen_hasForm.f, impl_within_eq, Option.bind_some]
  by_cases h1 : x.f0 = 1
  · refine ev_pos h1 (ev_bind (impl_isData_ev _ _ _ _) ?_)
    have := impl_tail x.f0 x.f4 (decide (x.f1 = 0)) x.f2.toList.isEmpty (dataV x.f3)
    have e : formG x = ((decide (1 ≤ x.f0) && decide (x.f0 ≤ 18)) && (((x.f4.length : Int) == kidsG x.f0) && (decide (x.f1 = 0) && (dataV x.f3 && x.f2.toList.isEmpty)))) := by
      have h6 : ¬ x.f0 = 6 := by omega
      simp only [formG, textG, decide_eq_true h1, decide_eq_false h6, if_pos h1, Bool.false_or, Bool.true_or, Bool.true_and]
      rw [Bool.and_comm x.f2.toList.isEmpty]; rfl
    rw [e]
    refine Ev.congr (fun k => ?_) this
    simp only [decide_eq_true_eq, List.isEmpty_iff]
  · have J := fun b => impl_form_j0 (x.f1 == 0) x.f2.toList.isEmpty (x.f3.f0 == 0 && (x.f3.f1 == 0 && (x.f3.f2.toList.isEmpty && (x.f3.f3 == 0)))) b x
    have F : formG x = ((decide (1 ≤ x.f0) && decide (x.f0 ≤ 18)) && (((x.f4.length : Int) == kidsG x.f0) && ((decide (x.f0 = 6) || x.f1 == 0) && (zeroV x.f3 && textG x)))) := by
      simp only [formG, decide_eq_false h1, Bool.false_or]
    refine ev_neg h1 ?_
    by_cases h2 : x.f0 = 2
    · refine ev_pos h2 ?_
      have := J (x.f0 == 2)
      rw [F]; simp only [textG, zeroV]; simpa [h2] using this
    · refine ev_neg h2 ?_
      by_cases h3 : x.f0 = 16
      · refine ev_pos h3 ?_
        have := J (x.f0 == 16)
        rw [F]; simp only [textG, zeroV]; simpa [h3] using this
      · refine ev_neg h3 ?_
        have := J (x.f0 == 17)
        rw [F]; simp only [textG, zeroV]
        by_cases h4 : x.f0 = 17
        · simpa [h4] using this
        · by_cases h6 : x.f0 = 6
          · have e : ∀ a b c d : Bool, (a && (b && (true && c))) = (a && (b && c)) := by intros; simp
            have e2 : (x.f0 == 17) = false := beq_eq_false_iff_ne.2 h4
            have this := J false
            rw [e2]
            simp only [if_neg Bool.false_ne_true, if_pos h6] at this
            simp only [decide_eq_true h6, if_neg h1, if_neg (show ¬ (x.f0 = 2 ∨ x.f0 = 16 ∨ x.f0 = 17) by omega), if_neg (show ¬ x.f0 = 11 by omega), if_pos h6, Bool.true_or, Bool.true_and]
            have q : ∀ p z t : Bool, (p && (z && t)) = (z && (t && p)) := by decide
            rw [← q (decide (0 ≤ x.f1) && decide (x.f1 ≤ 60))]
            exact this
          · simpa [h1, h2, h3, h4, h6] using this
def okT : Nat → S32 → Bool
  | 0, _ => false
  | n + 1, x => formG x && x.f4.all (okT n)
def cntT : Nat → S32 → Nat
  | 0, _ => 1
  | n + 1, x => 1 + (x.f4.map (cntT n)).sum
theorem spec_size_ev : ∀ (n : Nat) (v : S32), smV n v → n ≤ 2000000 → ∃ s : Int, Ev (fun k => spec_l22Size.f k [v]) s ∧ 1 ≤ s ∧ s ≤ 60 * (n : Int) + 1 ∧ (s ≤ 60 ↔ (okT n v = true ∧ cntT n v ≤ 60)) ∧ (s ≤ 60 → s = cntT n v) := by
  intro n
  induction n with
  | zero => exact fun v w => False.elim w
  | succ n ih =>
    intro v w hn
    obtain ⟨lv, hv⟩ := w
    have loop : ∀ d i : Nat, i + d = v.f4.length → ∀ c : Int, 1 ≤ c → c ≤ 60 * ((n + 1 : Nat) : Int) + 1 → ∃ s : Int, Ev (fun k => spec_l22Size.l0 k [v] c (i : Int)) s ∧ c ≤ s ∧ s ≤ 60 * ((n + 1 : Nat) : Int) + 1 ∧ (s ≤ 60 ↔ ((v.f4.drop i).all (okT n) = true ∧ c + (((v.f4.drop i).map (cntT n)).sum : Nat) ≤ 60)) ∧ (s ≤ 60 → s = c + (((v.f4.drop i).map (cntT n)).sum : Nat)) := by
      intro d
      induction d with
      | zero =>
        intro i hi c h1 h2
        refine ⟨c, ?_, by omega, h2, ?_, ?_⟩
        · refine ev_shift ?_; simp only [spec_l22Size.l0, rd_one]; exact ev_pos (one_lt v) (ev_neg (by omega) (ev_some _))
        · rw [List.drop_of_length_le (by omega)]; simp
        · rw [List.drop_of_length_le (by omega)]; simp
      | succ d ihd =>
        intro i hi c h1 h2
        have hlt : i < v.f4.length := by omega
        have hd : v.f4.drop i = v.f4[i] :: v.f4.drop (i + 1) := List.drop_eq_getElem_cons hlt
        by_cases hc : c ≤ 60
        · obtain ⟨s, hs, s1, s2, s3, s4⟩ := ih v.f4[i] (hv _ (List.getElem_mem hlt)) (by omega)
          have w1 : wrap64 (c + s) = c + s := wrap_id (by omega) (by omega)
          obtain ⟨r, hr, r1, r2, r3, r4⟩ := ihd (i + 1) (by omega) (c + s) (by omega) (by omega)
          refine ⟨r, ?_, by omega, r2, ?_, ?_⟩
          · refine ev_shift ?_; simp only [spec_l22Size.l0, rd_one]
            have e : rd_T32 v.f4 (i : Int) = v.f4[i] := getD_get _ _ i hlt
            refine ev_pos (one_lt v) (ev_pos (by omega) (ev_pos hc (ev_pos (by omega) ?_)))
            rw [e, wrap_up (by omega) (show (i : Int) < (v.f4.length : Int) by omega) (by omega)]
            refine ev_bind hs ?_
            rw [w1]; simpa using hr
          · rw [hd, List.all_cons, List.map_cons, List.sum_cons, Bool.and_eq_true]
            constructor
            · intro h
              obtain ⟨q1, q2⟩ := r3.1 h
              have hs60 : s ≤ 60 := by omega
              have e0 := s3.1 hs60
              have := s4 hs60
              exact ⟨⟨e0.1, q1⟩, by omega⟩
            · rintro ⟨⟨q0, q1⟩, q2⟩
              have hs60 : s ≤ 60 := s3.2 ⟨q0, by omega⟩
              have := s4 hs60
              exact r3.2 ⟨q1, by omega⟩
          · intro h
            have hs60 : s ≤ 60 := by omega
            have e1 := s4 hs60
            have e2 := r4 h
            rw [hd, List.map_cons, List.sum_cons]; omega
        · refine ⟨c, ?_, by omega, h2, ?_, fun h => absurd h hc⟩
          · refine ev_shift ?_; simp only [spec_l22Size.l0, rd_one]; exact ev_pos (one_lt v) (ev_pos (by omega) (ev_neg hc (ev_some _)))
          · exact ⟨fun h => absurd h hc, fun h => by omega⟩
    have hf := spec_shape_ev v
    cases hform : formG v with
    | false =>
      rw [hform] at hf
      refine ⟨61, ?_, by omega, by omega, ?_, fun h => absurd h (by omega)⟩
      · refine ev_shift ?_; simp only [spec_l22Size.f]; exact ev_bind hf (ev_neg (by decide) (ev_some _))
      · exact ⟨fun h => absurd h (by omega), fun h => by simp [okT, hform] at h⟩
    | true =>
      rw [hform] at hf
      obtain ⟨s, hs, s1, s2, s3, s4⟩ := loop v.f4.length 0 (by omega) 1 (by omega) (by omega)
      rw [List.drop_zero] at s3 s4
      refine ⟨s, ?_, s1, s2, ?_, ?_⟩
      · refine ev_shift ?_; simp only [spec_l22Size.f]; exact ev_bind hf (ev_pos rfl (by simpa using hs))
      · rw [s3]; simp only [okT, hform, Bool.true_and, cntT]
        constructor
        · rintro ⟨a, b⟩; exact ⟨a, by omega⟩
        · rintro ⟨a, b⟩; exact ⟨a, by omega⟩
      · intro h; have := s4 h; simp only [cntT]; omega
theorem impl_count_ev : ∀ (n : Nat) (v : S32), smV n v → ∀ a : Int, 0 ≤ a → a ≤ 60 → ∃ s : Int, Ev (fun k => impl_countGen.f k v.f0 v.f1 v.f2 v.f3.f0 v.f3.f1 v.f3.f2 v.f3.f3 v.f4 a) s ∧ a + 1 ≤ s ∧ s ≤ 61 ∧ (s ≤ 60 ↔ (okT n v = true ∧ a + cntT n v ≤ 60)) ∧ (s ≤ 60 → s = a + cntT n v) := by
  intro n
  induction n with
  | zero => exact fun v w => False.elim w
  | succ n ih =>
    intro v w a ha ha1
    obtain ⟨lv, hv⟩ := w
    have loop : ∀ d i : Nat, i + d = v.f4.length → ∀ c : Int, 1 ≤ c → c ≤ 60 → ∃ s : Int, Ev (fun k => impl_countGen.l0 k c v.f4 (v.f4.length : Int) (i : Int)) s ∧ c ≤ s ∧ s ≤ 61 ∧ (s ≤ 60 ↔ ((v.f4.drop i).all (okT n) = true ∧ c + (((v.f4.drop i).map (cntT n)).sum : Nat) ≤ 60)) ∧ (s ≤ 60 → s = c + (((v.f4.drop i).map (cntT n)).sum : Nat)) := by
      intro d
      induction d with
      | zero =>
        intro i hi c h1 h2
        refine ⟨c, ?_, by omega, by omega, ?_, ?_⟩
        · refine ev_shift ?_; simp only [impl_countGen.l0]; exact ev_neg (by omega) (ev_some _)
        · rw [List.drop_of_length_le (by omega)]; simp
        · rw [List.drop_of_length_le (by omega)]; simp
      | succ d ihd =>
        intro i hi c h1 h2
        have hlt : i < v.f4.length := by omega
        have hd : v.f4.drop i = v.f4[i] :: v.f4.drop (i + 1) := List.drop_eq_getElem_cons hlt
        have e : rd_T32 v.f4 (i : Int) = v.f4[i] := getD_get _ _ i hlt
        obtain ⟨s, hs, s1, s2, s3, s4⟩ := ih v.f4[i] (hv _ (List.getElem_mem hlt)) c (by omega) h2
        by_cases hc : s > 60
        · refine ⟨s, ?_, by omega, s2, ?_, fun h => absurd h (by omega)⟩
          · refine ev_shift ?_; simp only [impl_countGen.l0]
            refine ev_pos (by omega) (ev_pos (by omega) (ev_pos (by omega) ?_))
            rw [e]
            exact ev_bind hs (ev_pos hc (ev_some _))
          · rw [hd, List.all_cons, List.map_cons, List.sum_cons, Bool.and_eq_true]
            constructor
            · intro h; omega
            · rintro ⟨⟨q0, q1⟩, q2⟩
              exact s3.2 ⟨q0, by omega⟩
        · have hs60 : s ≤ 60 := by omega
          have e1 := s4 hs60
          have e0 := s3.1 hs60
          obtain ⟨r, hr, r1, r2, r3, r4⟩ := ihd (i + 1) (by omega) s (by omega) hs60
          refine ⟨r, ?_, by omega, r2, ?_, ?_⟩
          · refine ev_shift ?_; simp only [impl_countGen.l0]
            refine ev_pos (by omega) (ev_pos (by omega) (ev_pos (by omega) ?_))
            rw [e, wrap_up (by omega) (show (i : Int) < (v.f4.length : Int) by omega) (by omega)]
            exact ev_bind hs (ev_neg hc (by simpa using hr))
          · rw [hd, List.all_cons, List.map_cons, List.sum_cons, Bool.and_eq_true, r3]
            constructor
            · rintro ⟨q1, q2⟩; exact ⟨⟨e0.1, q1⟩, by omega⟩
            · rintro ⟨⟨q0, q1⟩, q2⟩; exact ⟨q1, by omega⟩
          · intro h
            have := r4 h
            rw [hd, List.map_cons, List.sum_cons]; omega
    have w1 : wrap64 (a + 1) = a + 1 := wrap_id (by omega) (by omega)
    have bad : Ev (fun k => impl_countGen.j0 k (a + 1) true v.f0 v.f1 v.f2 v.f3.f0 v.f3.f1 v.f3.f2 v.f3.f3 v.f4) 61 := by
      refine ev_shift ?_; simp only [impl_countGen.j0]; exact ev_pos trivial (ev_some _)
    by_cases hc : a + 1 > 60
    · have hp : 1 ≤ cntT (n + 1) v := by simp only [cntT]; omega
      refine ⟨61, ?_, by omega, by omega, ⟨fun h => absurd h (by omega), fun h => by have := h.2; omega⟩, fun h => absurd h (by omega)⟩
      refine ev_shift ?_; simp only [impl_countGen.f, w1]; exact ev_pos hc bad
    · have hf := impl_form_ev v
      cases hform : formG v with
      | false =>
        rw [hform] at hf
        refine ⟨61, ?_, by omega, by omega, ?_, fun h => absurd h (by omega)⟩
        · refine ev_shift ?_; simp only [impl_countGen.f, w1]; exact ev_neg hc (ev_bind hf bad)
        · exact ⟨fun h => absurd h (by omega), fun h => by simp [okT, hform] at h⟩
      | true =>
        rw [hform] at hf
        obtain ⟨s, hs, s1, s2, s3, s4⟩ := loop v.f4.length 0 (by omega) (a + 1) (by omega) (by omega)
        rw [List.drop_zero] at s3 s4
        refine ⟨s, ?_, s1, s2, ?_, ?_⟩
        · refine ev_shift ?_; simp only [impl_countGen.f, w1]
          refine ev_neg hc (ev_bind hf ?_)
          refine ev_shift ?_; simp only [impl_countGen.j0]
          exact ev_neg (by decide) (by simpa using hs)
        · rw [s3]; simp only [okT, hform, Bool.true_and, cntT]
          constructor
          · rintro ⟨a, b⟩; exact ⟨a, by omega⟩
          · rintro ⟨a, b⟩; exact ⟨a, by omega⟩
        · intro h; have := s4 h; simp only [cntT]; omega
def goodT (n : Nat) (v : S32) : Bool := okT n v && decide (cntT n v ≤ 60)
theorem spec_ok_ev (n : Nat) (hn : n ≤ 2000000) (v : S32) (w : smV n v) : Ev (fun k => spec_l22Ok.f k [v]) (goodT n v) := by
  obtain ⟨s, hs, _, _, h, _⟩ := spec_size_ev n v w hn
  simp only [spec_l22Ok.f]
  have : goodT n v = decide (s ≤ 60) := by
    rw [goodT, Bool.eq_iff_iff, Bool.and_eq_true, decide_eq_true_eq, decide_eq_true_eq, h]
  rw [this]
  exact ev_bind hs (ev_some _)
theorem impl_ok_ev (n : Nat) (v : S32) (w : smV n v) : Ev (fun k => impl_ValidGen.f k v.f0 v.f1 v.f2 v.f3.f0 v.f3.f1 v.f3.f2 v.f3.f3 v.f4) (goodT n v) := by
  obtain ⟨s, hs, _, _, h, _⟩ := impl_count_ev n v w 0 (by omega) (by omega)
  simp only [impl_ValidGen.f]
  have : goodT n v = decide (s ≤ 60) := by
    rw [goodT, Bool.eq_iff_iff, Bool.and_eq_true, decide_eq_true_eq, decide_eq_true_eq, h]
    constructor
    · rintro ⟨a, b⟩; exact ⟨a, by omega⟩
    · rintro ⟨a, b⟩; exact ⟨a, by omega⟩
  rw [this]
  exact ev_bind hs (ev_some _)
def pureT : Nat → S32 → Bool
  | 0, _ => false
  | n + 1, x => !(decide (15 ≤ x.f0) && decide (x.f0 ≤ 18)) && allN x.f4.length (fun i => pureT n (rd_T32 x.f4 (i : Int)))
end Go.Proofs.Ytfpkngdoijpafaa.PureFnExactValidGen
