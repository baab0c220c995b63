/- The program's SameScope returns what the reference's returns, for every two scopes: both compare the bindings, the functions and the record types part by part; no condition. -/
import Derived.Test.YtnneadpahjkhgaaAFnExactSameScope
import Derived.Test.YtnneadpahjkhgaaVFnExactSameScopeLists
namespace Go.Proofs.Ytnneadpahjkhgaa.Pure
open Go.Proofs.Ytnneadpahjkhgaa.PureFnExactSameScope Go.RowKit Go.Proofs.YtnneadpahjkhgaaG Go.Proofs.Ytnneadpahjkhgaa.PFnExactSameScope Go.Proofs.YtnneadpahjkhgaaW.PrintWords Go.Proofs.YtnneadpahjkhgaaW.PrintLast Go.Proofs.YtnneadpahjkhgaaW.PrintMore
set_option linter.unusedSimpArgs false
set_option linter.unusedVariables false

def difB (x y : S116) : Bool := !(x.f0.toList == y.f0.toList) || (!(x.f1.f0 == y.f1.f0) || (!(x.f1.f1 == y.f1.f1) || (!(x.f1.f2.toList == y.f1.f2.toList) || !(x.f1.f3 == y.f1.f3))))
def sameB (l m : List S116) : Bool := decide (l.length = m.length) && allN l.length (fun i => !difB (rd_T116 l (i : Int)) (rd_T116 m (i : Int)))
theorem bind1 (l m : List S116) (hl : l.length ≤ 1048576) : Ev (fun k => spec_l18SameBindings.f k l m) (sameB l m) := by
  simp only [spec_l18SameBindings.f, sameB]
  by_cases h : l.length = m.length
  · refine ev_pos (by omega) ?_
    rw [decide_eq_true h, Bool.true_and]
    refine idx_all (g := fun k i => spec_l18SameBindings.l0 k l m i) l.length (fun i => !difB (rd_T116 l (i : Int)) (rd_T116 m (i : Int))) ?_ ?_ ?_
    · refine ev_shift ?_; simp only [spec_l18SameBindings.l0]; exact ev_neg (by omega) (ev_some _)
    · intro i hi hp r hr
      refine ev_shift ?_; simp only [spec_l18SameBindings.l0]
      refine ev_pos (by omega) (ev_pos (by omega) (ev_pos (by omega) (ev_neg (not_tt hp) ?_)))
      rw [wrap_up (by omega) (show (i : Int) < (l.length : Int) by omega) (by omega)]; exact hr
    · intro i hi hp
      refine ev_shift ?_; simp only [spec_l18SameBindings.l0]
      exact ev_pos (by omega) (ev_pos (by omega) (ev_pos (by omega) (ev_pos (not_ff hp) (ev_some _))))
  · refine ev_neg (by omega) ?_
    rw [decide_eq_false h]; exact ev_some _
theorem bind2 (l m : List S116) (hl : l.length ≤ 1048576) : Ev (fun k => impl_Binding.f k l m) (sameB l m) := by
  simp only [impl_Binding.f, sameB]
  by_cases h : l.length = m.length
  · refine ev_pos (by omega) ?_
    rw [decide_eq_true h, Bool.true_and]
    refine idx_all (g := fun k i => impl_Binding.l0 k l m (l.length : Int) i) l.length (fun i => !difB (rd_T116 l (i : Int)) (rd_T116 m (i : Int))) ?_ ?_ ?_
    · refine ev_shift ?_; simp only [impl_Binding.l0]; exact ev_neg (by omega) (ev_some _)
    · intro i hi hp r hr
      refine ev_shift ?_; simp only [impl_Binding.l0]
      refine ev_pos (by omega) (ev_pos (by omega) (ev_pos (by omega) (ev_pos (by omega) (ev_neg (not_tt hp) ?_))))
      rw [wrap_up (by omega) (show (i : Int) < (l.length : Int) by omega) (by omega)]; exact hr
    · intro i hi hp
      refine ev_shift ?_; simp only [impl_Binding.l0]
      exact ev_pos (by omega) (ev_pos (by omega) (ev_pos (by omega) (ev_pos (by omega) (ev_pos (not_ff hp) (ev_some _)))))
  · refine ev_neg (by omega) ?_
    rw [decide_eq_false h]; exact ev_some _
def sameFn (x y : S107) : Bool := decide (x.f0.toList = y.f0.toList) && (decide (x.f3.toList = y.f3.toList) && (sameT x.f1 y.f1 && sameT x.f2 y.f2))
def sameTy (x y : S109) : Bool := decide (x.f0.toList = y.f0.toList) && sameT x.f1 y.f1
def sameFns (l m : List S107) : Bool := allN l.length (fun i => sameFn (rd_T107 l (i : Int)) (rd_T107 m (i : Int)))
def sameTys (l m : List S109) : Bool := allN l.length (fun i => sameTy (rd_T109 l (i : Int)) (rd_T109 m (i : Int)))
theorem rdf (l : List S107) (g : Fine l) (i : Nat) (hi : i < l.length) : (rd_T107 l (i : Int)).f1.length ≤ 1048576 ∧ (rd_T107 l (i : Int)).f2.length ≤ 1048576 := by
  have e : rd_T107 l (i : Int) = l[i] := getD_get _ l i hi
  rw [e]
  have h : Fine (l[i]).f0 ∧ Fine (l[i]).f1 ∧ Fine (l[i]).f2 ∧ Fine (l[i]).f3 := g.mem (List.getElem_mem hi)
  exact ⟨h.2.1.len, h.2.2.1.len⟩
theorem rdt (l : List S109) (g : Fine l) (i : Nat) (hi : i < l.length) : (rd_T109 l (i : Int)).f1.length ≤ 1048576 := by
  have e : rd_T109 l (i : Int) = l[i] := getD_get _ l i hi
  rw [e]
  have h : Fine (l[i]).f0 ∧ Fine (l[i]).f1 := g.mem (List.getElem_mem hi)
  exact h.2.len
section
variable (a a' : List S116) (l m : List S107) (t u : List S109)
theorem j4t (i : Int) : Ev (fun k => spec_SameScope.j4 k i true a l t a' m u) false := by
  refine ev_shift ?_
  simp only [spec_SameScope.j4]
  exact ev_pos trivial (ev_some _)
theorem j2t (i : Int) : Ev (fun k => spec_SameScope.j2 k i true a l t a' m u) false := by
  refine ev_shift ?_
  simp only [spec_SameScope.j2]
  exact ev_pos trivial (ev_some _)
theorem loopT (gt : Fine t) (h : t.length = u.length) : Ev (fun k => spec_SameScope.l1 k 0 a l t a' m u) (sameTys t u) := by
  have ht := gt.len
  refine idx_all (g := fun k i => spec_SameScope.l1 k i a l t a' m u) t.length (fun i => sameTy (rd_T109 t (i : Int)) (rd_T109 u (i : Int))) ?_ ?_ ?_
  · refine ev_shift ?_; simp only [spec_SameScope.l1]; exact ev_neg (by omega) (ev_some _)
  · intro i hi hp r hr
    simp only [sameTy, Bool.and_eq_true, decide_eq_true_eq] at hp
    refine ev_shift ?_; simp only [spec_SameScope.l1]
    refine ev_pos (by omega) (ev_pos (by omega) (ev_pos (by omega) (ev_pos hp.1 (ev_bind (spec_l18SameTexts_ev _ _ (rdt t gt i hi)) ?_))))
    rw [hp.2]
    refine ev_shift ?_; simp only [spec_SameScope.j4]
    refine ev_neg Bool.false_ne_true ?_
    rw [wrap_up (by omega) (show (i : Int) < (t.length : Int) by omega) (by omega)]; exact hr
  · intro i hi hp
    refine ev_shift ?_; simp only [spec_SameScope.l1]
    refine ev_pos (by omega) (ev_pos (by omega) (ev_pos (by omega) ?_))
    by_cases h1 : (rd_T109 t (i : Int)).f0.toList = (rd_T109 u (i : Int)).f0.toList
    · refine ev_pos h1 (ev_bind (spec_l18SameTexts_ev _ _ (rdt t gt i hi)) ?_)
      cases h2 : sameT (rd_T109 t (i : Int)).f1 (rd_T109 u (i : Int)).f1 with
      | false => exact j4t a a' l m t u _
      | true =>
        simp only [sameTy, h1, h2] at hp
        cases hp
    · exact ev_neg h1 (j4t a a' l m t u _)
theorem loopF (gl : Fine l) (gt : Fine t) (h : l.length = m.length) (h2 : t.length = u.length) : Ev (fun k => spec_SameScope.l0 k 0 a l t a' m u) (sameFns l m && sameTys t u) := by
  have hl := gl.len
  refine idx_and (g := fun k i => spec_SameScope.l0 k i a l t a' m u) l.length (fun i => sameFn (rd_T107 l (i : Int)) (rd_T107 m (i : Int))) _ ?_ ?_ ?_
  · refine ev_shift ?_; simp only [spec_SameScope.l0]
    exact ev_neg (by omega) (loopT a a' l m t u gt h2)
  · intro i hi hp r hr
    simp only [sameFn, Bool.and_eq_true, decide_eq_true_eq] at hp
    refine ev_shift ?_; simp only [spec_SameScope.l0]
    refine ev_pos (by omega) (ev_pos (by omega) (ev_pos (by omega) (ev_pos hp.1 (ev_pos hp.2.1 (ev_bind (spec_l18SameTexts_ev _ _ (rdf l gl i hi).1) (ev_pos hp.2.2.1 (ev_bind (spec_l18SameTexts_ev _ _ (rdf l gl i hi).2) ?_)))))))
    rw [hp.2.2.2]
    refine ev_shift ?_; simp only [spec_SameScope.j2]
    refine ev_neg Bool.false_ne_true ?_
    rw [wrap_up (by omega) (show (i : Int) < (l.length : Int) by omega) (by omega)]; exact hr
  · intro i hi hp
    refine ev_shift ?_; simp only [spec_SameScope.l0]
    refine ev_pos (by omega) (ev_pos (by omega) (ev_pos (by omega) ?_))
    by_cases h1 : (rd_T107 l (i : Int)).f0.toList = (rd_T107 m (i : Int)).f0.toList
    · refine ev_pos h1 ?_
      by_cases h3 : (rd_T107 l (i : Int)).f3.toList = (rd_T107 m (i : Int)).f3.toList
      · refine ev_pos h3 (ev_bind (spec_l18SameTexts_ev _ _ (rdf l gl i hi).1) ?_)
        cases h4 : sameT (rd_T107 l (i : Int)).f1 (rd_T107 m (i : Int)).f1 with
        | false => exact ev_neg Bool.false_ne_true (j2t a a' l m t u _)
        | true =>
          refine ev_pos rfl (ev_bind (spec_l18SameTexts_ev _ _ (rdf l gl i hi).2) ?_)
          cases h5 : sameT (rd_T107 l (i : Int)).f2 (rd_T107 m (i : Int)).f2 with
          | false => exact j2t a a' l m t u _
          | true =>
            simp only [sameFn, h1, h3, h4, h5] at hp
            cases hp
      · exact ev_neg h3 (j2t a a' l m t u _)
    · exact ev_neg h1 (j2t a a' l m t u _)
theorem bad : Ev (fun k => spec_SameScope.j0 k true a l t a' m u) false := by
  refine ev_shift ?_
  simp only [spec_SameScope.j0]
  simpa using ev_some false
theorem spec_ev (ga : Fine a) (gl : Fine l) (gt : Fine t) : Ev (fun k => spec_SameScope.f k a l t a' m u) (sameB a a' && ((decide (l.length = m.length) && sameFns l m) && (decide (t.length = u.length) && sameTys t u))) := by
  simp only [spec_SameScope.f]
  refine ev_bind (bind1 a a' ga.len) ?_
  cases sameB a a' with
  | false => exact ev_neg Bool.false_ne_true (bad a a' l m t u)
  | true =>
    refine ev_pos rfl ?_
    by_cases h : l.length = m.length
    · refine ev_pos (by omega) ?_
      rw [decide_eq_true h]
      by_cases h2 : t.length = u.length
      · refine ev_shift ?_; simp only [spec_SameScope.j0]
        refine ev_neg (by rw [h2]; exact bne_ff _) ?_
        rw [decide_eq_true h2]
        simpa using loopF a a' l m t u gl gt h h2
      · rw [show ((t.length : Int) != (u.length : Int)) = true from bne_iff_ne.2 (by omega), decide_eq_false h2]
        simpa using bad a a' l m t u
    · refine ev_neg (by omega) ?_
      rw [decide_eq_false h]
      simpa using bad a a' l m t u
end
theorem fns2 (l m : List S107) (gl : Fine l) : Ev (fun k => impl_Function__impl_sameFunction.f k l m) (decide (l.length = m.length) && sameFns l m) := by
  have hl := gl.len
  have one : ∀ i, i < l.length → Ev (fun k => impl_sameFunction.f k (rd_T107 l (i : Int)).f0 (rd_T107 l (i : Int)).f1 (rd_T107 l (i : Int)).f2 (rd_T107 l (i : Int)).f3 (rd_T107 m (i : Int)).f0 (rd_T107 m (i : Int)).f1 (rd_T107 m (i : Int)).f2 (rd_T107 m (i : Int)).f3) (sameFn (rd_T107 l (i : Int)) (rd_T107 m (i : Int))) := by
    intro i hi
    simp only [impl_sameFunction.f, sameFn]
    by_cases h1 : (rd_T107 l (i : Int)).f0.toList = (rd_T107 m (i : Int)).f0.toList
    · refine ev_pos h1 ?_
      rw [decide_eq_true h1]
      by_cases h3 : (rd_T107 l (i : Int)).f3.toList = (rd_T107 m (i : Int)).f3.toList
      · refine ev_pos h3 (ev_bind (slices_Equal_string_string_ev _ _ (rdf l gl i hi).1) ?_)
        rw [decide_eq_true h3]
        cases sameT (rd_T107 l (i : Int)).f1 (rd_T107 m (i : Int)).f1 with
        | false => exact ev_neg Bool.false_ne_true (ev_some _)
        | true => exact ev_pos rfl (ev_bind (slices_Equal_string_string_ev _ _ (rdf l gl i hi).2) (by simpa using ev_some _))
      · refine ev_neg h3 ?_
        rw [decide_eq_false h3]; exact ev_some _
    · refine ev_neg h1 ?_
      rw [decide_eq_false h1]; exact ev_some _
  simp only [impl_Function__impl_sameFunction.f]
  by_cases h : l.length = m.length
  · refine ev_pos (by omega) ?_
    rw [decide_eq_true h, Bool.true_and]
    refine idx_all (g := fun k i => impl_Function__impl_sameFunction.l0 k m l (l.length : Int) i) l.length (fun i => sameFn (rd_T107 l (i : Int)) (rd_T107 m (i : Int))) ?_ ?_ ?_
    · refine ev_shift ?_; simp only [impl_Function__impl_sameFunction.l0]; exact ev_neg (by omega) (ev_some _)
    · intro i hi hp r hr
      refine ev_shift ?_; simp only [impl_Function__impl_sameFunction.l0]
      refine ev_pos (by omega) (ev_pos (by omega) (ev_pos (by omega) (ev_pos (by omega) (ev_bind (one i hi) (ev_pos hp ?_)))))
      rw [wrap_up (by omega) (show (i : Int) < (l.length : Int) by omega) (by omega)]; exact hr
    · intro i hi hp
      refine ev_shift ?_; simp only [impl_Function__impl_sameFunction.l0]
      exact ev_pos (by omega) (ev_pos (by omega) (ev_pos (by omega) (ev_pos (by omega) (ev_bind (one i hi) (ev_neg (by rw [hp]; decide) (ev_some _))))))
  · refine ev_neg (by omega) ?_
    rw [decide_eq_false h]; exact ev_some _
theorem tys2 (l m : List S109) (gl : Fine l) : Ev (fun k => impl_RecordType__impl_sameType.f k l m) (decide (l.length = m.length) && sameTys l m) := by
  have hl := gl.len
  have one : ∀ i, i < l.length → Ev (fun k => impl_sameType.f k (rd_T109 l (i : Int)).f0 (rd_T109 l (i : Int)).f1 (rd_T109 m (i : Int)).f0 (rd_T109 m (i : Int)).f1) (sameTy (rd_T109 l (i : Int)) (rd_T109 m (i : Int))) := by
    intro i hi
    simp only [impl_sameType.f, sameTy]
    by_cases h1 : (rd_T109 l (i : Int)).f0.toList = (rd_T109 m (i : Int)).f0.toList
    · refine ev_pos h1 (ev_bind (slices_Equal_string_string_ev _ _ (rdt l gl i hi)) ?_)
      rw [decide_eq_true h1, Bool.true_and]; exact ev_some _
    · refine ev_neg h1 ?_
      rw [decide_eq_false h1]; exact ev_some _
  simp only [impl_RecordType__impl_sameType.f]
  by_cases h : l.length = m.length
  · refine ev_pos (by omega) ?_
    rw [decide_eq_true h, Bool.true_and]
    refine idx_all (g := fun k i => impl_RecordType__impl_sameType.l0 k m l (l.length : Int) i) l.length (fun i => sameTy (rd_T109 l (i : Int)) (rd_T109 m (i : Int))) ?_ ?_ ?_
    · refine ev_shift ?_; simp only [impl_RecordType__impl_sameType.l0]; exact ev_neg (by omega) (ev_some _)
    · intro i hi hp r hr
      refine ev_shift ?_; simp only [impl_RecordType__impl_sameType.l0]
      refine ev_pos (by omega) (ev_pos (by omega) (ev_pos (by omega) (ev_pos (by omega) (ev_bind (one i hi) (ev_pos hp ?_)))))
      rw [wrap_up (by omega) (show (i : Int) < (l.length : Int) by omega) (by omega)]; exact hr
    · intro i hi hp
      refine ev_shift ?_; simp only [impl_RecordType__impl_sameType.l0]
      exact ev_pos (by omega) (ev_pos (by omega) (ev_pos (by omega) (ev_pos (by omega) (ev_bind (one i hi) (ev_neg (by rw [hp]; decide) (ev_some _))))))
  · refine ev_neg (by omega) ?_
    rw [decide_eq_false h]; exact ev_some _
theorem core : laws_FnExactSameScope.Core := by
  intro a l t a' m u ga gl gt _ _ _
  refine ⟨_, spec_ev a a' l m t u ga gl gt, ?_, Fine.bool _⟩
  simp only [impl_SameScope.f, impl_sameDefinitions.f]
  refine ev_bind (bind2 a a' ga.len) ?_
  cases sameB a a' with
  | false => exact ev_neg Bool.false_ne_true (ev_some _)
  | true =>
    refine ev_pos rfl (ev_bind (ev_bind (fns2 l m gl) (r := (decide (l.length = m.length) && sameFns l m) && (decide (t.length = u.length) && sameTys t u)) ?_) (by simpa using ev_some _))
    cases decide (l.length = m.length) && sameFns l m with
    | false => exact ev_neg Bool.false_ne_true (ev_some _)
    | true => exact ev_pos rfl (ev_bind (tys2 t u gt) (by simpa using ev_some _))
theorem FnExactSameScope : laws_FnExactSameScope.Pure := close core
end Go.Proofs.Ytnneadpahjkhgaa.Pure
