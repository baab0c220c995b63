/- The program's SameConsole returns what the reference's returns, for every two consoles: both compare the same parts; no condition. -/
import Derived.Test.YtnneadpahjkhgaaAFnExactSameConsole
import Derived.Test.YtnneadpahjkhgaaVFnExactSameConsoleLists
namespace Go.Proofs.Ytnneadpahjkhgaa.Pure
open Go.Proofs.Ytnneadpahjkhgaa.PureFnExactSameConsole Go.RowKit Go.Proofs.YtnneadpahjkhgaaG Go.Proofs.Ytnneadpahjkhgaa.PFnExactSameConsole Go.Proofs.YtnneadpahjkhgaaW.PrintWords Go.Proofs.YtnneadpahjkhgaaW.PrintLast Go.Proofs.YtnneadpahjkhgaaW.PrintMore
set_option linter.unusedSimpArgs false

def sameF (x y : S87) : Bool := decide (x.f0.toList = y.f0.toList) && (sameT x.f1 y.f1 && (decide (x.f2 = y.f2) && decide (x.f3 = y.f3)))
theorem file1 (x y : S87) (hx : x.f1.length ≤ 1048576) : Ev (fun k => spec_l21SameFile.f k x.f0 x.f1 x.f2 x.f3 y.f0 y.f1 y.f2 y.f3) (sameF x y) := by
  simp only [spec_l21SameFile.f, sameF]
  by_cases h : x.f0.toList = y.f0.toList
  · refine ev_pos h (ev_bind (spec_l21SameTexts_ev x.f1 y.f1 hx) ?_)
    rw [decide_eq_true h, Bool.true_and]
    cases sameT x.f1 y.f1 with
    | false => exact ev_neg Bool.false_ne_true (ev_some _)
    | true =>
      refine ev_pos rfl ?_
      by_cases h2 : x.f2 = y.f2
      · refine ev_pos h2 (ev_of_eq ?_)
        by_cases h3 : x.f3 = y.f3 <;> simp [h2, h3]
      · refine ev_neg h2 (ev_of_eq ?_); simp [h2]
  · refine ev_neg h (ev_of_eq ?_); simp [h]
theorem file2 (x y : S87) (hx : x.f1.length ≤ 1048576) : Ev (fun k => impl_sameFile.f k x.f0 x.f1 x.f2 x.f3 y.f0 y.f1 y.f2 y.f3) (sameF x y) := by
  simp only [impl_sameFile.f, sameF]
  by_cases h : x.f0.toList = y.f0.toList
  · refine ev_pos h ?_
    by_cases h2 : x.f2 = y.f2
    · refine ev_pos h2 ?_
      by_cases h3 : x.f3 = y.f3
      · refine ev_pos h3 (ev_bind (slices_Equal_string_string_ev x.f1 y.f1 hx) (ev_of_eq ?_))
        simp [h, h2, h3]
      · refine ev_neg h3 (ev_of_eq ?_); simp [h3]
    · refine ev_neg h2 (ev_of_eq ?_); simp [h2]
  · refine ev_neg h (ev_of_eq ?_); simp [h]
def sameFs (l m : List S87) : Bool := allN l.length (fun i => sameF (rd_T87 l (i : Int)) (rd_T87 m (i : Int)))
theorem rdf (l : List S87) (g : Fine l) (i : Nat) (hi : i < l.length) : (rd_T87 l (i : Int)).f1.length ≤ 1048576 := by
  have e : rd_T87 l (i : Int) = l[i] := getD_get _ l i hi
  rw [e]
  exact Fine.len (show Fine (l[i]).f0 ∧ Fine (l[i]).f1 ∧ Fine (l[i]).f2 ∧ Fine (l[i]).f3 from g.mem (List.getElem_mem hi)).2.1
theorem loop1 (a0 a1 : List ByteArray) (a2 : Int) (l m : List S87) (a b a5 a6 : List ByteArray) (a7 : Int) (r0 : Bool) (gl : Fine l) (h : l.length = m.length) (h0 : Ev (fun k => spec_l21SameTexts.f k a b) r0) :
    Ev (fun k => spec_SameConsole.l0 k 0 a0 a2 a1 l a a5 a7 a6 m b) (sameFs l m && r0) := by
  have hl := gl.len
  refine idx_and (g := fun k i => spec_SameConsole.l0 k i a0 a2 a1 l a a5 a7 a6 m b) l.length (fun i => sameF (rd_T87 l (i : Int)) (rd_T87 m (i : Int))) r0 ?_ ?_ ?_
  · refine ev_shift ?_; simp only [spec_SameConsole.l0]; exact ev_neg (by omega) (ev_bind h0 (ev_some _))
  · intro i hi hp r hr
    refine ev_shift ?_; simp only [spec_SameConsole.l0]
    refine ev_pos (by omega) (ev_pos (by omega) (ev_pos (by omega) (ev_bind (file1 _ _ (rdf l gl i hi)) (ev_pos hp ?_))))
    rw [wrap_up (by omega) (show (i : Int) < (l.length : Int) by omega) (by omega)]; exact hr
  · intro i hi hp
    refine ev_shift ?_; simp only [spec_SameConsole.l0]
    exact ev_pos (by omega) (ev_pos (by omega) (ev_pos (by omega) (ev_bind (file1 _ _ (rdf l gl i hi)) (ev_neg (by rw [hp]; decide) (ev_some _)))))
theorem loop2 (l m : List S87) (gl : Fine l) : Ev (fun k => impl_File__impl_sameFile.f k l m) (decide (l.length = m.length) && sameFs l m) := by
  have hl := gl.len
  simp only [impl_File__impl_sameFile.f]
  by_cases h : l.length = m.length
  · refine ev_pos (by omega) ?_
    rw [decide_eq_true h, Bool.true_and]
    refine idx_all (g := fun k i => impl_File__impl_sameFile.l0 k m l (l.length : Int) i) l.length (fun i => sameF (rd_T87 l (i : Int)) (rd_T87 m (i : Int))) ?_ ?_ ?_
    · refine ev_shift ?_; simp only [impl_File__impl_sameFile.l0]; exact ev_neg (by omega) (ev_some _)
    · intro i hi hp r hr
      refine ev_shift ?_; simp only [impl_File__impl_sameFile.l0]
      refine ev_pos (by omega) (ev_pos (by omega) (ev_pos (by omega) (ev_pos (by omega) (ev_bind (file2 _ _ (rdf l gl i hi)) (ev_pos hp ?_)))))
      rw [wrap_up (by omega) (show (i : Int) < (l.length : Int) by omega) (by omega)]; exact hr
    · intro i hi hp
      refine ev_shift ?_; simp only [impl_File__impl_sameFile.l0]
      exact ev_pos (by omega) (ev_pos (by omega) (ev_pos (by omega) (ev_pos (by omega) (ev_bind (file2 _ _ (rdf l gl i hi)) (ev_neg (by rw [hp]; decide) (ev_some _))))))
  · refine ev_neg (by omega) ?_
    rw [decide_eq_false h]; exact ev_some _
theorem core : laws_FnExactSameConsole.Core := by
  intro a n b l c a' n' b' m c' ga gn gb gl gc ga' gn' gb' gm gc'
  refine ⟨sameT a a' && (decide (n = n') && (sameT b b' && (decide (l.length = m.length) && (sameFs l m && sameT c c')))), ?_, ?_, Fine.bool _⟩
  · have bad : ∀ r, r = false → Ev (fun k => spec_SameConsole.j0 k true a n b l c a' n' b' m c') r := fun r hr => by
      refine ev_shift ?_
      simp only [spec_SameConsole.j0]
      rw [hr]
      simpa using ev_some false
    simp only [spec_SameConsole.f]
    refine ev_bind (spec_l21SameTexts_ev a a' ga.len) ?_
    cases sameT a a' with
    | false => exact ev_neg Bool.false_ne_true (bad _ rfl)
    | true =>
      refine ev_pos rfl ?_
      by_cases h : n = n'
      · refine ev_pos h (ev_bind (spec_l21SameTexts_ev b b' gb.len) ?_)
        rw [decide_eq_true h]
        cases sameT b b' with
        | false => exact ev_neg Bool.false_ne_true (bad _ rfl)
        | true =>
          refine ev_pos rfl ?_
          by_cases hl : l.length = m.length
          · refine ev_shift ?_
            simp only [spec_SameConsole.j0]
            refine ev_neg (by rw [hl]; exact bne_ff _) ?_
            rw [decide_eq_true hl]
            simpa using loop1 a b n l m c c' a' b' n' _ gl hl (spec_l21SameTexts_ev c c' gc.len)
          · rw [show ((l.length : Int) != (m.length : Int)) = true from bne_iff_ne.2 (by omega)]
            exact bad _ (by simp [hl])
      · exact ev_neg h (bad _ (by simp [h]))
  · simp only [impl_SameConsole.f]
    have no : Ev (fun _ : Nat => if n = n' then some false else some false) false := ev_of_eq (by split <;> rfl)
    refine ev_bind (slices_Equal_string_string_ev a a' ga.len) ?_
    cases sameT a a' with
    | false => exact ev_neg Bool.false_ne_true no
    | true =>
      refine ev_pos rfl (ev_bind (slices_Equal_string_string_ev b b' gb.len) ?_)
      cases sameT b b' with
      | false => exact ev_neg Bool.false_ne_true (by simpa using no)
      | true =>
        refine ev_pos rfl (ev_bind (slices_Equal_string_string_ev c c' gc.len) ?_)
        by_cases h : n = n'
        · refine ev_pos h ?_
          rw [decide_eq_true h]
          cases sameT c c' with
          | false => exact ev_neg Bool.false_ne_true (by simpa using ev_some false)
          | true => exact ev_pos rfl (ev_bind (loop2 l m gl) (by simpa using ev_some _))
        · refine ev_neg h ?_
          rw [decide_eq_false h]; exact ev_some _
theorem FnExactSameConsole : laws_FnExactSameConsole.Pure := close core
end Go.Proofs.Ytnneadpahjkhgaa.Pure
