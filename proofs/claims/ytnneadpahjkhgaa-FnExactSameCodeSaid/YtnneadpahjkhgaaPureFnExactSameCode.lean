/- The program's SameCode returns what the reference's returns, for every two codes: both compare the three lists part by part; no condition. -/
import Derived.Test.YtnneadpahjkhgaaAFnExactSameCode
namespace Go.Proofs.Ytnneadpahjkhgaa.Pure
open Go.Proofs.Ytnneadpahjkhgaa.PureFnExactSameCode Go.RowKit Go.Proofs.YtnneadpahjkhgaaG Go.Proofs.Ytnneadpahjkhgaa.PFnExactSameCode Go.Proofs.YtnneadpahjkhgaaW.PrintWords Go.Proofs.YtnneadpahjkhgaaW.PrintLast Go.Proofs.YtnneadpahjkhgaaW.PrintMore
set_option linter.unusedSimpArgs false

def sameI (l m : List Int) : Bool := decide (l.length = m.length) && allN l.length (fun i => decide (rd l (i : Int) = rd m (i : Int)))
theorem same1_ev (l m : List Int) (hl : l.length ≤ 1048576) : Ev (fun k => spec_l00Same.f k l m) (sameI l m) := by
  simp only [spec_l00Same.f, sameI]
  by_cases h : l.length = m.length
  · refine ev_pos (by omega) ?_
    rw [decide_eq_true h, Bool.true_and]
    refine idx_all (g := fun k i => spec_l00Same.l0 k l m i) l.length (fun i => decide (rd l (i : Int) = rd m (i : Int))) ?_ ?_ ?_
    · refine ev_shift ?_; simp only [spec_l00Same.l0]; exact ev_neg (by omega) (ev_some _)
    · intro i hi hp r hr
      refine ev_shift ?_; simp only [spec_l00Same.l0]
      refine ev_pos (by omega) (ev_pos (by omega) (ev_pos (by omega) (ev_pos (of_decide_eq_true hp) ?_)))
      rw [wrap_up (by omega) (show (i : Int) < (l.length : Int) by omega) (by omega)]; exact hr
    · intro i hi hp
      refine ev_shift ?_; simp only [spec_l00Same.l0]
      exact ev_pos (by omega) (ev_pos (by omega) (ev_pos (by omega) (ev_neg (of_decide_eq_false hp) (ev_some _))))
  · refine ev_neg (by omega) ?_
    rw [decide_eq_false h]; exact ev_some _
theorem same2_ev (l m : List Int) (hl : l.length ≤ 1048576) : Ev (fun k => slices_Equal_int64_int64.f k l m) (sameI l m) := by
  simp only [slices_Equal_int64_int64.f, sameI]
  by_cases h : l.length = m.length
  · refine ev_pos (by omega) ?_
    rw [decide_eq_true h, Bool.true_and]
    refine idx_all (g := fun k i => slices_Equal_int64_int64.l0 k l m (l.length : Int) i) l.length (fun i => decide (rd l (i : Int) = rd m (i : Int))) ?_ ?_ ?_
    · refine ev_shift ?_; simp only [slices_Equal_int64_int64.l0]; exact ev_neg (by omega) (ev_some _)
    · intro i hi hp r hr
      refine ev_shift ?_; simp only [slices_Equal_int64_int64.l0]
      refine ev_pos (by omega) (ev_pos (by omega) (ev_pos (by omega) (ev_pos (by omega) (ev_pos (of_decide_eq_true hp) ?_))))
      rw [wrap_up (by omega) (show (i : Int) < (l.length : Int) by omega) (by omega)]; exact hr
    · intro i hi hp
      refine ev_shift ?_; simp only [slices_Equal_int64_int64.l0]
      exact ev_pos (by omega) (ev_pos (by omega) (ev_pos (by omega) (ev_pos (by omega) (ev_neg (of_decide_eq_false hp) (ev_some _)))))
  · refine ev_neg (by omega) ?_
    rw [decide_eq_false h]; exact ev_some _
/-- Two instructions differ. -/
def dif (x y : S78) : Bool := !(x.f0 == y.f0) || (!(x.f1 == y.f1) || !(x.f2.toList == y.f2.toList))
def sameL (l m : List S78) : Bool := allN l.length (fun i => !dif (rd_T78 l (i : Int)) (rd_T78 m (i : Int)))
theorem loop1 (l m : List S78) (a b c d : List Int) (h : l.length = m.length) (hl : l.length ≤ 1048576) : Ev (fun k => spec_SameCode.l0 k 0 l a b m c d) (sameL l m) := by
  refine idx_all (g := fun k i => spec_SameCode.l0 k i l a b m c d) l.length (fun i => !dif (rd_T78 l (i : Int)) (rd_T78 m (i : Int))) ?_ ?_ ?_
  · refine ev_shift ?_; simp only [spec_SameCode.l0]; exact ev_neg (by omega) (ev_some _)
  · intro i hi hp r hr
    refine ev_shift ?_; simp only [spec_SameCode.l0]
    refine ev_pos (by omega) (ev_pos (by omega) (ev_pos (by omega) (ev_neg (not_tt hp) ?_)))
    rw [wrap_up (by omega) (show (i : Int) < (l.length : Int) by omega) (by omega)]; exact hr
  · intro i hi hp
    refine ev_shift ?_; simp only [spec_SameCode.l0]
    exact ev_pos (by omega) (ev_pos (by omega) (ev_pos (by omega) (ev_pos (not_ff hp) (ev_some _))))
theorem loop2 (l m : List S78) (h : l.length = m.length) (hl : l.length ≤ 1048576) : Ev (fun k => impl_Instr.l0 k l m (l.length : Int) 0) (sameL l m) := by
  refine idx_all (g := fun k i => impl_Instr.l0 k l m (l.length : Int) i) l.length (fun i => !dif (rd_T78 l (i : Int)) (rd_T78 m (i : Int))) ?_ ?_ ?_
  · refine ev_shift ?_; simp only [impl_Instr.l0]; exact ev_neg (by omega) (ev_some _)
  · intro i hi hp r hr
    refine ev_shift ?_; simp only [impl_Instr.l0]
    refine ev_pos (by omega) (ev_pos (by omega) (ev_pos (by omega) (ev_pos (by omega) (ev_neg (not_tt hp) ?_))))
    rw [wrap_up (by omega) (show (i : Int) < (l.length : Int) by omega) (by omega)]; exact hr
  · intro i hi hp
    refine ev_shift ?_; simp only [impl_Instr.l0]
    exact ev_pos (by omega) (ev_pos (by omega) (ev_pos (by omega) (ev_pos (by omega) (ev_pos (not_ff hp) (ev_some _)))))
theorem core : laws_FnExactSameCode.Core := by
  intro l a b m c d gl ga gb gm gc gd
  have hl := gl.len
  have ha := ga.len
  have hb := gb.len
  refine ⟨(decide (l.length = m.length) && sameL l m) && (sameI a c && sameI b d), ?_, ?_, Fine.bool _⟩
  · simp only [spec_SameCode.f]
    by_cases h : l.length = m.length
    · refine ev_pos (by omega) (ev_bind (same1_ev a c ha) ?_)
      rw [decide_eq_true h, Bool.true_and]
      cases h1 : sameI a c with
      | false =>
        refine ev_neg Bool.false_ne_true (ev_shift ?_)
        simp only [spec_SameCode.j0]
        simpa using ev_some false
      | true =>
        refine ev_pos rfl (ev_bind (same1_ev b d hb) (ev_shift ?_))
        simp only [spec_SameCode.j0]
        cases h2 : sameI b d with
        | false => simpa using ev_some false
        | true => simpa using loop1 l m a b c d h hl
    · refine ev_neg (by omega) (ev_shift ?_)
      simp only [spec_SameCode.j0]
      rw [decide_eq_false h]
      simpa using ev_some false
  · simp only [impl_SameCode.f, impl_Instr.f]
    have e : Ev (fun k => if (l.length : Int) = (m.length : Int) then impl_Instr.l0 k l m (l.length : Int) 0 else some false) (decide (l.length = m.length) && sameL l m) := by
      by_cases h : l.length = m.length
      · refine ev_pos (by omega) ?_
        rw [decide_eq_true h]; exact loop2 l m h hl
      · refine ev_neg (by omega) ?_
        rw [decide_eq_false h]; exact ev_some _
    refine ev_bind e ?_
    cases decide (l.length = m.length) && sameL l m with
    | false => exact ev_neg Bool.false_ne_true (ev_some _)
    | true =>
      refine ev_pos rfl (ev_bind (same2_ev a c ha) ?_)
      cases sameI a c with
      | false => exact ev_neg Bool.false_ne_true (ev_some _)
      | true => exact ev_pos rfl (ev_bind (same2_ev b d hb) (by simpa using ev_some _))
theorem FnExactSameCode : laws_FnExactSameCode.Pure := close core
end Go.Proofs.Ytnneadpahjkhgaa.Pure
