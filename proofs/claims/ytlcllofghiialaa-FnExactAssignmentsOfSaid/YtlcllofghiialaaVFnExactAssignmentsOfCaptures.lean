/- What the functions on assignments come to. No condition. -/
import Derived.Test.YtlcllofghiialaaPFnExactAssignmentsOfx
import Derived.Test.YtlcllofghiialaaAFnExactAssignmentsOf
namespace Go.Proofs.Ytlcllofghiialaa.PureFnExactAssignmentsOf
open Go.RowKit Go.Proofs.YtlcllofghiialaaG Go.Proofs.Ytlcllofghiialaa.PFnExactAssignmentsOf Go.Proofs.YtlcllofghiialaaW.PrintWords Go.Proofs.YtlcllofghiialaaW.PrintLast Go.Proofs.YtlcllofghiialaaW.PrintMore
set_option linter.unusedSimpArgs false
set_option linter.unusedVariables false

def asg (x : S39) : S41 := if x.f3 = 3 then ⟨x.f0, (⟨#[]⟩ : ByteArray), true, x.f2⟩ else ⟨x.f0, x.f1, false, 0⟩
def immF (l : List S39) (i : Nat) : List S41 := if (rd_T39 l (i : Int)).f3 = 2 ∨ (rd_T39 l (i : Int)).f3 = 3 then [asg (rd_T39 l (i : Int))] else []
def condF (l : List S39) (i : Nat) : List S41 := if (rd_T39 l (i : Int)).f3 = 1 then [asg (rd_T39 l (i : Int))] else []
theorem immF_len (l : List S39) (i : Nat) : (immF l i).length ≤ 1 := by unfold immF; split <;> simp
theorem condF_len (l : List S39) (i : Nat) : (condF l i).length ≤ 1 := by unfold condF; split <;> simp
theorem both_len (l : List S39) (i : Nat) : (immF l i).length + (condF l i).length ≤ 1 := by
  unfold immF condF
  by_cases h : (rd_T39 l (i : Int)).f3 = 1
  · rw [if_neg (by omega), if_pos h]; simp
  · rw [if_neg h]; split <;> simp
theorem fine_asg (l : List S39) (g : Fine l) (i : Nat) (hi : i < l.length) : Fine (asg (rd_T39 l (i : Int))) := by
  have e : rd_T39 l (i : Int) = l[i] := getD_get _ l i hi
  rw [e]
  have gx := g.mem (List.getElem_mem hi)
  have h : Fine (l[i]).f0 ∧ Fine (l[i]).f1 ∧ Fine (l[i]).f2 ∧ Fine (l[i]).f3 := gx
  unfold asg
  split
  · exact And.intro h.1 (And.intro (show (0 : Nat) ≤ 1048576 by omega) (And.intro trivial h.2.2.1))
  · exact And.intro h.1 (And.intro h.2.1 (And.intro trivial (show (-9223372036854775808 : Int) ≤ 0 ∧ (0 : Int) ≤ 9223372036854775807 by omega)))
theorem fine_imm (l : List S39) (g : Fine l) : Fine (flatN l.length (immF l)) := Fine.list (Nat.le_trans (flatN_len _ _ (fun i _ => immF_len l i)) g.len) (fun b hb => by
  obtain ⟨i, hi, hb⟩ := flatN_mem hb
  unfold immF at hb
  split at hb
  · rw [List.mem_singleton.1 hb]; exact fine_asg l g i hi
  · cases hb)
theorem fine_cond (l : List S39) (g : Fine l) (b : S41) (hb : b ∈ flatN l.length (condF l)) : Fine b := by
  obtain ⟨i, hi, hb⟩ := flatN_mem hb
  unfold condF at hb
  split at hb
  · rw [List.mem_singleton.1 hb]; exact fine_asg l g i hi
  · cases hb
theorem spec_asg_eq (x : S39) : spec_l16Assign.f x.f0 x.f1 x.f2 x.f3 = some ((asg x).f0, (asg x).f1, (asg x).f2, (asg x).f3) := by
  simp only [spec_l16Assign.f, asg]; split <;> rfl
theorem impl_asg_eq (x : S39) : impl_Capture_assignment.f x.f0 x.f1 x.f2 x.f3 = some ((asg x).f0, (asg x).f1, (asg x).f2, (asg x).f3) := by
  simp only [impl_Capture_assignment.f, asg]; split <;> rfl
theorem spec_ImmediateOf_ev (a b : Int) (l : List S39) (hl : l.length ≤ 1048576) : Ev (fun k => spec_ImmediateOf.f k a b l) (flatN l.length (immF l)) := by
  simp only [spec_ImmediateOf.f]
  refine idx_collect (g := fun k acc i => spec_ImmediateOf.l0 k acc i a b l) l.length 2000000 (immF l) (fun i _ => immF_len l i) ?_ ?_ [] (by simp; omega)
  · intro acc; refine ev_shift ?_; simp only [spec_ImmediateOf.l0]; exact ev_neg (by omega) (ev_some _)
  · intro i hi acc ha r hr
    refine ev_shift ?_; simp only [spec_ImmediateOf.l0, spec_asg_eq, Option.bind_some]
    have wi : wrap64 ((i : Int) + 1) = (i : Int) + 1 := wrap_id (by omega) (by omega)
    rw [wi]
    refine ev_pos (by omega) (ev_pos (by omega) ?_)
    by_cases h2 : (rd_T39 l (i : Int)).f3 = 2
    · rw [show immF l i = [asg (rd_T39 l (i : Int))] from if_pos (Or.inl h2)] at hr
      exact ev_pos h2 (ev_pos (by omega) hr)
    · refine ev_neg h2 ?_
      by_cases h3 : (rd_T39 l (i : Int)).f3 = 3
      · rw [show immF l i = [asg (rd_T39 l (i : Int))] from if_pos (Or.inr h3)] at hr
        exact ev_pos h3 (ev_pos (by omega) hr)
      · rw [show immF l i = [] from if_neg (by omega), List.append_nil] at hr
        exact ev_neg h3 hr
theorem impl_ImmediateOf_ev (a b : Int) (l : List S39) (hl : l.length ≤ 1048576) : Ev (fun k => impl_ImmediateOf.f k a b l) (flatN l.length (immF l)) := by
  simp only [impl_ImmediateOf.f, impl_assignments__impl_ImmediateOf_1.f]
  refine ev_bind ?_ (ev_some _)
  refine idx_collect (g := fun k acc i => impl_assignments__impl_ImmediateOf_1.l0 k acc l (l.length : Int) i) l.length 2000000 (immF l) (fun i _ => immF_len l i) ?_ ?_ [] (by simp; omega)
  · intro acc; refine ev_shift ?_; simp only [impl_assignments__impl_ImmediateOf_1.l0]; exact ev_neg (by omega) (ev_some _)
  · intro i hi acc ha r hr
    refine ev_shift ?_; simp only [impl_assignments__impl_ImmediateOf_1.l0, impl_asg_eq, Option.bind_some]
    have wi : wrap64 ((i : Int) + 1) = (i : Int) + 1 := wrap_id (by omega) (by omega)
    rw [wi]
    refine ev_pos (by omega) (ev_pos (by omega) (ev_pos (by omega) ?_))
    have e : impl_ImmediateOf_1.f (rd_T39 l (i : Int)).f0 (rd_T39 l (i : Int)).f1 (rd_T39 l (i : Int)).f2 (rd_T39 l (i : Int)).f3 = some (decide ((rd_T39 l (i : Int)).f3 = 2 ∨ (rd_T39 l (i : Int)).f3 = 3)) := by
      simp only [impl_ImmediateOf_1.f]
      by_cases h2 : (rd_T39 l (i : Int)).f3 = 2
      · rw [if_pos h2, decide_eq_true (Or.inl h2)]
      · rw [if_neg h2]
        by_cases h3 : (rd_T39 l (i : Int)).f3 = 3
        · rw [decide_eq_true (Or.inr h3), h3]; rfl
        · rw [decide_eq_false (by omega)]; simp [h3]
    refine ev_bindc e ?_
    by_cases h : (rd_T39 l (i : Int)).f3 = 2 ∨ (rd_T39 l (i : Int)).f3 = 3
    · rw [show immF l i = [asg (rd_T39 l (i : Int))] from if_pos h] at hr
      exact ev_pos (decide_eq_true h) (ev_pos (by omega) hr)
    · rw [show immF l i = [] from if_neg h, List.append_nil] at hr
      exact ev_neg (by rw [decide_eq_false h]; decide) hr
theorem spec_AssignmentsOf_ev (a b : Int) (l : List S39) (hl : l.length ≤ 1048576) : Ev (fun k => spec_AssignmentsOf.f k a b l) (flatN l.length (immF l) ++ flatN l.length (condF l)) := by
  have h1 := flatN_len l.length (immF l) (fun i _ => immF_len l i)
  simp only [spec_AssignmentsOf.f]
  refine ev_bind (spec_ImmediateOf_ev a b l hl) ?_
  refine idx_collect (g := fun k acc i => spec_AssignmentsOf.l0 k acc i a b l) l.length 3000000 (condF l) (fun i _ => condF_len l i) ?_ ?_ _ (by omega)
  · intro acc; refine ev_shift ?_; simp only [spec_AssignmentsOf.l0]; exact ev_neg (by omega) (ev_some _)
  · intro i hi acc ha r hr
    refine ev_shift ?_; simp only [spec_AssignmentsOf.l0, spec_asg_eq, Option.bind_some]
    have wi : wrap64 ((i : Int) + 1) = (i : Int) + 1 := wrap_id (by omega) (by omega)
    rw [wi]
    refine ev_pos (by omega) (ev_pos (by omega) ?_)
    by_cases h2 : (rd_T39 l (i : Int)).f3 = 1
    · rw [show condF l i = [asg (rd_T39 l (i : Int))] from if_pos h2] at hr
      exact ev_pos h2 (ev_pos (by omega) hr)
    · rw [show condF l i = [] from if_neg h2, List.append_nil] at hr
      exact ev_neg h2 hr
theorem impl_AssignmentsOf_ev (a b : Int) (l : List S39) (hl : l.length ≤ 1048576) : Ev (fun k => impl_AssignmentsOf.f k a b l) (flatN l.length (immF l) ++ flatN l.length (condF l)) := by
  have h1 := flatN_two l.length (immF l) (condF l) (fun i _ => both_len l i)
  simp only [impl_AssignmentsOf.f, impl_assignments__impl_AssignmentsOf_1.f]
  refine ev_bind ?_ (ev_bind (impl_ImmediateOf_ev a b l hl) (ev_pos ?_ (ev_some _)))
  · have := idx_collect (g := fun k acc i => impl_assignments__impl_AssignmentsOf_1.l0 k acc l (l.length : Int) i) l.length 2000000 (condF l) (fun i _ => condF_len l i) ?_ ?_ [] (by simp; omega)
    · exact this
    · intro acc; refine ev_shift ?_; simp only [impl_assignments__impl_AssignmentsOf_1.l0]; exact ev_neg (by omega) (ev_some _)
    · intro i hi acc ha r hr
      refine ev_shift ?_; simp only [impl_assignments__impl_AssignmentsOf_1.l0, impl_asg_eq, Option.bind_some, impl_AssignmentsOf_1.f]
      have wi : wrap64 ((i : Int) + 1) = (i : Int) + 1 := wrap_id (by omega) (by omega)
      rw [wi]
      refine ev_pos (by omega) (ev_pos (by omega) (ev_pos (by omega) ?_))
      by_cases h : (rd_T39 l (i : Int)).f3 = 1
      · rw [show condF l i = [asg (rd_T39 l (i : Int))] from if_pos h] at hr
        exact ev_pos (beq_iff_eq.2 h) (ev_pos (by omega) hr)
      · rw [show condF l i = [] from if_neg h, List.append_nil] at hr
        exact ev_neg (fun h2 => h (beq_iff_eq.1 h2)) hr
  · first | omega | (simp only [List.nil_append]; omega)
end Go.Proofs.Ytlcllofghiialaa.PureFnExactAssignmentsOf
