/- What the functions on assignments come to. No condition. -/
import Derived.Test.YtabbpnkbhapibaaYFcP0
import Derived.Test.YtabbpnkbhapibaaYFcP13
import Derived.Test.YtabbpnkbhapibaaYFcP14
import Derived.Test.YtabbpnkbhapibaaYFcW3
namespace Go.Proofs.Ytabbpnkbhapibaa.PureFnCaptures
open Go.RowKit Go.Proofs.YtabbpnkbhapibaaG Go.Proofs.Ytabbpnkbhapibaa.PFnExactFinalOf Go.Proofs.YtabbpnkbhapibaaW.PrintWords Go.Proofs.YtabbpnkbhapibaaW.PrintLast Go.Proofs.YtabbpnkbhapibaaW.PrintMore
set_option linter.unusedSimpArgs false
set_option linter.unusedVariables false

def asg (x : S35) : S37 := if x.f3 = 3 then ⟨x.f0, (⟨#[]⟩ : ByteArray), true, x.f2⟩ else ⟨x.f0, x.f1, false, 0⟩
def immF (l : List S35) (i : Nat) : List S37 := if (rd_T35 l (i : Int)).f3 = 2 ∨ (rd_T35 l (i : Int)).f3 = 3 then [asg (rd_T35 l (i : Int))] else []
def condF (l : List S35) (i : Nat) : List S37 := if (rd_T35 l (i : Int)).f3 = 1 then [asg (rd_T35 l (i : Int))] else []
theorem immF_len (l : List S35) (i : Nat) : (immF l i).length ≤ 1 := by unfold immF; split <;> simp
theorem condF_len (l : List S35) (i : Nat) : (condF l i).length ≤ 1 := by unfold condF; split <;> simp
theorem both_len (l : List S35) (i : Nat) : (immF l i).length + (condF l i).length ≤ 1 := by
  unfold immF condF
  by_cases h : (rd_T35 l (i : Int)).f3 = 1
  · rw [if_neg (by omega), if_pos h]; simp
  · rw [if_neg h]; split <;> simp
theorem impl_asg_eq (x : S35) : impl_Capture_assignment.f x.f0 x.f1 x.f2 x.f3 = some ((asg x).f0, (asg x).f1, (asg x).f2, (asg x).f3) := by
  simp only [impl_Capture_assignment.f, asg]; split <;> rfl
theorem impl_ImmediateOf_ev (a b : Int) (l : List S35) (hl : l.length ≤ 1048576) : Ev (fun k => impl_ImmediateOf.f k a b l) (flatN l.length (immF l)) := by
  simp only [impl_ImmediateOf.f, impl_assignments__impl_ImmediateOf_1.f]
  refine ev_bind ?_ (ev_some _)
  refine idx_collect (g := fun k acc i => impl_assignments__impl_ImmediateOf_1.l0 k acc l (l.length : Int) i) l.length 2000000 (immF l) (fun i _ => immF_len l i) ?_ ?_ [] (by simp; omega)
  · intro acc; refine ev_shift ?_; simp only [impl_assignments__impl_ImmediateOf_1.l0]; exact ev_neg (by omega) (ev_some _)
  · intro i hi acc ha r hr
    refine ev_shift ?_; simp only [impl_assignments__impl_ImmediateOf_1.l0, impl_asg_eq, Option.bind_some]
    have wi : wrap64 ((i : Int) + 1) = (i : Int) + 1 := wrap_id (by omega) (by omega)
    rw [wi]
    refine ev_pos (by omega) (ev_pos (by omega) (ev_pos (by omega) ?_))
    have e : impl_ImmediateOf_1.f (rd_T35 l (i : Int)).f0 (rd_T35 l (i : Int)).f1 (rd_T35 l (i : Int)).f2 (rd_T35 l (i : Int)).f3 = some (decide ((rd_T35 l (i : Int)).f3 = 2 ∨ (rd_T35 l (i : Int)).f3 = 3)) := by
      simp only [impl_ImmediateOf_1.f]
      by_cases h2 : (rd_T35 l (i : Int)).f3 = 2
      · rw [if_pos h2, decide_eq_true (Or.inl h2)]
      · rw [if_neg h2]
        by_cases h3 : (rd_T35 l (i : Int)).f3 = 3
        · rw [decide_eq_true (Or.inr h3), h3]; rfl
        · rw [decide_eq_false (by omega)]; simp [h3]
    refine ev_bindc e ?_
    by_cases h : (rd_T35 l (i : Int)).f3 = 2 ∨ (rd_T35 l (i : Int)).f3 = 3
    · rw [show immF l i = [asg (rd_T35 l (i : Int))] from if_pos h] at hr
      exact ev_pos (decide_eq_true h) (ev_pos (by omega) hr)
    · rw [show immF l i = [] from if_neg h, List.append_nil] at hr
      exact ev_neg (by rw [decide_eq_false h]; decide) hr
theorem impl_AssignmentsOf_ev (a b : Int) (l : List S35) (hl : l.length ≤ 1048576) : Ev (fun k => impl_AssignmentsOf.f k a b l) (flatN l.length (immF l) ++ flatN l.length (condF l)) := by
  have h1 := flatN_two l.length (immF l) (condF l) (fun i _ => both_len l i)
  simp only [impl_AssignmentsOf.f, impl_assignments__impl_AssignmentsOf_1.f]
  refine ev_bind ?_ (ev_bind (impl_ImmediateOf_ev a b l hl) (ev_pos ?_ (ev_some _)))
  · have := idx_collect (g := fun k acc i => impl_assignments__impl_AssignmentsOf_1.l0 k acc l (l.length : Int) i) l.length 2000000 (condF l) (fun i _ => condF_len l i) ?_ ?_ [] (by simp; omega)
    · exact this
    · intro acc; refine ev_shift ?_; simp only [impl_assignments__impl_AssignmentsOf_1.l0]; exact ev_neg (by omega) (ev_some _)
    · intro i hi acc ha r hr
      refine ev_shift ?_; simp only [impl_assignments__impl_AssignmentsOf_1.l0, impl_asg_eq, Option.bind_some, impl_AssignmentsOf_1.f]
      have wi : wrap64 ((i : Int) + 1) = (i : Int) + 1 := wrap_id (by omega) (by omega)
      rw [wi]
      refine ev_pos (by omega) (ev_pos (by omega) (ev_pos (by omega) ?_))
      by_cases h : (rd_T35 l (i : Int)).f3 = 1
      · rw [show condF l i = [asg (rd_T35 l (i : Int))] from if_pos h] at hr
        exact ev_pos (beq_iff_eq.2 h) (ev_pos (by omega) hr)
      · rw [show condF l i = [] from if_neg h, List.append_nil] at hr
        exact ev_neg (fun h2 => h (beq_iff_eq.1 h2)) hr
  · first | omega | (simp only [List.nil_append]; omega)
end Go.Proofs.Ytabbpnkbhapibaa.PureFnCaptures
