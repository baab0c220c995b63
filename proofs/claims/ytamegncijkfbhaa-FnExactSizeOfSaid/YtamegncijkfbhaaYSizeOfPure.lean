/- The program's SizeOf returns what the reference's returns, for every heap and value; no condition. -/
import Derived.Test.YtamegncijkfbhaaYSizeOfA
import Derived.Test.YtamegncijkfbhaaYSizeOfVHeaps
namespace Go.Proofs.Ytamegncijkfbhaa.Pure
open Go.Proofs.Ytamegncijkfbhaa.PureFnExactSizeOf Go.RowKit Go.Proofs.YtamegncijkfbhaaG Go.Proofs.Ytamegncijkfbhaa.PFnExactFitsHeap Go.Proofs.YtamegncijkfbhaaW.PrintWords Go.Proofs.YtamegncijkfbhaaW.PrintLast Go.Proofs.YtamegncijkfbhaaW.PrintMore

theorem small_of {l : List S32} (h : Fine l) : smallO l := by
  intro o ho
  have f : Fine o.f0 ∧ Fine o.f1 ∧ Fine o.f2 ∧ Fine o.f3 ∧ Fine o.f4 ∧ Fine o.f5 ∧ Fine o.f6 := h.mem ho
  exact ⟨f.2.2.2.2.1.len, f.2.2.2.2.2.1.len⟩
theorem fine2 {a b : Int} (h : -9223372036854775808 ≤ a ∧ a ≤ 9223372036854775807) (k : -9223372036854775808 ≤ b ∧ b ≤ 9223372036854775807) : Fine (a, b) := ⟨h, k⟩
theorem core : laws_FnExactSizeOf.Core := by
  intro n l a b c d _ gl _ _ _ _
  have hx : ([(⟨a, b, c, d⟩ : S30)] : List S30).length ≤ 1048576 := by simp
  have ho : ∀ o, o ∈ l → o.f5.length ≤ 1048576 := fun o h => (small_of gl o h).2
  have e : fitL l [(⟨a, b, c, d⟩ : S30)] = fitV l a b c d := fitL_one _ _
  simp only [spec_SizeOf.f, impl_SizeOf.f]
  have hs := spec_l09Fit_ev n l gl.len (small_of gl) [(⟨a, b, c, d⟩ : S30)] hx
  have hi := impl_fitAll_code n l gl.len (small_of gl) [(⟨a, b, c, d⟩ : S30)] hx
  rw [e] at hs hi
  cases hv : (heapV n l && fitV l a b c d) with
  | false =>
    rw [hv] at hs hi
    refine ⟨(0, 1), ev_bind hs (ev_neg Bool.false_ne_true (ev_some _)), ev_bind hi (ev_bindc (impl_refers_eq _) (ev_bindc (impl_unless_eq _ _) (ev_bind (impl_first2_ev _ _) ?_))), fine2 (by omega) (by omega)⟩
    exact ev_neg (by simp) (ev_of_eq (by simp))
  | true =>
    rw [hv] at hs hi
    simp only [Bool.and_eq_true] at hv
    cases hr : decide (4 ≤ a) && decide (a ≤ 6) with
    | false =>
      refine ⟨(0, 4), ev_bind hs (ev_pos rfl (ev_bindc (spec_isRef_eq _ _ _ _) ?_)), ev_bind hi (ev_bindc (impl_refers_eq _) ?_), fine2 (by omega) (by omega)⟩
      · rw [hr]; exact ev_neg Bool.false_ne_true (ev_some _)
      · rw [hr]
        refine ev_bindc (impl_unless_eq _ _) (ev_bind (impl_first2_ev _ _) ?_)
        exact ev_neg (by simp) (ev_of_eq (by simp))
    | true =>
      have hf := fit_find hv.2 hr
      have hlt := findI_lt l d
      have hlen : (rd_T32 l (findI l d)).f5.length ≤ 1048576 := by
        obtain ⟨i, hi⟩ : ∃ i : Nat, findI l d = i := ⟨(findI l d).toNat, by omega⟩
        rw [hi, rd_ob l i (by omega)]
        exact ho _ (List.getElem_mem _)
      refine ⟨(((rd_T32 l (findI l d)).f5.length : Int), 0), ev_bind hs (ev_pos rfl (ev_bindc (spec_isRef_eq _ _ _ _) ?_)), ev_bind hi (ev_bindc (impl_refers_eq _) ?_), fine2 (by omega) (by omega)⟩
      · rw [hr]
        exact ev_pos rfl (ev_bind (spec_l07Find_ev ⟨n, l⟩ gl.len d) (ev_pos hf (ev_pos hlt.2 (ev_some _))))
      · rw [hr]
        refine ev_bindc (impl_unless_eq _ _) (ev_bind (impl_first2_ev _ _) ?_)
        refine ev_pos (by simp) (ev_bind (impl_object_ev n l gl.len (rise_heap hv.1) a b c d hr) (ev_pos hf (ev_pos hlt.2 (ev_some _))))
theorem FnExactSizeOf : laws_FnExactSizeOf.Pure := close core
end Go.Proofs.Ytamegncijkfbhaa.Pure
