/- The program's GetField returns what the reference's returns, for every heap, value and name; no condition. -/
import Derived.Test.YtnjkhdhaiicefaaYGetFieldA
import Derived.Test.YtnjkhdhaiicefaaYGetFieldVFields
namespace Go.Proofs.Ytnjkhdhaiicefaa.Pure
open Go.Proofs.Ytnjkhdhaiicefaa.PureFnExactGetField Go.RowKit Go.Proofs.YtnjkhdhaiicefaaG Go.Proofs.Ytnjkhdhaiicefaa.PFnExactGetField Go.Proofs.YtnjkhdhaiicefaaW.PrintWords Go.Proofs.YtnjkhdhaiicefaaW.PrintLast Go.Proofs.YtnjkhdhaiicefaaW.PrintMore

theorem small_of {l : List S56} (h : Fine l) : smallO l := by
  intro o ho
  have f : Fine o.f0 ∧ Fine o.f1 ∧ Fine o.f2 ∧ Fine o.f3 ∧ Fine o.f4 ∧ Fine o.f5 ∧ Fine o.f6 := h.mem ho
  exact ⟨f.2.2.2.2.1.len, f.2.2.2.2.2.1.len⟩
theorem fine5 {a b : Int} {c : ByteArray} {d e : Int} (h1 : -9223372036854775808 ≤ a ∧ a ≤ 9223372036854775807) (h2 : -9223372036854775808 ≤ b ∧ b ≤ 9223372036854775807) (h3 : c.size ≤ 1048576) (h4 : -9223372036854775808 ≤ d ∧ d ≤ 9223372036854775807) (h5 : -9223372036854775808 ≤ e ∧ e ≤ 9223372036854775807) : Fine (a, b, c, d, e) := ⟨h1, h2, h3, h4, h5⟩
theorem core : laws_FnExactGetField.Core := by
  intro n l a b c d nm _ gl _ _ _ _ _
  have hm := small_of gl
  have hx : ([(⟨a, b, c, d⟩ : S29)] : List S29).length ≤ 1048576 := by simp
  have e : fitL l [(⟨a, b, c, d⟩ : S29)] = fitV l a b c d := fitL_one _ _
  simp only [spec_GetField.f, impl_GetField.f]
  have hs := spec_l09Fit_ev n l gl.len hm [(⟨a, b, c, d⟩ : S29)] hx
  have hi := impl_fitAll_code n l gl.len hm [(⟨a, b, c, d⟩ : S29)] hx
  rw [e] at hs hi
  cases hv : (heapV n l && fitV l a b c d) with
  | false =>
    rw [hv] at hs hi
    rw [if_neg Bool.false_ne_true] at hi
    refine ⟨(0, 0, (⟨#[]⟩ : ByteArray), 0, 1), ev_bind hs ?_, ev_bind hi ?_, fine5 (by omega) (by omega) (by decide) (by omega) (by omega)⟩
    · refine ev_shift ?_; simp only [spec_GetField.j0]
      exact ev_pos (by decide) (ev_some _)
    · refine ev_shift ?_; simp only [impl_GetField.j0]
      exact ev_neg (by decide) (ev_some _)
  | true =>
    rw [hv] at hs hi
    rw [if_pos rfl] at hi
    simp only [Bool.and_eq_true] at hv
    by_cases h6 : a = 6
    · subst h6
      have hf := fit_find hv.2 (by decide)
      have hlt := findI_lt l d
      obtain ⟨i, hi'⟩ : ∃ i : Nat, findI l d = i := ⟨(findI l d).toNat, by omega⟩
      have hil : i < l.length := by omega
      have sm := small_rd hm i hil
      have hob := heap_ob hv.1 i hil
      have hk := fit_kind hv.2 (by omega) (by omega)
      rw [hi'] at hk hf
      have hlen := ob_len hob (.inr (by omega))
      have hkey := keyI_lt (rd_T56 l (i : Int)).f4 ⟨1, 0, nm, 0⟩
      have hspec : ∀ r, Ev (fun k => spec_GetField.j1 k (keyI (rd_T56 l (i : Int)).f4 ⟨1, 0, nm, 0⟩) (rd_T56 l (i : Int)).f0 (rd_T56 l (i : Int)).f1 (rd_T56 l (i : Int)).f2 (rd_T56 l (i : Int)).f3 (rd_T56 l (i : Int)).f4 (rd_T56 l (i : Int)).f5 (rd_T56 l (i : Int)).f6.f0 (rd_T56 l (i : Int)).f6.f1 (rd_T56 l (i : Int)).f6.f2 (rd_T56 l (i : Int)).f6.f3) r → Ev (fun k => spec_GetField.j0 k nm (!true) n l 6 b c d) r := by
        intro r hr
        refine ev_shift ?_; simp only [spec_GetField.j0]
        have hfe := spec_l07Find_ev ⟨n, l⟩ gl.len d
        dsimp only at hfe
        rw [hi'] at hfe
        refine ev_neg (by decide) (ev_pos (by simp) (ev_bind hfe (ev_pos hf (ev_pos (by omega) (ev_bind (spec_l09Field_ev (rd_T56 l (i : Int)) sm.1 nm) hr)))))
      have hfld := impl_findField_ev n l gl.len (rise_heap hv.1) b c d nm (by omega) (by rw [hi']; exact sm.1)
      rw [hi'] at hfld
      by_cases hz : 0 ≤ keyI (rd_T56 l (i : Int)).f4 ⟨1, 0, nm, 0⟩
      · obtain ⟨j, hj⟩ : ∃ j : Nat, keyI (rd_T56 l (i : Int)).f4 ⟨1, 0, nm, 0⟩ = j := ⟨(keyI (rd_T56 l (i : Int)).f4 ⟨1, 0, nm, 0⟩).toNat, by omega⟩
        have hjl : j < (rd_T56 l (i : Int)).f5.length := by omega
        rw [hj] at hspec hfld
        rw [if_pos (by simp)] at hfld
        have go : Fine (rd_T29 (rd_T56 l (i : Int)).f5 (j : Int)) := by
          rw [rd_va _ j hjl]
          have f : Fine (rd_T56 l (i : Int)).f0 ∧ Fine (rd_T56 l (i : Int)).f1 ∧ Fine (rd_T56 l (i : Int)).f2 ∧ Fine (rd_T56 l (i : Int)).f3 ∧ Fine (rd_T56 l (i : Int)).f4 ∧ Fine (rd_T56 l (i : Int)).f5 ∧ Fine (rd_T56 l (i : Int)).f6 := by
            rw [rd_ob l i hil]; exact gl.mem (List.getElem_mem hil)
          exact f.2.2.2.2.2.1.mem (List.getElem_mem hjl)
        have g : Fine (rd_T29 (rd_T56 l (i : Int)).f5 (j : Int)).f0 ∧ Fine (rd_T29 (rd_T56 l (i : Int)).f5 (j : Int)).f1 ∧ Fine (rd_T29 (rd_T56 l (i : Int)).f5 (j : Int)).f2 ∧ Fine (rd_T29 (rd_T56 l (i : Int)).f5 (j : Int)).f3 := go
        refine ⟨((rd_T29 (rd_T56 l (i : Int)).f5 (j : Int)).f0, (rd_T29 (rd_T56 l (i : Int)).f5 (j : Int)).f1, (rd_T29 (rd_T56 l (i : Int)).f5 (j : Int)).f2, (rd_T29 (rd_T56 l (i : Int)).f5 (j : Int)).f3, 0), ev_bind hs (hspec _ ?_), ev_bind hi ?_, fine5 g.1.i64 g.2.1.i64 g.2.2.1.size g.2.2.2.i64 (by omega)⟩
        · refine ev_shift ?_; simp only [spec_GetField.j1]
          exact ev_neg (by omega) (ev_pos (by omega) (ev_pos (by omega) (ev_some _)))
        · refine ev_shift ?_; simp only [impl_GetField.j0]
          refine ev_pos (by simp) (ev_bind hfld ?_)
          dsimp only
          exact ev_pos rfl (ev_pos hf (ev_pos (by omega) (ev_pos (by omega) (ev_pos (by omega) (ev_some _)))))
      · rw [if_neg (by simpa using hz)] at hfld
        refine ⟨(0, 0, (⟨#[]⟩ : ByteArray), 0, 11), ev_bind hs (hspec _ ?_), ev_bind hi ?_, fine5 (by omega) (by omega) (by decide) (by omega) (by omega)⟩
        · refine ev_shift ?_; simp only [spec_GetField.j1]
          exact ev_pos (by omega) (ev_some _)
        · refine ev_shift ?_; simp only [impl_GetField.j0]
          exact ev_pos (by simp) (ev_bind hfld (ev_neg (by simp) (ev_some _)))
    · refine ⟨(0, 0, (⟨#[]⟩ : ByteArray), 0, 4), ev_bind hs ?_, ev_bind hi ?_, fine5 (by omega) (by omega) (by decide) (by omega) (by omega)⟩
      · refine ev_shift ?_; simp only [spec_GetField.j0]
        exact ev_neg (by decide) (ev_neg h6 (ev_some _))
      · refine ev_shift ?_; simp only [impl_GetField.j0]
        refine ev_pos (by simp) ?_
        simp only [impl_findField.f]
        exact ev_bind (ev_neg h6 (ev_some (0, 0, 4))) (ev_neg (by simp) (ev_some _))
theorem FnExactGetField : laws_FnExactGetField.Pure := close core
end Go.Proofs.Ytnjkhdhaiicefaa.Pure
