/- The program's HeapSize returns what the reference's returns, for every heap; no condition. -/
import Derived.Test.YtamegncijkfbhaaYHeapSizeA
import Derived.Test.YtamegncijkfbhaaYHeapSizeVHeaps
namespace Go.Proofs.Ytamegncijkfbhaa.Pure
open Go.Proofs.Ytamegncijkfbhaa.PureFnExactHeapSize Go.RowKit Go.Proofs.YtamegncijkfbhaaG Go.Proofs.Ytamegncijkfbhaa.PFnExactFitsHeap Go.Proofs.YtamegncijkfbhaaW.PrintWords Go.Proofs.YtamegncijkfbhaaW.PrintLast Go.Proofs.YtamegncijkfbhaaW.PrintMore

theorem small_of {l : List S32} (h : Fine l) : smallO l := by
  intro o ho
  have f : Fine o.f0 ∧ Fine o.f1 ∧ Fine o.f2 ∧ Fine o.f3 ∧ Fine o.f4 ∧ Fine o.f5 ∧ Fine o.f6 := h.mem ho
  exact ⟨f.2.2.2.2.1.len, f.2.2.2.2.2.1.len⟩
theorem core : laws_FnExactHeapSize.Core := by
  intro n l _ gl
  have go : ∀ r, (heapV n l = true → r = sumH l) → (heapV n l = false → r = -1) → Ev (fun k => spec_HeapSize.f k n l) r ∧ Ev (fun k => impl_HeapSize.f k n l) r := by
    intro r h1 h0
    simp only [spec_HeapSize.f, impl_HeapSize.f]
    refine ⟨ev_bind (spec_l07Ok_ev ⟨n, l⟩ gl.len (small_of gl)) ?_, ev_bind (impl_ValidHeap_ev n l gl.len (small_of gl)) ?_⟩
    · dsimp only
      cases h : heapV n l with
      | false => rw [h0 h]; exact ev_neg Bool.false_ne_true (ev_some _)
      | true => rw [h1 h]; exact ev_pos rfl (ev_bind (spec_l07Size_ev ⟨n, l⟩ gl.len) (ev_some _))
    · cases h : heapV n l with
      | false => rw [h0 h]; exact ev_neg Bool.false_ne_true (ev_some _)
      | true => rw [h1 h]; exact ev_pos rfl (impl_size_ev l gl.len)
  cases h : heapV n l with
  | false => exact ⟨-1, (go (-1) (fun q => by rw [h] at q; cases q) (fun _ => rfl)).1, (go (-1) (fun q => by rw [h] at q; cases q) (fun _ => rfl)).2, show (-9223372036854775808 : Int) ≤ -1 ∧ (-1 : Int) ≤ 9223372036854775807 by omega⟩
  | true => exact ⟨sumH l, (go _ (fun _ => rfl) (fun q => by rw [h] at q; cases q)).1, (go _ (fun _ => rfl) (fun q => by rw [h] at q; cases q)).2, sum_fine l⟩
theorem FnExactHeapSize : laws_FnExactHeapSize.Pure := close core
end Go.Proofs.Ytamegncijkfbhaa.Pure
