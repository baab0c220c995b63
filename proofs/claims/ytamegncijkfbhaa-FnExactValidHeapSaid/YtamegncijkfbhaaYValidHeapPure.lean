/- The program's ValidHeap returns what the reference's returns, for every heap: both ask that the objects are valid, rise by id and refer to what fits; no condition. -/
import Derived.Test.YtamegncijkfbhaaYValidHeapA
import Derived.Test.YtamegncijkfbhaaYValidHeapVHeaps
namespace Go.Proofs.Ytamegncijkfbhaa.Pure
open Go.Proofs.Ytamegncijkfbhaa.PureFnExactValidHeap Go.RowKit Go.Proofs.YtamegncijkfbhaaG Go.Proofs.Ytamegncijkfbhaa.PFnExactValidHeap Go.Proofs.YtamegncijkfbhaaW.PrintWords Go.Proofs.YtamegncijkfbhaaW.PrintLast Go.Proofs.YtamegncijkfbhaaW.PrintMore

theorem small_of {l : List S32} (h : Fine l) : smallO l := by
  intro o ho
  have f : Fine o.f0 ∧ Fine o.f1 ∧ Fine o.f2 ∧ Fine o.f3 ∧ Fine o.f4 ∧ Fine o.f5 ∧ Fine o.f6 := h.mem ho
  exact ⟨f.2.2.2.2.1.len, f.2.2.2.2.2.1.len⟩
theorem core : laws_FnExactValidHeap.Core := by
  intro n l _ gl
  refine ⟨heapV n l, ?_, impl_ValidHeap_ev n l gl.len (small_of gl), Fine.bool _⟩
  simp only [spec_ValidHeap.f]
  exact ev_bind (spec_l07Ok_ev ⟨n, l⟩ gl.len (small_of gl)) (ev_some _)
theorem FnExactValidHeap : laws_FnExactValidHeap.Pure := close core
end Go.Proofs.Ytamegncijkfbhaa.Pure
