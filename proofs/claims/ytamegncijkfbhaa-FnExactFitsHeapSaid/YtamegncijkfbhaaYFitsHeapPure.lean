/- The program's FitsHeap returns what the reference's returns, for every heap and value; no condition. -/
import Derived.Test.YtamegncijkfbhaaYFitsHeapA
import Derived.Test.YtamegncijkfbhaaYFitsHeapVHeaps
namespace Go.Proofs.Ytamegncijkfbhaa.Pure
open Go.Proofs.Ytamegncijkfbhaa.PureFnExactFitsHeap Go.RowKit Go.Proofs.YtamegncijkfbhaaG Go.Proofs.Ytamegncijkfbhaa.PFnExactFitsHeap Go.Proofs.YtamegncijkfbhaaW.PrintWords Go.Proofs.YtamegncijkfbhaaW.PrintLast Go.Proofs.YtamegncijkfbhaaW.PrintMore

theorem small_of {l : List S32} (h : Fine l) : smallO l := by
  intro o ho
  have f : Fine o.f0 ∧ Fine o.f1 ∧ Fine o.f2 ∧ Fine o.f3 ∧ Fine o.f4 ∧ Fine o.f5 ∧ Fine o.f6 := h.mem ho
  exact ⟨f.2.2.2.2.1.len, f.2.2.2.2.2.1.len⟩
theorem core : laws_FnExactFitsHeap.Core := by
  intro n l a b c d _ gl _ _ _ _
  exact ⟨_, spec_FitsHeap_ev n l gl.len (small_of gl) a b c d, impl_FitsHeap_ev n l gl.len (small_of gl) a b c d, Fine.bool _⟩
theorem FnExactFitsHeap : laws_FnExactFitsHeap.Pure := close core
end Go.Proofs.Ytamegncijkfbhaa.Pure
