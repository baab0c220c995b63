/- The program's ValidRoots returns what the reference's returns, for every heap and roots; no condition. -/
import Derived.Test.YtamegncijkfbhaaYValidRootsA
import Derived.Test.YtamegncijkfbhaaYValidRootsVHeaps
namespace Go.Proofs.Ytamegncijkfbhaa.Pure
open Go.Proofs.Ytamegncijkfbhaa.PureFnExactValidRoots Go.RowKit Go.Proofs.YtamegncijkfbhaaG Go.Proofs.Ytamegncijkfbhaa.PFnExactFitsHeap Go.Proofs.YtamegncijkfbhaaW.PrintWords Go.Proofs.YtamegncijkfbhaaW.PrintLast Go.Proofs.YtamegncijkfbhaaW.PrintMore

theorem small_of {l : List S32} (h : Fine l) : smallO l := by
  intro o ho
  have f : Fine o.f0 ∧ Fine o.f1 ∧ Fine o.f2 ∧ Fine o.f3 ∧ Fine o.f4 ∧ Fine o.f5 ∧ Fine o.f6 := h.mem ho
  exact ⟨f.2.2.2.2.1.len, f.2.2.2.2.2.1.len⟩
theorem core : laws_FnExactValidRoots.Core := by
  intro n l xs _ gl gx
  refine ⟨_, ?_, impl_ValidRoots_ev n l gl.len (small_of gl) xs gx.len, Fine.bool _⟩
  simp only [spec_ValidRoots.f]
  exact ev_bind (spec_l08Valid_ev n l gl.len (small_of gl) xs gx.len) (ev_some _)
theorem FnExactValidRoots : laws_FnExactValidRoots.Pure := close core
end Go.Proofs.Ytamegncijkfbhaa.Pure
