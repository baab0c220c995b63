/- The program's ValidObject returns what the reference's returns, for every object: both ask for the id, the arguments and what the kind wants; no condition. -/
import Derived.Test.YtamegncijkfbhaaAFnExactValidObject
import Derived.Test.YtamegncijkfbhaaVFnExactValidObjectObjects
namespace Go.Proofs.Ytamegncijkfbhaa.Pure
open Go.Proofs.Ytamegncijkfbhaa.PureFnExactValidObject Go.RowKit Go.Proofs.YtamegncijkfbhaaG Go.Proofs.Ytamegncijkfbhaa.PFnExactValidObject Go.Proofs.YtamegncijkfbhaaW.PrintWords Go.Proofs.YtamegncijkfbhaaW.PrintLast Go.Proofs.YtamegncijkfbhaaW.PrintMore

theorem core : laws_FnExactValidObject.Core := by
  intro f0 f1 f2 f3 l4 l5 v0 v1 v2 v3 _ _ _ _ g4 g5 _ _ _ _
  refine ⟨objV f0 f1 f2 f3 l4 l5 v0 v1 v2 v3, ?_, impl_ValidObject_ev f0 f1 f2 f3 l4 l5 v0 v1 v2 v3 g4.len g5.len, Fine.bool _⟩
  simp only [spec_ValidObject.f]
  exact ev_bind (spec_ValidObject_ev f0 f1 f2 f3 l4 l5 v0 v1 v2 v3 g4.len g5.len) (ev_some _)
theorem FnExactValidObject : laws_FnExactValidObject.Pure := close core
end Go.Proofs.Ytamegncijkfbhaa.Pure
