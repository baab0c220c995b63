/- What the helpers of the law FnExactOpenImage come to: budgets, copies, comparisons; no condition. -/
import Derived.Test.YtjmojijopammjaaDoorYOpenImageO
import Derived.Test.YtjmojijopammjaaDoorYOiW3
namespace Go.Proofs.YtjmojijopammjaaDoor.PureFnExactOpenImage
open Go.RowKit Go.Proofs.YtjmojijopammjaaDoorG Go.Proofs.YtjmojijopammjaaDoor.PFnExactOpenImage Go.Proofs.YtjmojijopammjaaDoorW.PrintWords Go.Proofs.YtjmojijopammjaaDoorW.PrintLast Go.Proofs.YtjmojijopammjaaDoorW.PrintMore
set_option linter.unusedVariables false
set_option linter.unusedSimpArgs false
def laws_FnExactOpenImage.Core:Prop:=∀(a0:ByteArray),Fine a0→∃r,Ev (fun k=>spec_OpenImage.f k a0) r∧Ev (fun k=>impl_OpenImage.f k a0) r∧Fine r
theorem close (core:laws_FnExactOpenImage.Core):laws_FnExactOpenImage.Pure:=by
  intro x0 w_x0
  suffices hh:Ev (fun k=>laws_FnExactOpenImage.f k x0) true by
    obtain⟨K,hK⟩:=hh
    exact⟨K,hK K (Nat.le_refl _)⟩
  simp only[laws_FnExactOpenImage.f]
  refine ev_skip fun c1=>?_
  have g_1:Fine x0:=(show x0.size≤1048576 by omega)
  obtain⟨r,es,ei,gr⟩:=core x0 g_1
  refine ev_bind es ?_
  refine ev_bind ei ?_
  have p0_:Fine r.1:=gr.fst
  have p1_:Fine r.2:=gr.snd
  repeat(first|exact ev_some _|refine ev_pos trivial ?_|refine ev_pos rfl ?_|refine ev_neg (bne_ff _) ?_|refine ev_neg Bool.false_ne_true ?_|refine ev_neg id ?_)
end Go.Proofs.YtjmojijopammjaaDoor.PureFnExactOpenImage
