/- What the helpers of the law FnExactCaptureText come to: budgets, copies, comparisons; no condition. -/
import Derived.Test.YtjmojijopammjaaDoorYCaptureTextO
import Derived.Test.YtjmojijopammjaaDoorYCtW3
namespace Go.Proofs.YtjmojijopammjaaDoor.PureFnExactCaptureText
open Go.RowKit Go.Proofs.YtjmojijopammjaaDoorG Go.Proofs.YtjmojijopammjaaDoor.PFnExactCaptureText Go.Proofs.YtjmojijopammjaaDoorW.PrintWords Go.Proofs.YtjmojijopammjaaDoorW.PrintLast Go.Proofs.YtjmojijopammjaaDoorW.PrintMore
set_option linter.unusedVariables false
set_option linter.unusedSimpArgs false
instance:FineC S23:=⟨fun x=>Fine x.f0∧Fine x.f1∧Fine x.f2∧Fine x.f3⟩
instance:FineC S37:=⟨fun x=>Fine x.f0∧Fine x.f1∧Fine x.f2∧Fine x.f3⟩
instance:FineC S62:=⟨fun x=>Fine x.f0∧Fine x.f1∧Fine x.f2⟩
instance:FineC S64:=⟨fun x=>Fine x.f0∧Fine x.f1∧Fine x.f2⟩
theorem laws_szCapture_sz (a0_0:ByteArray) (a0_1:ByteArray) (a0_2:Int) (a0_3:Int) (a1:Int) (w_a0_0:WStr a0_0) (w_a0_1:WStr a0_1) (w_a0_2:(WInt .i64) a0_2) (w_a0_3:(WInt .i64) a0_3) (h0:0≤a1) (h1:a1≤1048576):Sz (fun k=>laws_szCapture.f a0_0 a0_1 a0_2 a0_3 a1) a1 (Fine a0_0∧Fine a0_1∧Fine a0_2∧Fine a0_3):=by
  simp only[laws_szCapture.f]
  have u_a0_0:a0_0.size≤9223372036854775807:=w_a0_0
  have u_a0_1:a0_1.size≤9223372036854775807:=w_a0_1
  refine sz_if h0 (by omega) (by omega) (by omega) (by omega) fun b1 d1 e1=>?_
  refine sz_if h0 (by omega) (by omega) (by omega) (by omega) fun b2 d2 e2=>?_
  exact⟨_,ev_some _,by omega,fun _=>(And.intro (show a0_0.size≤1048576 by omega) (And.intro (show a0_1.size≤1048576 by omega) (And.intro w_a0_2.i64 w_a0_3.i64)))⟩
theorem laws_toCapture_to (a0_0:ByteArray) (a0_1:ByteArray) (a0_2:Int) (a0_3:Int) (g_a0_0:Fine a0_0) (g_a0_1:Fine a0_1) (g_a0_2:Fine a0_2) (g_a0_3:Fine a0_3):To (fun k=>laws_toCapture.f a0_0 a0_1 a0_2 a0_3):=by
  simp only[laws_toCapture.f]
  exact to_some (And.intro g_a0_0 (And.intro g_a0_1 (And.intro g_a0_2 g_a0_3)))
def laws_FnExactCaptureText.Core:Prop:=∀(a0_0:ByteArray) (a0_1:ByteArray) (a0_2:Int) (a0_3:Int),Fine a0_0→Fine a0_1→Fine a0_2→Fine a0_3→∃r,Ev (fun k=>spec_CaptureText.f k a0_0 a0_1 a0_2 a0_3) r∧Ev (fun k=>impl_CaptureText.f a0_0 a0_1 a0_2 a0_3) r∧Fine r
theorem close (core:laws_FnExactCaptureText.Core):laws_FnExactCaptureText.Pure:=by
  intro x0 w_x0
  suffices hh:Ev (fun k=>laws_FnExactCaptureText.f k x0.f0 x0.f1 x0.f2 x0.f3) true by
    obtain⟨K,hK⟩:=hh
    exact⟨K,hK K (Nat.le_refl _)⟩
  simp only[laws_FnExactCaptureText.f]
  obtain⟨v1,e1,b1,q1⟩:=laws_szCapture_sz x0.f0 x0.f1 x0.f2 x0.f3 1048576 ((show WStr x0.f0∧WStr x0.f1∧(WInt .i64) x0.f2∧(WInt .i64) x0.f3 from w_x0).1) ((show WStr x0.f0∧WStr x0.f1∧(WInt .i64) x0.f2∧(WInt .i64) x0.f3 from w_x0).2.1) ((show WStr x0.f0∧WStr x0.f1∧(WInt .i64) x0.f2∧(WInt .i64) x0.f3 from w_x0).2.2.1) ((show WStr x0.f0∧WStr x0.f1∧(WInt .i64) x0.f2∧(WInt .i64) x0.f3 from w_x0).2.2.2) (by omega) (by omega)
  refine ev_bind e1 (ev_skip fun c1=>?_)
  obtain⟨g1_0,g1_1,g1_2,g1_3⟩:=q1 (by omega)
  obtain⟨v2,e2,g2⟩:=laws_toCapture_to x0.f0 x0.f1 x0.f2 x0.f3 g1_0 g1_1 g1_2 g1_3
  refine ev_bind e2 ?_
  obtain⟨r,es,ei,gr⟩:=core v2.1 v2.2.1 v2.2.2.1 v2.2.2.2 (g2.fst) (g2.snd.fst) (g2.snd.snd.fst) (g2.snd.snd.snd)
  refine ev_bind es ?_
  refine ev_bind e2 ?_
  refine ev_bind ei ?_
  have p0_:Fine v2.1:=g2.fst
  have p1_:Fine v2.2.1:=g2.snd.fst
  have p2_:Fine v2.2.2.1:=g2.snd.snd.fst
  have p3_:Fine v2.2.2.2:=g2.snd.snd.snd
  have p4_:Fine r:=gr
  repeat(first|exact ev_some _|refine ev_pos trivial ?_|refine ev_pos rfl ?_|refine ev_neg (bne_ff _) ?_|refine ev_neg Bool.false_ne_true ?_|refine ev_neg id ?_|refine ev_bind e2 ?_)
end Go.Proofs.YtjmojijopammjaaDoor.PureFnExactCaptureText
