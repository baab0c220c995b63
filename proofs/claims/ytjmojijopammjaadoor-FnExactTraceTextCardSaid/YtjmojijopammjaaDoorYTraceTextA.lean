/- What the helpers of the law FnExactTraceText come to: budgets, copies, comparisons; no condition. -/
import Derived.Test.YtjmojijopammjaaDoorYTraceTextO
import Derived.Test.YtjmojijopammjaaDoorYCtW3
namespace Go.Proofs.YtjmojijopammjaaDoor.PureFnExactTraceText
open Go.RowKit Go.Proofs.YtjmojijopammjaaDoorG Go.Proofs.YtjmojijopammjaaDoor.PFnExactCaptureText Go.Proofs.YtjmojijopammjaaDoorW.PrintWords Go.Proofs.YtjmojijopammjaaDoorW.PrintLast Go.Proofs.YtjmojijopammjaaDoorW.PrintMore
set_option linter.unusedVariables false
set_option linter.unusedSimpArgs false
instance:FineC S23:=⟨fun x=>Fine x.f0∧Fine x.f1∧Fine x.f2∧Fine x.f3⟩
instance:FineC S37:=⟨fun x=>Fine x.f0∧Fine x.f1∧Fine x.f2∧Fine x.f3⟩
instance:FineC S62:=⟨fun x=>Fine x.f0∧Fine x.f1∧Fine x.f2⟩
instance:FineC S64:=⟨fun x=>Fine x.f0∧Fine x.f1∧Fine x.f2⟩
theorem laws_szValue_sz (a0_0:Int) (a0_1:Int) (a0_2:ByteArray) (a0_3:Int) (a1:Int) (w_a0_0:(WInt .i64) a0_0) (w_a0_1:(WInt .i64) a0_1) (w_a0_2:WStr a0_2) (w_a0_3:(WInt .i64) a0_3) (h0:0≤a1) (h1:a1≤1048576):Sz (fun k=>laws_szValue.f a0_0 a0_1 a0_2 a0_3 a1) a1 (Fine a0_0∧Fine a0_1∧Fine a0_2∧Fine a0_3):=by
  simp only[laws_szValue.f]
  have u_a0_2:a0_2.size≤9223372036854775807:=w_a0_2
  refine sz_if h0 (by omega) (by omega) (by omega) (by omega) fun b1 d1 e1=>?_
  exact⟨_,ev_some _,by omega,fun _=>(And.intro w_a0_0.i64 (And.intro w_a0_1.i64 (And.intro (show a0_2.size≤1048576 by omega) w_a0_3.i64)))⟩
theorem laws_toValue_to (a0_0:Int) (a0_1:Int) (a0_2:ByteArray) (a0_3:Int) (g_a0_0:Fine a0_0) (g_a0_1:Fine a0_1) (g_a0_2:Fine a0_2) (g_a0_3:Fine a0_3):To (fun k=>laws_toValue.f a0_0 a0_1 a0_2 a0_3):=by
  simp only[laws_toValue.f]
  exact to_some (And.intro g_a0_0 (And.intro g_a0_1 (And.intro g_a0_2 g_a0_3)))
def laws_FnExactTraceText.Core:Prop:=∀(a0:Int) (a1:Int) (a2:ByteArray) (a3_0:Int) (a3_1:Int) (a3_2:ByteArray) (a3_3:Int),Fine a0→Fine a1→Fine a2→Fine a3_0→Fine a3_1→Fine a3_2→Fine a3_3→∃r,Ev (fun k=>spec_TraceText.f k a0 a1 a2 a3_0 a3_1 a3_2 a3_3) r∧Ev (fun k=>impl_TraceText.f k a0 a1 a2 a3_0 a3_1 a3_2 a3_3) r∧Fine r
theorem close (core:laws_FnExactTraceText.Core):laws_FnExactTraceText.Pure:=by
  intro x0 x1 x2 x3 w_x0 w_x1 w_x2 w_x3
  suffices hh:Ev (fun k=>laws_FnExactTraceText.f k x0 x1 x2 x3.f0 x3.f1 x3.f2 x3.f3) true by
    obtain⟨K,hK⟩:=hh
    exact⟨K,hK K (Nat.le_refl _)⟩
  simp only[laws_FnExactTraceText.f]
  refine ev_skip fun c1=>?_
  have g_1:Fine x2:=(show x2.size≤1048576 by omega)
  obtain⟨v2,e2,b2,q2⟩:=laws_szValue_sz x3.f0 x3.f1 x3.f2 x3.f3 1048576 ((show(WInt .i64) x3.f0∧(WInt .i64) x3.f1∧WStr x3.f2∧(WInt .i64) x3.f3 from w_x3).1) ((show(WInt .i64) x3.f0∧(WInt .i64) x3.f1∧WStr x3.f2∧(WInt .i64) x3.f3 from w_x3).2.1) ((show(WInt .i64) x3.f0∧(WInt .i64) x3.f1∧WStr x3.f2∧(WInt .i64) x3.f3 from w_x3).2.2.1) ((show(WInt .i64) x3.f0∧(WInt .i64) x3.f1∧WStr x3.f2∧(WInt .i64) x3.f3 from w_x3).2.2.2) (by omega) (by omega)
  refine ev_bind e2 (ev_skip fun c2=>?_)
  obtain⟨g2_0,g2_1,g2_2,g2_3⟩:=q2 (by omega)
  obtain⟨v3,e3,g3⟩:=laws_toValue_to x3.f0 x3.f1 x3.f2 x3.f3 g2_0 g2_1 g2_2 g2_3
  refine ev_bind e3 ?_
  obtain⟨r,es,ei,gr⟩:=core x0 x1 x2 v3.1 v3.2.1 v3.2.2.1 v3.2.2.2 (WInt.i64 (w_x0)) (WInt.i64 (w_x1)) g_1 (g3.fst) (g3.snd.fst) (g3.snd.snd.fst) (g3.snd.snd.snd)
  refine ev_bind es ?_
  refine ev_bind e3 ?_
  refine ev_bind ei ?_
  have p0_:Fine v3.1:=g3.fst
  have p1_:Fine v3.2.1:=g3.snd.fst
  have p2_:Fine v3.2.2.1:=g3.snd.snd.fst
  have p3_:Fine v3.2.2.2:=g3.snd.snd.snd
  have p4_:Fine r:=gr
  repeat(first|exact ev_some _|refine ev_pos trivial ?_|refine ev_pos rfl ?_|refine ev_neg (bne_ff _) ?_|refine ev_neg Bool.false_ne_true ?_|refine ev_neg id ?_|refine ev_bind e3 ?_)
end Go.Proofs.YtjmojijopammjaaDoor.PureFnExactTraceText
