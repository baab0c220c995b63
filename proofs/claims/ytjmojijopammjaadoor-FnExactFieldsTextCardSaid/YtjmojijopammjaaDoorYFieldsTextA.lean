/- What the helpers of the law FnExactFieldsText come to: budgets, copies, comparisons; no condition. -/
import Derived.Test.YtjmojijopammjaaDoorYFieldsTextO
import Derived.Test.YtjmojijopammjaaDoorYCtW3
namespace Go.Proofs.YtjmojijopammjaaDoor.PureFnExactFieldsText
open Go.RowKit Go.Proofs.YtjmojijopammjaaDoorG Go.Proofs.YtjmojijopammjaaDoor.PFnExactCaptureText Go.Proofs.YtjmojijopammjaaDoorW.PrintWords Go.Proofs.YtjmojijopammjaaDoorW.PrintLast Go.Proofs.YtjmojijopammjaaDoorW.PrintMore
set_option linter.unusedVariables false
set_option linter.unusedSimpArgs false
instance:FineC S62:=⟨fun x=>Fine x.f0∧Fine x.f1∧Fine x.f2⟩
instance:FineC S64:=⟨fun x=>Fine x.f0∧Fine x.f1∧Fine x.f2⟩
instance:FineC S23:=⟨fun x=>Fine x.f0∧Fine x.f1∧Fine x.f2∧Fine x.f3⟩
instance:FineC S37:=⟨fun x=>Fine x.f0∧Fine x.f1∧Fine x.f2∧Fine x.f3⟩
theorem laws_szField_sz (a0_0:Bool) (a0_1:Int) (a0_2:ByteArray) (a1:Int) (w_a0_0:(fun _=>True) a0_0) (w_a0_1:(WInt .i64) a0_1) (w_a0_2:WStr a0_2) (h0:0≤a1) (h1:a1≤1048576):Sz (fun k=>laws_szField.f a0_0 a0_1 a0_2 a1) a1 (Fine a0_0∧Fine a0_1∧Fine a0_2):=by
  simp only[laws_szField.f]
  have u_a0_2:a0_2.size≤9223372036854775807:=w_a0_2
  refine sz_if h0 (by omega) (by omega) (by omega) (by omega) fun b1 d1 e1=>?_
  exact⟨_,ev_some _,by omega,fun _=>(And.intro trivial (And.intro w_a0_1.i64 (show a0_2.size≤1048576 by omega)))⟩
theorem laws_szFieldS_sz (l0:List (S62)) (a1:Int) (w_l0:(WList wf62) l0) (h0:0≤a1) (h1:a1≤1048576):Sz (fun k=>laws_szFieldS.f k l0 a1) a1 (Fine l0):=by
  simp only[laws_szFieldS.f]
  have u_l0:l0.length≤9223372036854775807:=w_l0.1
  refine sz_if h0 (by omega) (by omega) (by omega) (by omega) fun b1 d1 e1=>?_
  obtain⟨v,hv,hle,hq⟩:=sz_loop laws_szFieldS.l0 (fun k x n=>laws_szField.f (x.f0) (x.f1) (x.f2) n) rd_T62 (fun x=>Fine x) (fun k xs n i=>by simp only[laws_szFieldS.l0]) (fun xs i h=>getD_get _ xs i h) l0 w_l0.1 (wrap64 (a1-(l0.length:Int))) (by omega) (fun x hx m hm hm1=>by
    have w:=w_l0.2 x hx
    exact sz_mono (laws_szField_sz x.f0 x.f1 x.f2 m (show(fun _=>True) x.f0∧(WInt .i64) x.f1∧WStr x.f2 from w).1 (show(fun _=>True) x.f0∧(WInt .i64) x.f1∧WStr x.f2 from w).2.1 (show(fun _=>True) x.f0∧(WInt .i64) x.f1∧WStr x.f2 from w).2.2 hm (by omega)) (fun⟨g0,g1,g2⟩=>(And.intro g0 (And.intro g1 g2))))
  exact⟨v,hv,by omega,fun h=>Fine.list (by omega) (hq h)⟩
theorem laws_toField_to (a0_0:Bool) (a0_1:Int) (a0_2:ByteArray) (g_a0_0:Fine a0_0) (g_a0_1:Fine a0_1) (g_a0_2:Fine a0_2):To (fun k=>laws_toField.f a0_0 a0_1 a0_2):=by
  simp only[laws_toField.f]
  exact to_some (And.intro g_a0_0 (And.intro g_a0_1 g_a0_2))
theorem laws_toFieldS_to (l0:List (S62)) (g_l0:Fine l0):To (fun k=>laws_toFieldS.f k l0):=by
  simp only[laws_toFieldS.f]
  refine to_if (by omega) (to_if (by have:=g_l0.len;omega) ?_)
  exact to_loop laws_toFieldS.l0 (fun k x=>(laws_toField.f (x.f0) (x.f1) (x.f2)).bind fun bt268=>some (⟨bt268.1,bt268.2.1,bt268.2.2⟩:S64)) rd_T62 (fun k xs ys i=>by simp only[laws_toFieldS.l0,Option.bind_assoc,Option.bind_some]) (fun xs i h=>getD_get _ xs i h) l0 g_l0.len _ (fun x hx=>by
    have g:=g_l0.mem hx
    exact to_bind (laws_toField_to (x.f0) (x.f1) (x.f2) (show Fine x.f0∧Fine x.f1∧Fine x.f2 from g).1 (show Fine x.f0∧Fine x.f1∧Fine x.f2 from g).2.1 (show Fine x.f0∧Fine x.f1∧Fine x.f2 from g).2.2) (fun bt268 g_bt268=>to_some (And.intro g_bt268.fst (And.intro g_bt268.snd.fst g_bt268.snd.snd))))
theorem laws_eqField_rf (a0_0:Bool) (a0_1:Int) (a0_2:ByteArray) (g_a0_0:Fine a0_0) (g_a0_1:Fine a0_1) (g_a0_2:Fine a0_2):Ev (fun k=>laws_eqField.f a0_0 a0_1 a0_2 a0_0 a0_1 a0_2) true:=by
  simp only[laws_eqField.f]
  refine ev_neg (by simp) ?_
  refine ev_pos (by trivial) ?_
  refine ev_pos (by trivial) ?_
  exact ev_some _
theorem laws_eqFieldS_rf (l0:List (S64)) (g_l0:Fine l0):Ev (fun k=>laws_eqFieldS.f k l0 l0) true:=by
  simp only[laws_eqFieldS.f]
  refine ev_pos (by trivial) ?_
  exact eq_loop laws_eqFieldS.l0 (fun k x y=>laws_eqField.f (x.f0) (x.f1) (x.f2) (y.f0) (y.f1) (y.f2)) rd_T64 (fun k xs ys i=>by simp only[laws_eqFieldS.l0]) (fun xs i h=>getD_get _ xs i h) l0 g_l0.len (fun x hx=>by
    have g:=g_l0.mem hx
    exact laws_eqField_rf x.f0 x.f1 x.f2 (show Fine x.f0∧Fine x.f1∧Fine x.f2 from g).1 (show Fine x.f0∧Fine x.f1∧Fine x.f2 from g).2.1 (show Fine x.f0∧Fine x.f1∧Fine x.f2 from g).2.2)
def laws_FnExactFieldsText.Core:Prop:=∀(l0:List (S64)),Fine l0→∃r,Ev (fun k=>spec_FieldsText.f k l0) r∧Ev (fun k=>impl_FieldsText.f k l0) r∧Fine r
theorem close (core:laws_FnExactFieldsText.Core):laws_FnExactFieldsText.Pure:=by
  intro x0 w_x0
  suffices hh:Ev (fun k=>laws_FnExactFieldsText.f k x0) true by
    obtain⟨K,hK⟩:=hh
    exact⟨K,hK K (Nat.le_refl _)⟩
  simp only[laws_FnExactFieldsText.f]
  obtain⟨v1,e1,b1,q1⟩:=laws_szFieldS_sz x0 1048576 (w_x0) (by omega) (by omega)
  refine ev_bind e1 (ev_skip fun c1=>?_)
  obtain g1_0:=q1 (by omega)
  obtain⟨v2,e2,g2⟩:=laws_toFieldS_to x0 g1_0
  refine ev_bind e2 ?_
  obtain⟨r,es,ei,gr⟩:=core v2 g2
  refine ev_bind es ?_
  refine ev_bind e2 ?_
  refine ev_bind ei ?_
  have p0_:Fine v2:=g2
  have p1_:Fine r:=gr
  repeat(first|exact ev_some _|refine ev_pos trivial ?_|refine ev_pos rfl ?_|refine ev_neg (bne_ff _) ?_|refine ev_neg Bool.false_ne_true ?_|refine ev_neg id ?_|refine ev_bind e2 ?_|refine ev_bind (laws_eqField_rf _ _ _ (by assumption) (by assumption) (by assumption)) ?_|refine ev_bind (laws_eqFieldS_rf _ (by assumption)) ?_)
end Go.Proofs.YtjmojijopammjaaDoor.PureFnExactFieldsText
