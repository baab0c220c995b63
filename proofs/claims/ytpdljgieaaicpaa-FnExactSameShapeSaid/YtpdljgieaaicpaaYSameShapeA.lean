/- What the helpers of the law FnExactSameShape come to: budgets, copies, comparisons; no condition. -/
import Derived.Test.YtpdljgieaaicpaaYSameShapeO
import Derived.Test.YtpdljgieaaicpaaYLsW4
namespace Go.Proofs.Ytpdljgieaaicpaa.PureFnExactSameShape
open Go.RowKit Go.Proofs.YtpdljgieaaicpaaG Go.Proofs.Ytpdljgieaaicpaa.PFnExactLiveSize Go.Proofs.YtpdljgieaaicpaaW.PrintWords Go.Proofs.YtpdljgieaaicpaaW.PrintLast Go.Proofs.YtpdljgieaaicpaaW.PrintMore
set_option linter.unusedVariables false
set_option linter.unusedSimpArgs false
instance:FineC S57:=⟨fun x=>Fine x.f0∧Fine x.f1∧Fine x.f2∧Fine x.f3⟩
instance:FineC S62:=⟨fun x=>Fine x.f0∧Fine x.f1∧Fine x.f2∧Fine x.f3⟩
instance:FineC S64:=⟨fun x=>Fine x.f0∧Fine x.f1∧Fine x.f2∧Fine x.f3∧Fine x.f4∧Fine x.f5∧Fine x.f6⟩
instance:FineC S86:=⟨fun x=>Fine x.f0∧Fine x.f1∧Fine x.f2∧Fine x.f3∧Fine x.f4∧Fine x.f5∧Fine x.f6⟩
instance:FineC S24:=⟨fun x=>Fine x.f0∧Fine x.f1⟩
instance:FineC S32:=⟨fun x=>Fine x.f0∧Fine x.f1⟩
theorem laws_szValue_sz (a0_0:Int) (a0_1:Int) (a0_2:ByteArray) (a0_3:Int) (a1:Int) (w_a0_0:(WInt .i64) a0_0) (w_a0_1:(WInt .i64) a0_1) (w_a0_2:WStr a0_2) (w_a0_3:(WInt .i64) a0_3) (h0:0≤a1) (h1:a1≤1048576):Sz (fun k=>laws_szValue.f a0_0 a0_1 a0_2 a0_3 a1) a1 (Fine a0_0∧Fine a0_1∧Fine a0_2∧Fine a0_3):=by
  simp only[laws_szValue.f]
  have u_a0_2:a0_2.size≤9223372036854775807:=w_a0_2
  refine sz_if h0 (by omega) (by omega) (by omega) (by omega) fun b1 d1 e1=>?_
  exact⟨_,ev_some _,by omega,fun _=>(And.intro w_a0_0.i64 (And.intro w_a0_1.i64 (And.intro (show a0_2.size≤1048576 by omega) w_a0_3.i64)))⟩
theorem laws_szValueS_sz (l0:List (S57)) (a1:Int) (w_l0:(WList wf57) l0) (h0:0≤a1) (h1:a1≤1048576):Sz (fun k=>laws_szValueS.f k l0 a1) a1 (Fine l0):=by
  simp only[laws_szValueS.f]
  have u_l0:l0.length≤9223372036854775807:=w_l0.1
  refine sz_if h0 (by omega) (by omega) (by omega) (by omega) fun b1 d1 e1=>?_
  obtain⟨v,hv,hle,hq⟩:=sz_loop laws_szValueS.l0 (fun k x n=>laws_szValue.f (x.f0) (x.f1) (x.f2) (x.f3) n) rd_T57 (fun x=>Fine x) (fun k xs n i=>by simp only[laws_szValueS.l0]) (fun xs i h=>getD_get _ xs i h) l0 w_l0.1 (wrap64 (a1-(l0.length:Int))) (by omega) (fun x hx m hm hm1=>by
    have w:=w_l0.2 x hx
    exact sz_mono (laws_szValue_sz x.f0 x.f1 x.f2 x.f3 m (show(WInt .i64) x.f0∧(WInt .i64) x.f1∧WStr x.f2∧(WInt .i64) x.f3 from w).1 (show(WInt .i64) x.f0∧(WInt .i64) x.f1∧WStr x.f2∧(WInt .i64) x.f3 from w).2.1 (show(WInt .i64) x.f0∧(WInt .i64) x.f1∧WStr x.f2∧(WInt .i64) x.f3 from w).2.2.1 (show(WInt .i64) x.f0∧(WInt .i64) x.f1∧WStr x.f2∧(WInt .i64) x.f3 from w).2.2.2 hm (by omega)) (fun⟨g0,g1,g2,g3⟩=>(And.intro g0 (And.intro g1 (And.intro g2 g3)))))
  exact⟨v,hv,by omega,fun h=>Fine.list (by omega) (hq h)⟩
theorem laws_szObject_sz (a0_0:Int) (a0_1:Int) (a0_2:ByteArray) (a0_3:Int) (l0_4:List (S57)) (l0_5:List (S57)) (a0_6:Int) (a0_7:Int) (a0_8:ByteArray) (a0_9:Int) (a1:Int) (w_a0_0:(WInt .i64) a0_0) (w_a0_1:(WInt .i64) a0_1) (w_a0_2:WStr a0_2) (w_a0_3:(WInt .i64) a0_3) (w_l0_4:(WList wf57) l0_4) (w_l0_5:(WList wf57) l0_5) (w_a0_6:(WInt .i64) a0_6) (w_a0_7:(WInt .i64) a0_7) (w_a0_8:WStr a0_8) (w_a0_9:(WInt .i64) a0_9) (h0:0≤a1) (h1:a1≤1048576):Sz (fun k=>laws_szObject.f k a0_0 a0_1 a0_2 a0_3 l0_4 l0_5 a0_6 a0_7 a0_8 a0_9 a1) a1 (Fine a0_0∧Fine a0_1∧Fine a0_2∧Fine a0_3∧Fine l0_4∧Fine l0_5∧Fine a0_6∧Fine a0_7∧Fine a0_8∧Fine a0_9):=by
  simp only[laws_szObject.f]
  have u_a0_2:a0_2.size≤9223372036854775807:=w_a0_2
  have u_l0_4:l0_4.length≤9223372036854775807:=w_l0_4.1
  have u_l0_5:l0_5.length≤9223372036854775807:=w_l0_5.1
  have u_a0_8:a0_8.size≤9223372036854775807:=w_a0_8
  refine sz_if h0 (by omega) (by omega) (by omega) (by omega) fun b1 d1 e1=>?_
  refine sz_bind h0 (laws_szValueS_sz l0_4 (wrap64 (a1-(a0_2.size:Int))) w_l0_4 (by omega) (by omega)) (fun t105 b2 d2 q2=>?_)
  have g2_0:=q2
  refine sz_bind h0 (laws_szValueS_sz l0_5 t105 w_l0_5 (by omega) (by omega)) (fun t106 b3 d3 q3=>?_)
  have g3_0:=q3
  refine sz_bind h0 (laws_szValue_sz a0_6 a0_7 a0_8 a0_9 t106 w_a0_6 w_a0_7 w_a0_8 w_a0_9 (by omega) (by omega)) (fun t107 b4 d4 q4=>?_)
  obtain⟨g4_0,g4_1,g4_2,g4_3⟩:=q4
  exact⟨_,ev_some _,by omega,fun _=>(And.intro w_a0_0.i64 (And.intro w_a0_1.i64 (And.intro (show a0_2.size≤1048576 by omega) (And.intro w_a0_3.i64 (And.intro g2_0 (And.intro g3_0 (And.intro g4_0 (And.intro g4_1 (And.intro g4_2 g4_3)))))))))⟩
theorem laws_szObjectS_sz (l0:List (S86)) (a1:Int) (w_l0:(WList wf86) l0) (h0:0≤a1) (h1:a1≤1048576):Sz (fun k=>laws_szObjectS.f k l0 a1) a1 (Fine l0):=by
  simp only[laws_szObjectS.f]
  have u_l0:l0.length≤9223372036854775807:=w_l0.1
  refine sz_if h0 (by omega) (by omega) (by omega) (by omega) fun b1 d1 e1=>?_
  obtain⟨v,hv,hle,hq⟩:=sz_loop laws_szObjectS.l0 (fun k x n=>laws_szObject.f k (x.f0) (x.f1) (x.f2) (x.f3) (x.f4) (x.f5) (x.f6.f0) (x.f6.f1) (x.f6.f2) (x.f6.f3) n) rd_T86 (fun x=>Fine x) (fun k xs n i=>by simp only[laws_szObjectS.l0]) (fun xs i h=>getD_get _ xs i h) l0 w_l0.1 (wrap64 (a1-(l0.length:Int))) (by omega) (fun x hx m hm hm1=>by
    have w:=w_l0.2 x hx
    exact sz_mono (laws_szObject_sz x.f0 x.f1 x.f2 x.f3 x.f4 x.f5 x.f6.f0 x.f6.f1 x.f6.f2 x.f6.f3 m (show(WInt .i64) x.f0∧(WInt .i64) x.f1∧WStr x.f2∧(WInt .i64) x.f3∧(WList wf57) x.f4∧(WList wf57) x.f5∧wf57 x.f6 from w).1 (show(WInt .i64) x.f0∧(WInt .i64) x.f1∧WStr x.f2∧(WInt .i64) x.f3∧(WList wf57) x.f4∧(WList wf57) x.f5∧wf57 x.f6 from w).2.1 (show(WInt .i64) x.f0∧(WInt .i64) x.f1∧WStr x.f2∧(WInt .i64) x.f3∧(WList wf57) x.f4∧(WList wf57) x.f5∧wf57 x.f6 from w).2.2.1 (show(WInt .i64) x.f0∧(WInt .i64) x.f1∧WStr x.f2∧(WInt .i64) x.f3∧(WList wf57) x.f4∧(WList wf57) x.f5∧wf57 x.f6 from w).2.2.2.1 (show(WInt .i64) x.f0∧(WInt .i64) x.f1∧WStr x.f2∧(WInt .i64) x.f3∧(WList wf57) x.f4∧(WList wf57) x.f5∧wf57 x.f6 from w).2.2.2.2.1 (show(WInt .i64) x.f0∧(WInt .i64) x.f1∧WStr x.f2∧(WInt .i64) x.f3∧(WList wf57) x.f4∧(WList wf57) x.f5∧wf57 x.f6 from w).2.2.2.2.2.1 (show(WInt .i64) x.f6.f0∧(WInt .i64) x.f6.f1∧WStr x.f6.f2∧(WInt .i64) x.f6.f3 from(show(WInt .i64) x.f0∧(WInt .i64) x.f1∧WStr x.f2∧(WInt .i64) x.f3∧(WList wf57) x.f4∧(WList wf57) x.f5∧wf57 x.f6 from w).2.2.2.2.2.2).1 (show(WInt .i64) x.f6.f0∧(WInt .i64) x.f6.f1∧WStr x.f6.f2∧(WInt .i64) x.f6.f3 from(show(WInt .i64) x.f0∧(WInt .i64) x.f1∧WStr x.f2∧(WInt .i64) x.f3∧(WList wf57) x.f4∧(WList wf57) x.f5∧wf57 x.f6 from w).2.2.2.2.2.2).2.1 (show(WInt .i64) x.f6.f0∧(WInt .i64) x.f6.f1∧WStr x.f6.f2∧(WInt .i64) x.f6.f3 from(show(WInt .i64) x.f0∧(WInt .i64) x.f1∧WStr x.f2∧(WInt .i64) x.f3∧(WList wf57) x.f4∧(WList wf57) x.f5∧wf57 x.f6 from w).2.2.2.2.2.2).2.2.1 (show(WInt .i64) x.f6.f0∧(WInt .i64) x.f6.f1∧WStr x.f6.f2∧(WInt .i64) x.f6.f3 from(show(WInt .i64) x.f0∧(WInt .i64) x.f1∧WStr x.f2∧(WInt .i64) x.f3∧(WList wf57) x.f4∧(WList wf57) x.f5∧wf57 x.f6 from w).2.2.2.2.2.2).2.2.2 hm (by omega)) (fun⟨g0,g1,g2,g3,g4,g5,g6,g7,g8,g9⟩=>(And.intro g0 (And.intro g1 (And.intro g2 (And.intro g3 (And.intro g4 (And.intro g5 (And.intro g6 (And.intro g7 (And.intro g8 g9)))))))))))
  exact⟨v,hv,by omega,fun h=>Fine.list (by omega) (hq h)⟩
theorem laws_szHeap_sz (a0_0:Int) (l0_1:List (S86)) (a1:Int) (w_a0_0:(WInt .i64) a0_0) (w_l0_1:(WList wf86) l0_1) (h0:0≤a1) (h1:a1≤1048576):Sz (fun k=>laws_szHeap.f k a0_0 l0_1 a1) a1 (Fine a0_0∧Fine l0_1):=by
  simp only[laws_szHeap.f]
  have u_l0_1:l0_1.length≤9223372036854775807:=w_l0_1.1
  refine sz_bind h0 (laws_szObjectS_sz l0_1 a1 w_l0_1 (by omega) (by omega)) (fun t111 b1 d1 q1=>?_)
  have g1_0:=q1
  exact⟨_,ev_some _,by omega,fun _=>(And.intro w_a0_0.i64 g1_0)⟩
theorem laws_toValue_to (a0_0:Int) (a0_1:Int) (a0_2:ByteArray) (a0_3:Int) (g_a0_0:Fine a0_0) (g_a0_1:Fine a0_1) (g_a0_2:Fine a0_2) (g_a0_3:Fine a0_3):To (fun k=>laws_toValue.f a0_0 a0_1 a0_2 a0_3):=by
  simp only[laws_toValue.f]
  exact to_some (And.intro g_a0_0 (And.intro g_a0_1 (And.intro g_a0_2 g_a0_3)))
theorem laws_toValueS_to (l0:List (S57)) (g_l0:Fine l0):To (fun k=>laws_toValueS.f k l0):=by
  simp only[laws_toValueS.f]
  refine to_if (by omega) (to_if (by have:=g_l0.len;omega) ?_)
  exact to_loop laws_toValueS.l0 (fun k x=>(laws_toValue.f (x.f0) (x.f1) (x.f2) (x.f3)).bind fun bt119=>some (⟨bt119.1,bt119.2.1,bt119.2.2.1,bt119.2.2.2⟩:S62)) rd_T57 (fun k xs ys i=>by simp only[laws_toValueS.l0,Option.bind_assoc,Option.bind_some]) (fun xs i h=>getD_get _ xs i h) l0 g_l0.len _ (fun x hx=>by
    have g:=g_l0.mem hx
    exact to_bind (laws_toValue_to (x.f0) (x.f1) (x.f2) (x.f3) (show Fine x.f0∧Fine x.f1∧Fine x.f2∧Fine x.f3 from g).1 (show Fine x.f0∧Fine x.f1∧Fine x.f2∧Fine x.f3 from g).2.1 (show Fine x.f0∧Fine x.f1∧Fine x.f2∧Fine x.f3 from g).2.2.1 (show Fine x.f0∧Fine x.f1∧Fine x.f2∧Fine x.f3 from g).2.2.2) (fun bt119 g_bt119=>to_some (And.intro g_bt119.fst (And.intro g_bt119.snd.fst (And.intro g_bt119.snd.snd.fst g_bt119.snd.snd.snd)))))
theorem laws_toObject_to (a0_0:Int) (a0_1:Int) (a0_2:ByteArray) (a0_3:Int) (l0_4:List (S57)) (l0_5:List (S57)) (a0_6:Int) (a0_7:Int) (a0_8:ByteArray) (a0_9:Int) (g_a0_0:Fine a0_0) (g_a0_1:Fine a0_1) (g_a0_2:Fine a0_2) (g_a0_3:Fine a0_3) (g_l0_4:Fine l0_4) (g_l0_5:Fine l0_5) (g_a0_6:Fine a0_6) (g_a0_7:Fine a0_7) (g_a0_8:Fine a0_8) (g_a0_9:Fine a0_9):To (fun k=>laws_toObject.f k a0_0 a0_1 a0_2 a0_3 l0_4 l0_5 a0_6 a0_7 a0_8 a0_9):=by
  simp only[laws_toObject.f]
  refine to_bind (laws_toValueS_to l0_4 g_l0_4) (fun t127 g_t127=>?_)
  refine to_bind (laws_toValueS_to l0_5 g_l0_5) (fun t130 g_t130=>?_)
  refine to_bind (laws_toValue_to a0_6 a0_7 a0_8 a0_9 g_a0_6 g_a0_7 g_a0_8 g_a0_9) (fun bt133 g_bt133=>?_)
  exact to_some (And.intro g_a0_0 (And.intro g_a0_1 (And.intro g_a0_2 (And.intro g_a0_3 (And.intro g_t127 (And.intro g_t130 (And.intro g_bt133.fst (And.intro g_bt133.snd.fst (And.intro g_bt133.snd.snd.fst g_bt133.snd.snd.snd)))))))))
theorem laws_toObjectS_to (l0:List (S86)) (g_l0:Fine l0):To (fun k=>laws_toObjectS.f k l0):=by
  simp only[laws_toObjectS.f]
  refine to_if (by omega) (to_if (by have:=g_l0.len;omega) ?_)
  exact to_loop laws_toObjectS.l0 (fun k x=>(laws_toObject.f k (x.f0) (x.f1) (x.f2) (x.f3) (x.f4) (x.f5) (x.f6.f0) (x.f6.f1) (x.f6.f2) (x.f6.f3)).bind fun bt141=>some (⟨bt141.1,bt141.2.1,bt141.2.2.1,bt141.2.2.2.1,bt141.2.2.2.2.1,bt141.2.2.2.2.2.1,(⟨bt141.2.2.2.2.2.2.1,bt141.2.2.2.2.2.2.2.1,bt141.2.2.2.2.2.2.2.2.1,bt141.2.2.2.2.2.2.2.2.2⟩:S62)⟩:S64)) rd_T86 (fun k xs ys i=>by simp only[laws_toObjectS.l0,Option.bind_assoc,Option.bind_some]) (fun xs i h=>getD_get _ xs i h) l0 g_l0.len _ (fun x hx=>by
    have g:=g_l0.mem hx
    exact to_bind (laws_toObject_to (x.f0) (x.f1) (x.f2) (x.f3) (x.f4) (x.f5) (x.f6.f0) (x.f6.f1) (x.f6.f2) (x.f6.f3) (show Fine x.f0∧Fine x.f1∧Fine x.f2∧Fine x.f3∧Fine x.f4∧Fine x.f5∧Fine x.f6 from g).1 (show Fine x.f0∧Fine x.f1∧Fine x.f2∧Fine x.f3∧Fine x.f4∧Fine x.f5∧Fine x.f6 from g).2.1 (show Fine x.f0∧Fine x.f1∧Fine x.f2∧Fine x.f3∧Fine x.f4∧Fine x.f5∧Fine x.f6 from g).2.2.1 (show Fine x.f0∧Fine x.f1∧Fine x.f2∧Fine x.f3∧Fine x.f4∧Fine x.f5∧Fine x.f6 from g).2.2.2.1 (show Fine x.f0∧Fine x.f1∧Fine x.f2∧Fine x.f3∧Fine x.f4∧Fine x.f5∧Fine x.f6 from g).2.2.2.2.1 (show Fine x.f0∧Fine x.f1∧Fine x.f2∧Fine x.f3∧Fine x.f4∧Fine x.f5∧Fine x.f6 from g).2.2.2.2.2.1 (show Fine x.f6.f0∧Fine x.f6.f1∧Fine x.f6.f2∧Fine x.f6.f3 from(show Fine x.f0∧Fine x.f1∧Fine x.f2∧Fine x.f3∧Fine x.f4∧Fine x.f5∧Fine x.f6 from g).2.2.2.2.2.2).1 (show Fine x.f6.f0∧Fine x.f6.f1∧Fine x.f6.f2∧Fine x.f6.f3 from(show Fine x.f0∧Fine x.f1∧Fine x.f2∧Fine x.f3∧Fine x.f4∧Fine x.f5∧Fine x.f6 from g).2.2.2.2.2.2).2.1 (show Fine x.f6.f0∧Fine x.f6.f1∧Fine x.f6.f2∧Fine x.f6.f3 from(show Fine x.f0∧Fine x.f1∧Fine x.f2∧Fine x.f3∧Fine x.f4∧Fine x.f5∧Fine x.f6 from g).2.2.2.2.2.2).2.2.1 (show Fine x.f6.f0∧Fine x.f6.f1∧Fine x.f6.f2∧Fine x.f6.f3 from(show Fine x.f0∧Fine x.f1∧Fine x.f2∧Fine x.f3∧Fine x.f4∧Fine x.f5∧Fine x.f6 from g).2.2.2.2.2.2).2.2.2) (fun bt141 g_bt141=>to_some (And.intro g_bt141.fst (And.intro g_bt141.snd.fst (And.intro g_bt141.snd.snd.fst (And.intro g_bt141.snd.snd.snd.fst (And.intro g_bt141.snd.snd.snd.snd.fst (And.intro g_bt141.snd.snd.snd.snd.snd.fst (And.intro g_bt141.snd.snd.snd.snd.snd.snd.fst (And.intro g_bt141.snd.snd.snd.snd.snd.snd.snd.fst (And.intro g_bt141.snd.snd.snd.snd.snd.snd.snd.snd.fst g_bt141.snd.snd.snd.snd.snd.snd.snd.snd.snd)))))))))))
theorem laws_toHeap_to (a0_0:Int) (l0_1:List (S86)) (g_a0_0:Fine a0_0) (g_l0_1:Fine l0_1):To (fun k=>laws_toHeap.f k a0_0 l0_1):=by
  simp only[laws_toHeap.f]
  refine to_bind (laws_toObjectS_to l0_1 g_l0_1) (fun t159 g_t159=>?_)
  exact to_some (And.intro g_a0_0 g_t159)
theorem laws_eqValue_rf (a0_0:Int) (a0_1:Int) (a0_2:ByteArray) (a0_3:Int) (g_a0_0:Fine a0_0) (g_a0_1:Fine a0_1) (g_a0_2:Fine a0_2) (g_a0_3:Fine a0_3):Ev (fun k=>laws_eqValue.f a0_0 a0_1 a0_2 a0_3 a0_0 a0_1 a0_2 a0_3) true:=by
  simp only[laws_eqValue.f]
  refine ev_pos (by trivial) ?_
  refine ev_pos (by trivial) ?_
  refine ev_pos (by trivial) ?_
  refine ev_pos (by trivial) ?_
  exact ev_some _
theorem laws_eqValueS_rf (l0:List (S62)) (g_l0:Fine l0):Ev (fun k=>laws_eqValueS.f k l0 l0) true:=by
  simp only[laws_eqValueS.f]
  refine ev_pos (by trivial) ?_
  exact eq_loop laws_eqValueS.l0 (fun k x y=>laws_eqValue.f (x.f0) (x.f1) (x.f2) (x.f3) (y.f0) (y.f1) (y.f2) (y.f3)) rd_T62 (fun k xs ys i=>by simp only[laws_eqValueS.l0]) (fun xs i h=>getD_get _ xs i h) l0 g_l0.len (fun x hx=>by
    have g:=g_l0.mem hx
    exact laws_eqValue_rf x.f0 x.f1 x.f2 x.f3 (show Fine x.f0∧Fine x.f1∧Fine x.f2∧Fine x.f3 from g).1 (show Fine x.f0∧Fine x.f1∧Fine x.f2∧Fine x.f3 from g).2.1 (show Fine x.f0∧Fine x.f1∧Fine x.f2∧Fine x.f3 from g).2.2.1 (show Fine x.f0∧Fine x.f1∧Fine x.f2∧Fine x.f3 from g).2.2.2)
theorem laws_eqObject_rf (a0_0:Int) (a0_1:Int) (a0_2:ByteArray) (a0_3:Int) (l0_4:List (S62)) (l0_5:List (S62)) (a0_6:Int) (a0_7:Int) (a0_8:ByteArray) (a0_9:Int) (g_a0_0:Fine a0_0) (g_a0_1:Fine a0_1) (g_a0_2:Fine a0_2) (g_a0_3:Fine a0_3) (g_l0_4:Fine l0_4) (g_l0_5:Fine l0_5) (g_a0_6:Fine a0_6) (g_a0_7:Fine a0_7) (g_a0_8:Fine a0_8) (g_a0_9:Fine a0_9):Ev (fun k=>laws_eqObject.f k a0_0 a0_1 a0_2 a0_3 l0_4 l0_5 a0_6 a0_7 a0_8 a0_9 a0_0 a0_1 a0_2 a0_3 l0_4 l0_5 a0_6 a0_7 a0_8 a0_9) true:=by
  simp only[laws_eqObject.f]
  refine ev_pos (by trivial) ?_
  refine ev_pos (by trivial) ?_
  refine ev_pos (by trivial) ?_
  refine ev_pos (by trivial) ?_
  refine ev_bind (laws_eqValueS_rf l0_4 g_l0_4) ?_
  refine ev_pos (by trivial) ?_
  refine ev_bind (laws_eqValueS_rf l0_5 g_l0_5) ?_
  refine ev_pos (by trivial) ?_
  refine ev_bind (laws_eqValue_rf a0_6 a0_7 a0_8 a0_9 g_a0_6 g_a0_7 g_a0_8 g_a0_9) ?_
  refine ev_pos (by trivial) ?_
  exact ev_some _
theorem laws_eqObjectS_rf (l0:List (S64)) (g_l0:Fine l0):Ev (fun k=>laws_eqObjectS.f k l0 l0) true:=by
  simp only[laws_eqObjectS.f]
  refine ev_pos (by trivial) ?_
  exact eq_loop laws_eqObjectS.l0 (fun k x y=>laws_eqObject.f k (x.f0) (x.f1) (x.f2) (x.f3) (x.f4) (x.f5) (x.f6.f0) (x.f6.f1) (x.f6.f2) (x.f6.f3) (y.f0) (y.f1) (y.f2) (y.f3) (y.f4) (y.f5) (y.f6.f0) (y.f6.f1) (y.f6.f2) (y.f6.f3)) rd_T64 (fun k xs ys i=>by simp only[laws_eqObjectS.l0]) (fun xs i h=>getD_get _ xs i h) l0 g_l0.len (fun x hx=>by
    have g:=g_l0.mem hx
    exact laws_eqObject_rf x.f0 x.f1 x.f2 x.f3 x.f4 x.f5 x.f6.f0 x.f6.f1 x.f6.f2 x.f6.f3 (show Fine x.f0∧Fine x.f1∧Fine x.f2∧Fine x.f3∧Fine x.f4∧Fine x.f5∧Fine x.f6 from g).1 (show Fine x.f0∧Fine x.f1∧Fine x.f2∧Fine x.f3∧Fine x.f4∧Fine x.f5∧Fine x.f6 from g).2.1 (show Fine x.f0∧Fine x.f1∧Fine x.f2∧Fine x.f3∧Fine x.f4∧Fine x.f5∧Fine x.f6 from g).2.2.1 (show Fine x.f0∧Fine x.f1∧Fine x.f2∧Fine x.f3∧Fine x.f4∧Fine x.f5∧Fine x.f6 from g).2.2.2.1 (show Fine x.f0∧Fine x.f1∧Fine x.f2∧Fine x.f3∧Fine x.f4∧Fine x.f5∧Fine x.f6 from g).2.2.2.2.1 (show Fine x.f0∧Fine x.f1∧Fine x.f2∧Fine x.f3∧Fine x.f4∧Fine x.f5∧Fine x.f6 from g).2.2.2.2.2.1 (show Fine x.f6.f0∧Fine x.f6.f1∧Fine x.f6.f2∧Fine x.f6.f3 from(show Fine x.f0∧Fine x.f1∧Fine x.f2∧Fine x.f3∧Fine x.f4∧Fine x.f5∧Fine x.f6 from g).2.2.2.2.2.2).1 (show Fine x.f6.f0∧Fine x.f6.f1∧Fine x.f6.f2∧Fine x.f6.f3 from(show Fine x.f0∧Fine x.f1∧Fine x.f2∧Fine x.f3∧Fine x.f4∧Fine x.f5∧Fine x.f6 from g).2.2.2.2.2.2).2.1 (show Fine x.f6.f0∧Fine x.f6.f1∧Fine x.f6.f2∧Fine x.f6.f3 from(show Fine x.f0∧Fine x.f1∧Fine x.f2∧Fine x.f3∧Fine x.f4∧Fine x.f5∧Fine x.f6 from g).2.2.2.2.2.2).2.2.1 (show Fine x.f6.f0∧Fine x.f6.f1∧Fine x.f6.f2∧Fine x.f6.f3 from(show Fine x.f0∧Fine x.f1∧Fine x.f2∧Fine x.f3∧Fine x.f4∧Fine x.f5∧Fine x.f6 from g).2.2.2.2.2.2).2.2.2)
theorem laws_eqHeap_rf (a0_0:Int) (l0_1:List (S64)) (g_a0_0:Fine a0_0) (g_l0_1:Fine l0_1):Ev (fun k=>laws_eqHeap.f k a0_0 l0_1 a0_0 l0_1) true:=by
  simp only[laws_eqHeap.f]
  refine ev_pos (by trivial) ?_
  refine ev_bind (laws_eqObjectS_rf l0_1 g_l0_1) ?_
  refine ev_pos (by trivial) ?_
  exact ev_some _
def laws_FnExactSameShape.Core:Prop:=∀(a0_0:Int) (l0_1:List (S64)) (l1:List (S62)) (a2_0:Int) (l2_1:List (S64)) (l3:List (S62)),Fine a0_0→Fine l0_1→Fine l1→Fine a2_0→Fine l2_1→Fine l3→∃r,Ev (fun k=>spec_SameShape.f k a0_0 l0_1 l1 a2_0 l2_1 l3) r∧Ev (fun k=>impl_SameShape.f k a0_0 l0_1 l1 a2_0 l2_1 l3) r∧Fine r
theorem close (core:laws_FnExactSameShape.Core):laws_FnExactSameShape.Pure:=by
  intro x0 x1 x2 x3 w_x0 w_x1 w_x2 w_x3
  suffices hh:Ev (fun k=>laws_FnExactSameShape.f k x0.f0 x0.f1 x1 x2.f0 x2.f1 x3) true by
    obtain⟨K,hK⟩:=hh
    exact⟨K,hK K (Nat.le_refl _)⟩
  simp only[laws_FnExactSameShape.f]
  obtain⟨v1,e1,b1,q1⟩:=laws_szHeap_sz x0.f0 x0.f1 1048576 ((show(WInt .i64) x0.f0∧(WList wf86) x0.f1 from w_x0).1) ((show(WInt .i64) x0.f0∧(WList wf86) x0.f1 from w_x0).2) (by omega) (by omega)
  refine ev_bind e1 (ev_skip fun c1=>?_)
  obtain⟨g1_0,g1_1⟩:=q1 (by omega)
  obtain⟨v2,e2,b2,q2⟩:=laws_szValueS_sz x1 v1 (w_x1) (by omega) (by omega)
  refine ev_bind e2 (ev_skip fun c2=>?_)
  obtain g2_0:=q2 (by omega)
  obtain⟨v3,e3,b3,q3⟩:=laws_szHeap_sz x2.f0 x2.f1 v2 ((show(WInt .i64) x2.f0∧(WList wf86) x2.f1 from w_x2).1) ((show(WInt .i64) x2.f0∧(WList wf86) x2.f1 from w_x2).2) (by omega) (by omega)
  refine ev_bind e3 (ev_skip fun c3=>?_)
  obtain⟨g3_0,g3_1⟩:=q3 (by omega)
  obtain⟨v4,e4,b4,q4⟩:=laws_szValueS_sz x3 v3 (w_x3) (by omega) (by omega)
  refine ev_bind e4 (ev_skip fun c4=>?_)
  obtain g4_0:=q4 (by omega)
  obtain⟨v5,e5,g5⟩:=laws_toHeap_to x0.f0 x0.f1 g1_0 g1_1
  refine ev_bind e5 ?_
  obtain⟨v6,e6,g6⟩:=laws_toValueS_to x1 g2_0
  refine ev_bind e6 ?_
  obtain⟨v7,e7,g7⟩:=laws_toHeap_to x2.f0 x2.f1 g3_0 g3_1
  refine ev_bind e7 ?_
  obtain⟨v8,e8,g8⟩:=laws_toValueS_to x3 g4_0
  refine ev_bind e8 ?_
  obtain⟨r,es,ei,gr⟩:=core v5.1 v5.2 v6 v7.1 v7.2 v8 (g5.fst) (g5.snd) g6 (g7.fst) (g7.snd) g8
  refine ev_bind es ?_
  refine ev_bind e5 ?_
  refine ev_bind e6 ?_
  refine ev_bind e7 ?_
  refine ev_bind e8 ?_
  refine ev_bind ei ?_
  have p0_:Fine v5.1:=g5.fst
  have p1_:Fine v5.2:=g5.snd
  have p2_:Fine v6:=g6
  have p3_:Fine v7.1:=g7.fst
  have p4_:Fine v7.2:=g7.snd
  have p5_:Fine v8:=g8
  have p6_:Fine r:=gr
  repeat(first|exact ev_some _|refine ev_pos trivial ?_|refine ev_pos rfl ?_|refine ev_neg (bne_ff _) ?_|refine ev_neg Bool.false_ne_true ?_|refine ev_neg id ?_|refine ev_bind e5 ?_|refine ev_bind e6 ?_|refine ev_bind e7 ?_|refine ev_bind e8 ?_|refine ev_bind (laws_eqValue_rf _ _ _ _ (by assumption) (by assumption) (by assumption) (by assumption)) ?_|refine ev_bind (laws_eqValueS_rf _ (by assumption)) ?_|refine ev_bind (laws_eqObject_rf _ _ _ _ _ _ _ _ _ _ (by assumption) (by assumption) (by assumption) (by assumption) (by assumption) (by assumption) (by assumption) (by assumption) (by assumption) (by assumption)) ?_|refine ev_bind (laws_eqObjectS_rf _ (by assumption)) ?_|refine ev_bind (laws_eqHeap_rf _ _ (by assumption) (by assumption)) ?_)
end Go.Proofs.Ytpdljgieaaicpaa.PureFnExactSameShape
