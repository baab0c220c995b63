/- What the helpers of the law FnExactSameMemory come to: budgets, copies, comparisons; no condition. -/
import Derived.Test.YtnneadpahjkhgaaYSameMemoryO
import Derived.Test.YtnneadpahjkhgaaYSmW4
namespace Go.Proofs.Ytnneadpahjkhgaa.PureFnExactSameMemory
open Go.RowKit Go.Proofs.YtnneadpahjkhgaaG Go.Proofs.Ytnneadpahjkhgaa.PFnExactSameMemory Go.Proofs.YtnneadpahjkhgaaW.PrintWords Go.Proofs.YtnneadpahjkhgaaW.PrintLast Go.Proofs.YtnneadpahjkhgaaW.PrintMore
set_option linter.unusedVariables false
set_option linter.unusedSimpArgs false
instance:FineC S87:=⟨fun x=>Fine x.f0∧Fine x.f1∧Fine x.f2∧Fine x.f3⟩
instance:FineC S107:=⟨fun x=>Fine x.f0∧Fine x.f1∧Fine x.f2∧Fine x.f3⟩
instance:FineC S109:=⟨fun x=>Fine x.f0∧Fine x.f1⟩
instance:FineC S114:=⟨fun x=>Fine x.f0∧Fine x.f1∧Fine x.f2∧Fine x.f3⟩
instance:FineC S116:=⟨fun x=>Fine x.f0∧Fine x.f1⟩
instance:FineC S127:=⟨fun x=>Fine x.f0∧Fine x.f1∧Fine x.f2∧Fine x.f3⟩
instance:FineC S132:=⟨fun x=>Fine x.f0∧Fine x.f1∧Fine x.f2∧Fine x.f3⟩
instance:FineC S134:=⟨fun x=>Fine x.f0∧Fine x.f1⟩
instance:FineC S136:=⟨fun x=>Fine x.f0∧Fine x.f1∧Fine x.f2∧Fine x.f3⟩
instance:FineC S138:=⟨fun x=>Fine x.f0∧Fine x.f1⟩
instance:FineC S154:=⟨fun x=>Fine x.f0∧Fine x.f1∧Fine x.f2∧Fine x.f3∧Fine x.f4∧Fine x.f5∧Fine x.f6⟩
instance:FineC S166:=⟨fun x=>Fine x.f0∧Fine x.f1∧Fine x.f2∧Fine x.f3∧Fine x.f4∧Fine x.f5∧Fine x.f6⟩
instance:FineC S36:=⟨fun x=>Fine x.f0∧Fine x.f1∧Fine x.f2∧Fine x.f3∧Fine x.f4⟩
instance:FineC S50:=⟨fun x=>Fine x.f0∧Fine x.f1∧Fine x.f2⟩
instance:FineC S62:=⟨fun x=>Fine x.f0∧Fine x.f1⟩
instance:FineC S64:=⟨fun x=>Fine x.f0∧Fine x.f1∧Fine x.f2⟩
instance:FineC S69:=⟨fun x=>Fine x.f0∧Fine x.f1⟩
theorem laws_szValue_sz (a0_0:Int) (a0_1:Int) (a0_2:ByteArray) (a0_3:Int) (a1:Int) (w_a0_0:(WInt .i64) a0_0) (w_a0_1:(WInt .i64) a0_1) (w_a0_2:WStr a0_2) (w_a0_3:(WInt .i64) a0_3) (h0:0≤a1) (h1:a1≤1048576):Sz (fun k=>laws_szValue.f a0_0 a0_1 a0_2 a0_3 a1) a1 (Fine a0_0∧Fine a0_1∧Fine a0_2∧Fine a0_3):=by
  simp only[laws_szValue.f]
  have u_a0_2:a0_2.size≤9223372036854775807:=w_a0_2
  refine sz_if h0 (by omega) (by omega) (by omega) (by omega) fun b1 d1 e1=>?_
  exact⟨_,ev_some _,by omega,fun _=>(And.intro w_a0_0.i64 (And.intro w_a0_1.i64 (And.intro (show a0_2.size≤1048576 by omega) w_a0_3.i64)))⟩
theorem laws_szValueS_sz (l0:List (S132)) (a1:Int) (w_l0:(WList wf132) l0) (h0:0≤a1) (h1:a1≤1048576):Sz (fun k=>laws_szValueS.f k l0 a1) a1 (Fine l0):=by
  simp only[laws_szValueS.f]
  have u_l0:l0.length≤9223372036854775807:=w_l0.1
  refine sz_if h0 (by omega) (by omega) (by omega) (by omega) fun b1 d1 e1=>?_
  obtain⟨v,hv,hle,hq⟩:=sz_loop laws_szValueS.l0 (fun k x n=>laws_szValue.f (x.f0) (x.f1) (x.f2) (x.f3) n) rd_T132 (fun x=>Fine x) (fun k xs n i=>by simp only[laws_szValueS.l0]) (fun xs i h=>getD_get _ xs i h) l0 w_l0.1 (wrap64 (a1-(l0.length:Int))) (by omega) (fun x hx m hm hm1=>by
    have w:=w_l0.2 x hx
    exact sz_mono (laws_szValue_sz x.f0 x.f1 x.f2 x.f3 m (show(WInt .i64) x.f0∧(WInt .i64) x.f1∧WStr x.f2∧(WInt .i64) x.f3 from w).1 (show(WInt .i64) x.f0∧(WInt .i64) x.f1∧WStr x.f2∧(WInt .i64) x.f3 from w).2.1 (show(WInt .i64) x.f0∧(WInt .i64) x.f1∧WStr x.f2∧(WInt .i64) x.f3 from w).2.2.1 (show(WInt .i64) x.f0∧(WInt .i64) x.f1∧WStr x.f2∧(WInt .i64) x.f3 from w).2.2.2 hm (by omega)) (fun⟨g0,g1,g2,g3⟩=>(And.intro g0 (And.intro g1 (And.intro g2 g3)))))
  exact⟨v,hv,by omega,fun h=>Fine.list (by omega) (hq h)⟩
theorem laws_szObject_sz (a0_0:Int) (a0_1:Int) (a0_2:ByteArray) (a0_3:Int) (l0_4:List (S132)) (l0_5:List (S132)) (a0_6:Int) (a0_7:Int) (a0_8:ByteArray) (a0_9:Int) (a1:Int) (w_a0_0:(WInt .i64) a0_0) (w_a0_1:(WInt .i64) a0_1) (w_a0_2:WStr a0_2) (w_a0_3:(WInt .i64) a0_3) (w_l0_4:(WList wf132) l0_4) (w_l0_5:(WList wf132) l0_5) (w_a0_6:(WInt .i64) a0_6) (w_a0_7:(WInt .i64) a0_7) (w_a0_8:WStr a0_8) (w_a0_9:(WInt .i64) a0_9) (h0:0≤a1) (h1:a1≤1048576):Sz (fun k=>laws_szObject.f k a0_0 a0_1 a0_2 a0_3 l0_4 l0_5 a0_6 a0_7 a0_8 a0_9 a1) a1 (Fine a0_0∧Fine a0_1∧Fine a0_2∧Fine a0_3∧Fine l0_4∧Fine l0_5∧Fine a0_6∧Fine a0_7∧Fine a0_8∧Fine a0_9):=by
  simp only[laws_szObject.f]
  have u_a0_2:a0_2.size≤9223372036854775807:=w_a0_2
  have u_l0_4:l0_4.length≤9223372036854775807:=w_l0_4.1
  have u_l0_5:l0_5.length≤9223372036854775807:=w_l0_5.1
  have u_a0_8:a0_8.size≤9223372036854775807:=w_a0_8
  refine sz_if h0 (by omega) (by omega) (by omega) (by omega) fun b1 d1 e1=>?_
  refine sz_bind h0 (laws_szValueS_sz l0_4 (wrap64 (a1-(a0_2.size:Int))) w_l0_4 (by omega) (by omega)) (fun t105 b2 d2 q2=>?_)
  have g2_0:=q2
  refine sz_bind h0 (laws_szValueS_sz l0_5 t105 w_l0_5 (by omega) (by omega)) (fun t106 b3 d3 q3=>?_)
  have g3_0:=q3
  refine sz_bind h0 (laws_szValue_sz a0_6 a0_7 a0_8 a0_9 t106 w_a0_6 w_a0_7 w_a0_8 w_a0_9 (by omega) (by omega)) (fun t107 b4 d4 q4=>?_)
  obtain⟨g4_0,g4_1,g4_2,g4_3⟩:=q4
  exact⟨_,ev_some _,by omega,fun _=>(And.intro w_a0_0.i64 (And.intro w_a0_1.i64 (And.intro (show a0_2.size≤1048576 by omega) (And.intro w_a0_3.i64 (And.intro g2_0 (And.intro g3_0 (And.intro g4_0 (And.intro g4_1 (And.intro g4_2 g4_3)))))))))⟩
theorem laws_szObjectS_sz (l0:List (S166)) (a1:Int) (w_l0:(WList wf166) l0) (h0:0≤a1) (h1:a1≤1048576):Sz (fun k=>laws_szObjectS.f k l0 a1) a1 (Fine l0):=by
  simp only[laws_szObjectS.f]
  have u_l0:l0.length≤9223372036854775807:=w_l0.1
  refine sz_if h0 (by omega) (by omega) (by omega) (by omega) fun b1 d1 e1=>?_
  obtain⟨v,hv,hle,hq⟩:=sz_loop laws_szObjectS.l0 (fun k x n=>laws_szObject.f k (x.f0) (x.f1) (x.f2) (x.f3) (x.f4) (x.f5) (x.f6.f0) (x.f6.f1) (x.f6.f2) (x.f6.f3) n) rd_T166 (fun x=>Fine x) (fun k xs n i=>by simp only[laws_szObjectS.l0]) (fun xs i h=>getD_get _ xs i h) l0 w_l0.1 (wrap64 (a1-(l0.length:Int))) (by omega) (fun x hx m hm hm1=>by
    have w:=w_l0.2 x hx
    exact sz_mono (laws_szObject_sz x.f0 x.f1 x.f2 x.f3 x.f4 x.f5 x.f6.f0 x.f6.f1 x.f6.f2 x.f6.f3 m (show(WInt .i64) x.f0∧(WInt .i64) x.f1∧WStr x.f2∧(WInt .i64) x.f3∧(WList wf132) x.f4∧(WList wf132) x.f5∧wf132 x.f6 from w).1 (show(WInt .i64) x.f0∧(WInt .i64) x.f1∧WStr x.f2∧(WInt .i64) x.f3∧(WList wf132) x.f4∧(WList wf132) x.f5∧wf132 x.f6 from w).2.1 (show(WInt .i64) x.f0∧(WInt .i64) x.f1∧WStr x.f2∧(WInt .i64) x.f3∧(WList wf132) x.f4∧(WList wf132) x.f5∧wf132 x.f6 from w).2.2.1 (show(WInt .i64) x.f0∧(WInt .i64) x.f1∧WStr x.f2∧(WInt .i64) x.f3∧(WList wf132) x.f4∧(WList wf132) x.f5∧wf132 x.f6 from w).2.2.2.1 (show(WInt .i64) x.f0∧(WInt .i64) x.f1∧WStr x.f2∧(WInt .i64) x.f3∧(WList wf132) x.f4∧(WList wf132) x.f5∧wf132 x.f6 from w).2.2.2.2.1 (show(WInt .i64) x.f0∧(WInt .i64) x.f1∧WStr x.f2∧(WInt .i64) x.f3∧(WList wf132) x.f4∧(WList wf132) x.f5∧wf132 x.f6 from w).2.2.2.2.2.1 (show(WInt .i64) x.f6.f0∧(WInt .i64) x.f6.f1∧WStr x.f6.f2∧(WInt .i64) x.f6.f3 from(show(WInt .i64) x.f0∧(WInt .i64) x.f1∧WStr x.f2∧(WInt .i64) x.f3∧(WList wf132) x.f4∧(WList wf132) x.f5∧wf132 x.f6 from w).2.2.2.2.2.2).1 (show(WInt .i64) x.f6.f0∧(WInt .i64) x.f6.f1∧WStr x.f6.f2∧(WInt .i64) x.f6.f3 from(show(WInt .i64) x.f0∧(WInt .i64) x.f1∧WStr x.f2∧(WInt .i64) x.f3∧(WList wf132) x.f4∧(WList wf132) x.f5∧wf132 x.f6 from w).2.2.2.2.2.2).2.1 (show(WInt .i64) x.f6.f0∧(WInt .i64) x.f6.f1∧WStr x.f6.f2∧(WInt .i64) x.f6.f3 from(show(WInt .i64) x.f0∧(WInt .i64) x.f1∧WStr x.f2∧(WInt .i64) x.f3∧(WList wf132) x.f4∧(WList wf132) x.f5∧wf132 x.f6 from w).2.2.2.2.2.2).2.2.1 (show(WInt .i64) x.f6.f0∧(WInt .i64) x.f6.f1∧WStr x.f6.f2∧(WInt .i64) x.f6.f3 from(show(WInt .i64) x.f0∧(WInt .i64) x.f1∧WStr x.f2∧(WInt .i64) x.f3∧(WList wf132) x.f4∧(WList wf132) x.f5∧wf132 x.f6 from w).2.2.2.2.2.2).2.2.2 hm (by omega)) (fun⟨g0,g1,g2,g3,g4,g5,g6,g7,g8,g9⟩=>(And.intro g0 (And.intro g1 (And.intro g2 (And.intro g3 (And.intro g4 (And.intro g5 (And.intro g6 (And.intro g7 (And.intro g8 g9)))))))))))
  exact⟨v,hv,by omega,fun h=>Fine.list (by omega) (hq h)⟩
theorem laws_szHeap_sz (a0_0:Int) (l0_1:List (S166)) (a1:Int) (w_a0_0:(WInt .i64) a0_0) (w_l0_1:(WList wf166) l0_1) (h0:0≤a1) (h1:a1≤1048576):Sz (fun k=>laws_szHeap.f k a0_0 l0_1 a1) a1 (Fine a0_0∧Fine l0_1):=by
  simp only[laws_szHeap.f]
  have u_l0_1:l0_1.length≤9223372036854775807:=w_l0_1.1
  refine sz_bind h0 (laws_szObjectS_sz l0_1 a1 w_l0_1 (by omega) (by omega)) (fun t111 b1 d1 q1=>?_)
  have g1_0:=q1
  exact⟨_,ev_some _,by omega,fun _=>(And.intro w_a0_0.i64 g1_0)⟩
theorem laws_szBinding_sz (a0_0:ByteArray) (a0_1:Int) (a0_2:Int) (a0_3:ByteArray) (a0_4:Int) (a1:Int) (w_a0_0:WStr a0_0) (w_a0_1:(WInt .i64) a0_1) (w_a0_2:(WInt .i64) a0_2) (w_a0_3:WStr a0_3) (w_a0_4:(WInt .i64) a0_4) (h0:0≤a1) (h1:a1≤1048576):Sz (fun k=>laws_szBinding.f a0_0 a0_1 a0_2 a0_3 a0_4 a1) a1 (Fine a0_0∧Fine a0_1∧Fine a0_2∧Fine a0_3∧Fine a0_4):=by
  simp only[laws_szBinding.f]
  have u_a0_0:a0_0.size≤9223372036854775807:=w_a0_0
  have u_a0_3:a0_3.size≤9223372036854775807:=w_a0_3
  refine sz_if h0 (by omega) (by omega) (by omega) (by omega) fun b1 d1 e1=>?_
  refine sz_bind h0 (laws_szValue_sz a0_1 a0_2 a0_3 a0_4 (wrap64 (a1-(a0_0.size:Int))) w_a0_1 w_a0_2 w_a0_3 w_a0_4 (by omega) (by omega)) (fun t113 b2 d2 q2=>?_)
  obtain⟨g2_0,g2_1,g2_2,g2_3⟩:=q2
  exact⟨_,ev_some _,by omega,fun _=>(And.intro (show a0_0.size≤1048576 by omega) (And.intro g2_0 (And.intro g2_1 (And.intro g2_2 g2_3))))⟩
theorem laws_szBindingS_sz (l0:List (S134)) (a1:Int) (w_l0:(WList wf134) l0) (h0:0≤a1) (h1:a1≤1048576):Sz (fun k=>laws_szBindingS.f k l0 a1) a1 (Fine l0):=by
  simp only[laws_szBindingS.f]
  have u_l0:l0.length≤9223372036854775807:=w_l0.1
  refine sz_if h0 (by omega) (by omega) (by omega) (by omega) fun b1 d1 e1=>?_
  obtain⟨v,hv,hle,hq⟩:=sz_loop laws_szBindingS.l0 (fun k x n=>laws_szBinding.f (x.f0) (x.f1.f0) (x.f1.f1) (x.f1.f2) (x.f1.f3) n) rd_T134 (fun x=>Fine x) (fun k xs n i=>by simp only[laws_szBindingS.l0]) (fun xs i h=>getD_get _ xs i h) l0 w_l0.1 (wrap64 (a1-(l0.length:Int))) (by omega) (fun x hx m hm hm1=>by
    have w:=w_l0.2 x hx
    exact sz_mono (laws_szBinding_sz x.f0 x.f1.f0 x.f1.f1 x.f1.f2 x.f1.f3 m (show WStr x.f0∧wf132 x.f1 from w).1 (show(WInt .i64) x.f1.f0∧(WInt .i64) x.f1.f1∧WStr x.f1.f2∧(WInt .i64) x.f1.f3 from(show WStr x.f0∧wf132 x.f1 from w).2).1 (show(WInt .i64) x.f1.f0∧(WInt .i64) x.f1.f1∧WStr x.f1.f2∧(WInt .i64) x.f1.f3 from(show WStr x.f0∧wf132 x.f1 from w).2).2.1 (show(WInt .i64) x.f1.f0∧(WInt .i64) x.f1.f1∧WStr x.f1.f2∧(WInt .i64) x.f1.f3 from(show WStr x.f0∧wf132 x.f1 from w).2).2.2.1 (show(WInt .i64) x.f1.f0∧(WInt .i64) x.f1.f1∧WStr x.f1.f2∧(WInt .i64) x.f1.f3 from(show WStr x.f0∧wf132 x.f1 from w).2).2.2.2 hm (by omega)) (fun⟨g0,g1,g2,g3,g4⟩=>(And.intro g0 (And.intro g1 (And.intro g2 (And.intro g3 g4))))))
  exact⟨v,hv,by omega,fun h=>Fine.list (by omega) (hq h)⟩
theorem laws_szStringS_sz (l0:List ByteArray) (a1:Int) (w_l0:(WList WStr) l0) (h0:0≤a1) (h1:a1≤1048576):Sz (fun k=>laws_szStringS.f k l0 a1) a1 (Fine l0):=by
  simp only[laws_szStringS.f]
  have u_l0:l0.length≤9223372036854775807:=w_l0.1
  refine sz_if h0 (by omega) (by omega) (by omega) (by omega) fun b1 d1 e1=>?_
  obtain⟨v,hv,hle,hq⟩:=sz_loop laws_szStringS.l0 (fun k x n=>if wrap64 (n-(x.size:Int))<0 then some (-1)else some (wrap64 (n-(x.size:Int)))) (rdOf ByteArray.empty) (fun x=>Fine x) (fun k xs n i=>by simp only[laws_szStringS.l0,sz_fold]) (fun xs i h=>rdOf_get _ xs i h) l0 w_l0.1 (wrap64 (a1-(l0.length:Int))) (by omega) (fun x hx m hm hm1=>sz_if hm hm (by omega) (by omega) (by have z_:=w_l0.2 x hx;unfold WStr at z_;omega) (fun b_ d_ e_=>⟨_,ev_some _,by omega,fun _=>(show x.size≤1048576 by omega)⟩))
  exact⟨v,hv,by omega,fun h=>Fine.list (by omega) (hq h)⟩
theorem laws_szFunction_sz (a0_0:ByteArray) (l0_1:List ByteArray) (l0_2:List ByteArray) (a0_3:ByteArray) (a1:Int) (w_a0_0:WStr a0_0) (w_l0_1:(WList WStr) l0_1) (w_l0_2:(WList WStr) l0_2) (w_a0_3:WStr a0_3) (h0:0≤a1) (h1:a1≤1048576):Sz (fun k=>laws_szFunction.f k a0_0 l0_1 l0_2 a0_3 a1) a1 (Fine a0_0∧Fine l0_1∧Fine l0_2∧Fine a0_3):=by
  simp only[laws_szFunction.f]
  have u_a0_0:a0_0.size≤9223372036854775807:=w_a0_0
  have u_l0_1:l0_1.length≤9223372036854775807:=w_l0_1.1
  have u_l0_2:l0_2.length≤9223372036854775807:=w_l0_2.1
  have u_a0_3:a0_3.size≤9223372036854775807:=w_a0_3
  refine sz_if h0 (by omega) (by omega) (by omega) (by omega) fun b1 d1 e1=>?_
  refine sz_bind h0 (laws_szStringS_sz l0_1 (wrap64 (a1-(a0_0.size:Int))) w_l0_1 (by omega) (by omega)) (fun t118 b2 d2 q2=>?_)
  have g2_0:=q2
  refine sz_bind h0 (laws_szStringS_sz l0_2 t118 w_l0_2 (by omega) (by omega)) (fun t119 b3 d3 q3=>?_)
  have g3_0:=q3
  refine sz_if h0 (by omega) (by omega) (by omega) (by omega) fun b4 d4 e4=>?_
  exact⟨_,ev_some _,by omega,fun _=>(And.intro (show a0_0.size≤1048576 by omega) (And.intro g2_0 (And.intro g3_0 (show a0_3.size≤1048576 by omega))))⟩
theorem laws_szFunctionS_sz (l0:List (S136)) (a1:Int) (w_l0:(WList wf136) l0) (h0:0≤a1) (h1:a1≤1048576):Sz (fun k=>laws_szFunctionS.f k l0 a1) a1 (Fine l0):=by
  simp only[laws_szFunctionS.f]
  have u_l0:l0.length≤9223372036854775807:=w_l0.1
  refine sz_if h0 (by omega) (by omega) (by omega) (by omega) fun b1 d1 e1=>?_
  obtain⟨v,hv,hle,hq⟩:=sz_loop laws_szFunctionS.l0 (fun k x n=>laws_szFunction.f k (x.f0) (x.f1) (x.f2) (x.f3) n) rd_T136 (fun x=>Fine x) (fun k xs n i=>by simp only[laws_szFunctionS.l0]) (fun xs i h=>getD_get _ xs i h) l0 w_l0.1 (wrap64 (a1-(l0.length:Int))) (by omega) (fun x hx m hm hm1=>by
    have w:=w_l0.2 x hx
    exact sz_mono (laws_szFunction_sz x.f0 x.f1 x.f2 x.f3 m (show WStr x.f0∧(WList WStr) x.f1∧(WList WStr) x.f2∧WStr x.f3 from w).1 (show WStr x.f0∧(WList WStr) x.f1∧(WList WStr) x.f2∧WStr x.f3 from w).2.1 (show WStr x.f0∧(WList WStr) x.f1∧(WList WStr) x.f2∧WStr x.f3 from w).2.2.1 (show WStr x.f0∧(WList WStr) x.f1∧(WList WStr) x.f2∧WStr x.f3 from w).2.2.2 hm (by omega)) (fun⟨g0,g1,g2,g3⟩=>(And.intro g0 (And.intro g1 (And.intro g2 g3)))))
  exact⟨v,hv,by omega,fun h=>Fine.list (by omega) (hq h)⟩
theorem laws_szRecordType_sz (a0_0:ByteArray) (l0_1:List ByteArray) (a1:Int) (w_a0_0:WStr a0_0) (w_l0_1:(WList WStr) l0_1) (h0:0≤a1) (h1:a1≤1048576):Sz (fun k=>laws_szRecordType.f k a0_0 l0_1 a1) a1 (Fine a0_0∧Fine l0_1):=by
  simp only[laws_szRecordType.f]
  have u_a0_0:a0_0.size≤9223372036854775807:=w_a0_0
  have u_l0_1:l0_1.length≤9223372036854775807:=w_l0_1.1
  refine sz_if h0 (by omega) (by omega) (by omega) (by omega) fun b1 d1 e1=>?_
  refine sz_bind h0 (laws_szStringS_sz l0_1 (wrap64 (a1-(a0_0.size:Int))) w_l0_1 (by omega) (by omega)) (fun t123 b2 d2 q2=>?_)
  have g2_0:=q2
  exact⟨_,ev_some _,by omega,fun _=>(And.intro (show a0_0.size≤1048576 by omega) g2_0)⟩
theorem laws_szRecordTypeS_sz (l0:List (S138)) (a1:Int) (w_l0:(WList wf138) l0) (h0:0≤a1) (h1:a1≤1048576):Sz (fun k=>laws_szRecordTypeS.f k l0 a1) a1 (Fine l0):=by
  simp only[laws_szRecordTypeS.f]
  have u_l0:l0.length≤9223372036854775807:=w_l0.1
  refine sz_if h0 (by omega) (by omega) (by omega) (by omega) fun b1 d1 e1=>?_
  obtain⟨v,hv,hle,hq⟩:=sz_loop laws_szRecordTypeS.l0 (fun k x n=>laws_szRecordType.f k (x.f0) (x.f1) n) rd_T138 (fun x=>Fine x) (fun k xs n i=>by simp only[laws_szRecordTypeS.l0]) (fun xs i h=>getD_get _ xs i h) l0 w_l0.1 (wrap64 (a1-(l0.length:Int))) (by omega) (fun x hx m hm hm1=>by
    have w:=w_l0.2 x hx
    exact sz_mono (laws_szRecordType_sz x.f0 x.f1 m (show WStr x.f0∧(WList WStr) x.f1 from w).1 (show WStr x.f0∧(WList WStr) x.f1 from w).2 hm (by omega)) (fun⟨g0,g1⟩=>(And.intro g0 g1)))
  exact⟨v,hv,by omega,fun h=>Fine.list (by omega) (hq h)⟩
theorem laws_szScope_sz (l0_0:List (S134)) (l0_1:List (S136)) (l0_2:List (S138)) (a1:Int) (w_l0_0:(WList wf134) l0_0) (w_l0_1:(WList wf136) l0_1) (w_l0_2:(WList wf138) l0_2) (h0:0≤a1) (h1:a1≤1048576):Sz (fun k=>laws_szScope.f k l0_0 l0_1 l0_2 a1) a1 (Fine l0_0∧Fine l0_1∧Fine l0_2):=by
  simp only[laws_szScope.f]
  have u_l0_0:l0_0.length≤9223372036854775807:=w_l0_0.1
  have u_l0_1:l0_1.length≤9223372036854775807:=w_l0_1.1
  have u_l0_2:l0_2.length≤9223372036854775807:=w_l0_2.1
  refine sz_bind h0 (laws_szBindingS_sz l0_0 a1 w_l0_0 (by omega) (by omega)) (fun t127 b1 d1 q1=>?_)
  have g1_0:=q1
  refine sz_bind h0 (laws_szFunctionS_sz l0_1 t127 w_l0_1 (by omega) (by omega)) (fun t128 b2 d2 q2=>?_)
  have g2_0:=q2
  refine sz_bind h0 (laws_szRecordTypeS_sz l0_2 t128 w_l0_2 (by omega) (by omega)) (fun t129 b3 d3 q3=>?_)
  have g3_0:=q3
  exact⟨_,ev_some _,by omega,fun _=>(And.intro g1_0 (And.intro g2_0 g3_0))⟩
theorem laws_szFile_sz (a0_0:ByteArray) (l0_1:List ByteArray) (a0_2:Int) (a0_3:Int) (a1:Int) (w_a0_0:WStr a0_0) (w_l0_1:(WList WStr) l0_1) (w_a0_2:(WInt .i64) a0_2) (w_a0_3:(WInt .i64) a0_3) (h0:0≤a1) (h1:a1≤1048576):Sz (fun k=>laws_szFile.f k a0_0 l0_1 a0_2 a0_3 a1) a1 (Fine a0_0∧Fine l0_1∧Fine a0_2∧Fine a0_3):=by
  simp only[laws_szFile.f]
  have u_a0_0:a0_0.size≤9223372036854775807:=w_a0_0
  have u_l0_1:l0_1.length≤9223372036854775807:=w_l0_1.1
  refine sz_if h0 (by omega) (by omega) (by omega) (by omega) fun b1 d1 e1=>?_
  refine sz_bind h0 (laws_szStringS_sz l0_1 (wrap64 (a1-(a0_0.size:Int))) w_l0_1 (by omega) (by omega)) (fun t131 b2 d2 q2=>?_)
  have g2_0:=q2
  exact⟨_,ev_some _,by omega,fun _=>(And.intro (show a0_0.size≤1048576 by omega) (And.intro g2_0 (And.intro w_a0_2.i64 w_a0_3.i64)))⟩
theorem laws_szFileS_sz (l0:List (S127)) (a1:Int) (w_l0:(WList wf127) l0) (h0:0≤a1) (h1:a1≤1048576):Sz (fun k=>laws_szFileS.f k l0 a1) a1 (Fine l0):=by
  simp only[laws_szFileS.f]
  have u_l0:l0.length≤9223372036854775807:=w_l0.1
  refine sz_if h0 (by omega) (by omega) (by omega) (by omega) fun b1 d1 e1=>?_
  obtain⟨v,hv,hle,hq⟩:=sz_loop laws_szFileS.l0 (fun k x n=>laws_szFile.f k (x.f0) (x.f1) (x.f2) (x.f3) n) rd_T127 (fun x=>Fine x) (fun k xs n i=>by simp only[laws_szFileS.l0]) (fun xs i h=>getD_get _ xs i h) l0 w_l0.1 (wrap64 (a1-(l0.length:Int))) (by omega) (fun x hx m hm hm1=>by
    have w:=w_l0.2 x hx
    exact sz_mono (laws_szFile_sz x.f0 x.f1 x.f2 x.f3 m (show WStr x.f0∧(WList WStr) x.f1∧(WInt .i64) x.f2∧(WInt .i64) x.f3 from w).1 (show WStr x.f0∧(WList WStr) x.f1∧(WInt .i64) x.f2∧(WInt .i64) x.f3 from w).2.1 (show WStr x.f0∧(WList WStr) x.f1∧(WInt .i64) x.f2∧(WInt .i64) x.f3 from w).2.2.1 (show WStr x.f0∧(WList WStr) x.f1∧(WInt .i64) x.f2∧(WInt .i64) x.f3 from w).2.2.2 hm (by omega)) (fun⟨g0,g1,g2,g3⟩=>(And.intro g0 (And.intro g1 (And.intro g2 g3)))))
  exact⟨v,hv,by omega,fun h=>Fine.list (by omega) (hq h)⟩
theorem laws_szConsole_sz (l0_0:List ByteArray) (a0_1:Int) (l0_2:List ByteArray) (l0_3:List (S127)) (l0_4:List ByteArray) (a1:Int) (w_l0_0:(WList WStr) l0_0) (w_a0_1:(WInt .i64) a0_1) (w_l0_2:(WList WStr) l0_2) (w_l0_3:(WList wf127) l0_3) (w_l0_4:(WList WStr) l0_4) (h0:0≤a1) (h1:a1≤1048576):Sz (fun k=>laws_szConsole.f k l0_0 a0_1 l0_2 l0_3 l0_4 a1) a1 (Fine l0_0∧Fine a0_1∧Fine l0_2∧Fine l0_3∧Fine l0_4):=by
  simp only[laws_szConsole.f]
  have u_l0_0:l0_0.length≤9223372036854775807:=w_l0_0.1
  have u_l0_2:l0_2.length≤9223372036854775807:=w_l0_2.1
  have u_l0_3:l0_3.length≤9223372036854775807:=w_l0_3.1
  have u_l0_4:l0_4.length≤9223372036854775807:=w_l0_4.1
  refine sz_bind h0 (laws_szStringS_sz l0_0 a1 w_l0_0 (by omega) (by omega)) (fun t135 b1 d1 q1=>?_)
  have g1_0:=q1
  refine sz_bind h0 (laws_szStringS_sz l0_2 t135 w_l0_2 (by omega) (by omega)) (fun t136 b2 d2 q2=>?_)
  have g2_0:=q2
  refine sz_bind h0 (laws_szFileS_sz l0_3 t136 w_l0_3 (by omega) (by omega)) (fun t137 b3 d3 q3=>?_)
  have g3_0:=q3
  refine sz_bind h0 (laws_szStringS_sz l0_4 t137 w_l0_4 (by omega) (by omega)) (fun t138 b4 d4 q4=>?_)
  have g4_0:=q4
  exact⟨_,ev_some _,by omega,fun _=>(And.intro g1_0 (And.intro w_a0_1.i64 (And.intro g2_0 (And.intro g3_0 g4_0))))⟩
theorem laws_szMemory_sz (a0_0:Int) (l0_1:List (S166)) (l0_2:List (S134)) (l0_3:List (S136)) (l0_4:List (S138)) (l0_5:List ByteArray) (a0_6:Int) (l0_7:List ByteArray) (l0_8:List (S127)) (l0_9:List ByteArray) (a1:Int) (w_a0_0:(WInt .i64) a0_0) (w_l0_1:(WList wf166) l0_1) (w_l0_2:(WList wf134) l0_2) (w_l0_3:(WList wf136) l0_3) (w_l0_4:(WList wf138) l0_4) (w_l0_5:(WList WStr) l0_5) (w_a0_6:(WInt .i64) a0_6) (w_l0_7:(WList WStr) l0_7) (w_l0_8:(WList wf127) l0_8) (w_l0_9:(WList WStr) l0_9) (h0:0≤a1) (h1:a1≤1048576):Sz (fun k=>laws_szMemory.f k a0_0 l0_1 l0_2 l0_3 l0_4 l0_5 a0_6 l0_7 l0_8 l0_9 a1) a1 (Fine a0_0∧Fine l0_1∧Fine l0_2∧Fine l0_3∧Fine l0_4∧Fine l0_5∧Fine a0_6∧Fine l0_7∧Fine l0_8∧Fine l0_9):=by
  simp only[laws_szMemory.f]
  have u_l0_1:l0_1.length≤9223372036854775807:=w_l0_1.1
  have u_l0_2:l0_2.length≤9223372036854775807:=w_l0_2.1
  have u_l0_3:l0_3.length≤9223372036854775807:=w_l0_3.1
  have u_l0_4:l0_4.length≤9223372036854775807:=w_l0_4.1
  have u_l0_5:l0_5.length≤9223372036854775807:=w_l0_5.1
  have u_l0_7:l0_7.length≤9223372036854775807:=w_l0_7.1
  have u_l0_8:l0_8.length≤9223372036854775807:=w_l0_8.1
  have u_l0_9:l0_9.length≤9223372036854775807:=w_l0_9.1
  refine sz_bind h0 (laws_szHeap_sz a0_0 l0_1 a1 w_a0_0 w_l0_1 (by omega) (by omega)) (fun t140 b1 d1 q1=>?_)
  obtain⟨g1_0,g1_1⟩:=q1
  refine sz_bind h0 (laws_szScope_sz l0_2 l0_3 l0_4 t140 w_l0_2 w_l0_3 w_l0_4 (by omega) (by omega)) (fun t141 b2 d2 q2=>?_)
  obtain⟨g2_0,g2_1,g2_2⟩:=q2
  refine sz_bind h0 (laws_szConsole_sz l0_5 a0_6 l0_7 l0_8 l0_9 t141 w_l0_5 w_a0_6 w_l0_7 w_l0_8 w_l0_9 (by omega) (by omega)) (fun t142 b3 d3 q3=>?_)
  obtain⟨g3_0,g3_1,g3_2,g3_3,g3_4⟩:=q3
  exact⟨_,ev_some _,by omega,fun _=>(And.intro g1_0 (And.intro g1_1 (And.intro g2_0 (And.intro g2_1 (And.intro g2_2 (And.intro g3_0 (And.intro g3_1 (And.intro g3_2 (And.intro g3_3 g3_4)))))))))⟩
theorem laws_toValue_to (a0_0:Int) (a0_1:Int) (a0_2:ByteArray) (a0_3:Int) (g_a0_0:Fine a0_0) (g_a0_1:Fine a0_1) (g_a0_2:Fine a0_2) (g_a0_3:Fine a0_3):To (fun k=>laws_toValue.f a0_0 a0_1 a0_2 a0_3):=by
  simp only[laws_toValue.f]
  exact to_some (And.intro g_a0_0 (And.intro g_a0_1 (And.intro g_a0_2 g_a0_3)))
theorem laws_toValueS_to (l0:List (S132)) (g_l0:Fine l0):To (fun k=>laws_toValueS.f k l0):=by
  simp only[laws_toValueS.f]
  refine to_if (by omega) (to_if (by have:=g_l0.len;omega) ?_)
  exact to_loop laws_toValueS.l0 (fun k x=>(laws_toValue.f (x.f0) (x.f1) (x.f2) (x.f3)).bind fun bt150=>some (⟨bt150.1,bt150.2.1,bt150.2.2.1,bt150.2.2.2⟩:S114)) rd_T132 (fun k xs ys i=>by simp only[laws_toValueS.l0,Option.bind_assoc,Option.bind_some]) (fun xs i h=>getD_get _ xs i h) l0 g_l0.len _ (fun x hx=>by
    have g:=g_l0.mem hx
    exact to_bind (laws_toValue_to (x.f0) (x.f1) (x.f2) (x.f3) (show Fine x.f0∧Fine x.f1∧Fine x.f2∧Fine x.f3 from g).1 (show Fine x.f0∧Fine x.f1∧Fine x.f2∧Fine x.f3 from g).2.1 (show Fine x.f0∧Fine x.f1∧Fine x.f2∧Fine x.f3 from g).2.2.1 (show Fine x.f0∧Fine x.f1∧Fine x.f2∧Fine x.f3 from g).2.2.2) (fun bt150 g_bt150=>to_some (And.intro g_bt150.fst (And.intro g_bt150.snd.fst (And.intro g_bt150.snd.snd.fst g_bt150.snd.snd.snd)))))
theorem laws_toObject_to (a0_0:Int) (a0_1:Int) (a0_2:ByteArray) (a0_3:Int) (l0_4:List (S132)) (l0_5:List (S132)) (a0_6:Int) (a0_7:Int) (a0_8:ByteArray) (a0_9:Int) (g_a0_0:Fine a0_0) (g_a0_1:Fine a0_1) (g_a0_2:Fine a0_2) (g_a0_3:Fine a0_3) (g_l0_4:Fine l0_4) (g_l0_5:Fine l0_5) (g_a0_6:Fine a0_6) (g_a0_7:Fine a0_7) (g_a0_8:Fine a0_8) (g_a0_9:Fine a0_9):To (fun k=>laws_toObject.f k a0_0 a0_1 a0_2 a0_3 l0_4 l0_5 a0_6 a0_7 a0_8 a0_9):=by
  simp only[laws_toObject.f]
  refine to_bind (laws_toValueS_to l0_4 g_l0_4) (fun t158 g_t158=>?_)
  refine to_bind (laws_toValueS_to l0_5 g_l0_5) (fun t161 g_t161=>?_)
  refine to_bind (laws_toValue_to a0_6 a0_7 a0_8 a0_9 g_a0_6 g_a0_7 g_a0_8 g_a0_9) (fun bt164 g_bt164=>?_)
  exact to_some (And.intro g_a0_0 (And.intro g_a0_1 (And.intro g_a0_2 (And.intro g_a0_3 (And.intro g_t158 (And.intro g_t161 (And.intro g_bt164.fst (And.intro g_bt164.snd.fst (And.intro g_bt164.snd.snd.fst g_bt164.snd.snd.snd)))))))))
theorem laws_toObjectS_to (l0:List (S166)) (g_l0:Fine l0):To (fun k=>laws_toObjectS.f k l0):=by
  simp only[laws_toObjectS.f]
  refine to_if (by omega) (to_if (by have:=g_l0.len;omega) ?_)
  exact to_loop laws_toObjectS.l0 (fun k x=>(laws_toObject.f k (x.f0) (x.f1) (x.f2) (x.f3) (x.f4) (x.f5) (x.f6.f0) (x.f6.f1) (x.f6.f2) (x.f6.f3)).bind fun bt172=>some (⟨bt172.1,bt172.2.1,bt172.2.2.1,bt172.2.2.2.1,bt172.2.2.2.2.1,bt172.2.2.2.2.2.1,(⟨bt172.2.2.2.2.2.2.1,bt172.2.2.2.2.2.2.2.1,bt172.2.2.2.2.2.2.2.2.1,bt172.2.2.2.2.2.2.2.2.2⟩:S114)⟩:S154)) rd_T166 (fun k xs ys i=>by simp only[laws_toObjectS.l0,Option.bind_assoc,Option.bind_some]) (fun xs i h=>getD_get _ xs i h) l0 g_l0.len _ (fun x hx=>by
    have g:=g_l0.mem hx
    exact to_bind (laws_toObject_to (x.f0) (x.f1) (x.f2) (x.f3) (x.f4) (x.f5) (x.f6.f0) (x.f6.f1) (x.f6.f2) (x.f6.f3) (show Fine x.f0∧Fine x.f1∧Fine x.f2∧Fine x.f3∧Fine x.f4∧Fine x.f5∧Fine x.f6 from g).1 (show Fine x.f0∧Fine x.f1∧Fine x.f2∧Fine x.f3∧Fine x.f4∧Fine x.f5∧Fine x.f6 from g).2.1 (show Fine x.f0∧Fine x.f1∧Fine x.f2∧Fine x.f3∧Fine x.f4∧Fine x.f5∧Fine x.f6 from g).2.2.1 (show Fine x.f0∧Fine x.f1∧Fine x.f2∧Fine x.f3∧Fine x.f4∧Fine x.f5∧Fine x.f6 from g).2.2.2.1 (show Fine x.f0∧Fine x.f1∧Fine x.f2∧Fine x.f3∧Fine x.f4∧Fine x.f5∧Fine x.f6 from g).2.2.2.2.1 (show Fine x.f0∧Fine x.f1∧Fine x.f2∧Fine x.f3∧Fine x.f4∧Fine x.f5∧Fine x.f6 from g).2.2.2.2.2.1 (show Fine x.f6.f0∧Fine x.f6.f1∧Fine x.f6.f2∧Fine x.f6.f3 from(show Fine x.f0∧Fine x.f1∧Fine x.f2∧Fine x.f3∧Fine x.f4∧Fine x.f5∧Fine x.f6 from g).2.2.2.2.2.2).1 (show Fine x.f6.f0∧Fine x.f6.f1∧Fine x.f6.f2∧Fine x.f6.f3 from(show Fine x.f0∧Fine x.f1∧Fine x.f2∧Fine x.f3∧Fine x.f4∧Fine x.f5∧Fine x.f6 from g).2.2.2.2.2.2).2.1 (show Fine x.f6.f0∧Fine x.f6.f1∧Fine x.f6.f2∧Fine x.f6.f3 from(show Fine x.f0∧Fine x.f1∧Fine x.f2∧Fine x.f3∧Fine x.f4∧Fine x.f5∧Fine x.f6 from g).2.2.2.2.2.2).2.2.1 (show Fine x.f6.f0∧Fine x.f6.f1∧Fine x.f6.f2∧Fine x.f6.f3 from(show Fine x.f0∧Fine x.f1∧Fine x.f2∧Fine x.f3∧Fine x.f4∧Fine x.f5∧Fine x.f6 from g).2.2.2.2.2.2).2.2.2) (fun bt172 g_bt172=>to_some (And.intro g_bt172.fst (And.intro g_bt172.snd.fst (And.intro g_bt172.snd.snd.fst (And.intro g_bt172.snd.snd.snd.fst (And.intro g_bt172.snd.snd.snd.snd.fst (And.intro g_bt172.snd.snd.snd.snd.snd.fst (And.intro g_bt172.snd.snd.snd.snd.snd.snd.fst (And.intro g_bt172.snd.snd.snd.snd.snd.snd.snd.fst (And.intro g_bt172.snd.snd.snd.snd.snd.snd.snd.snd.fst g_bt172.snd.snd.snd.snd.snd.snd.snd.snd.snd)))))))))))
theorem laws_toHeap_to (a0_0:Int) (l0_1:List (S166)) (g_a0_0:Fine a0_0) (g_l0_1:Fine l0_1):To (fun k=>laws_toHeap.f k a0_0 l0_1):=by
  simp only[laws_toHeap.f]
  refine to_bind (laws_toObjectS_to l0_1 g_l0_1) (fun t190 g_t190=>?_)
  exact to_some (And.intro g_a0_0 g_t190)
theorem laws_toBinding_to (a0_0:ByteArray) (a0_1:Int) (a0_2:Int) (a0_3:ByteArray) (a0_4:Int) (g_a0_0:Fine a0_0) (g_a0_1:Fine a0_1) (g_a0_2:Fine a0_2) (g_a0_3:Fine a0_3) (g_a0_4:Fine a0_4):To (fun k=>laws_toBinding.f a0_0 a0_1 a0_2 a0_3 a0_4):=by
  simp only[laws_toBinding.f]
  refine to_bind (laws_toValue_to a0_1 a0_2 a0_3 a0_4 g_a0_1 g_a0_2 g_a0_3 g_a0_4) (fun bt196 g_bt196=>?_)
  exact to_some (And.intro g_a0_0 (And.intro g_bt196.fst (And.intro g_bt196.snd.fst (And.intro g_bt196.snd.snd.fst g_bt196.snd.snd.snd))))
theorem laws_toBindingS_to (l0:List (S134)) (g_l0:Fine l0):To (fun k=>laws_toBindingS.f k l0):=by
  simp only[laws_toBindingS.f]
  refine to_if (by omega) (to_if (by have:=g_l0.len;omega) ?_)
  exact to_loop laws_toBindingS.l0 (fun k x=>(laws_toBinding.f (x.f0) (x.f1.f0) (x.f1.f1) (x.f1.f2) (x.f1.f3)).bind fun bt204=>some (⟨bt204.1,(⟨bt204.2.1,bt204.2.2.1,bt204.2.2.2.1,bt204.2.2.2.2⟩:S114)⟩:S116)) rd_T134 (fun k xs ys i=>by simp only[laws_toBindingS.l0,Option.bind_assoc,Option.bind_some]) (fun xs i h=>getD_get _ xs i h) l0 g_l0.len _ (fun x hx=>by
    have g:=g_l0.mem hx
    exact to_bind (laws_toBinding_to (x.f0) (x.f1.f0) (x.f1.f1) (x.f1.f2) (x.f1.f3) (show Fine x.f0∧Fine x.f1 from g).1 (show Fine x.f1.f0∧Fine x.f1.f1∧Fine x.f1.f2∧Fine x.f1.f3 from(show Fine x.f0∧Fine x.f1 from g).2).1 (show Fine x.f1.f0∧Fine x.f1.f1∧Fine x.f1.f2∧Fine x.f1.f3 from(show Fine x.f0∧Fine x.f1 from g).2).2.1 (show Fine x.f1.f0∧Fine x.f1.f1∧Fine x.f1.f2∧Fine x.f1.f3 from(show Fine x.f0∧Fine x.f1 from g).2).2.2.1 (show Fine x.f1.f0∧Fine x.f1.f1∧Fine x.f1.f2∧Fine x.f1.f3 from(show Fine x.f0∧Fine x.f1 from g).2).2.2.2) (fun bt204 g_bt204=>to_some (And.intro g_bt204.fst (And.intro g_bt204.snd.fst (And.intro g_bt204.snd.snd.fst (And.intro g_bt204.snd.snd.snd.fst g_bt204.snd.snd.snd.snd))))))
theorem laws_toStringS_to (l0:List ByteArray) (g_l0:Fine l0):To (fun k=>laws_toStringS.f k l0):=by
  simp only[laws_toStringS.f]
  refine to_if (by omega) (to_if (by have:=g_l0.len;omega) ?_)
  exact to_loop laws_toStringS.l0 (fun k x=>some x) (rdOf ByteArray.empty) (fun k xs ys i=>by simp only[laws_toStringS.l0,Option.bind_some]) (fun xs i h=>rdOf_get _ xs i h) l0 g_l0.len _ (fun x hx=>to_some (g_l0.mem hx))
theorem laws_toFunction_to (a0_0:ByteArray) (l0_1:List ByteArray) (l0_2:List ByteArray) (a0_3:ByteArray) (g_a0_0:Fine a0_0) (g_l0_1:Fine l0_1) (g_l0_2:Fine l0_2) (g_a0_3:Fine a0_3):To (fun k=>laws_toFunction.f k a0_0 l0_1 l0_2 a0_3):=by
  simp only[laws_toFunction.f]
  refine to_bind (laws_toStringS_to l0_1 g_l0_1) (fun t218 g_t218=>?_)
  refine to_bind (laws_toStringS_to l0_2 g_l0_2) (fun t221 g_t221=>?_)
  exact to_some (And.intro g_a0_0 (And.intro g_t218 (And.intro g_t221 g_a0_3)))
theorem laws_toFunctionS_to (l0:List (S136)) (g_l0:Fine l0):To (fun k=>laws_toFunctionS.f k l0):=by
  simp only[laws_toFunctionS.f]
  refine to_if (by omega) (to_if (by have:=g_l0.len;omega) ?_)
  exact to_loop laws_toFunctionS.l0 (fun k x=>(laws_toFunction.f k (x.f0) (x.f1) (x.f2) (x.f3)).bind fun bt228=>some (⟨bt228.1,bt228.2.1,bt228.2.2.1,bt228.2.2.2⟩:S107)) rd_T136 (fun k xs ys i=>by simp only[laws_toFunctionS.l0,Option.bind_assoc,Option.bind_some]) (fun xs i h=>getD_get _ xs i h) l0 g_l0.len _ (fun x hx=>by
    have g:=g_l0.mem hx
    exact to_bind (laws_toFunction_to (x.f0) (x.f1) (x.f2) (x.f3) (show Fine x.f0∧Fine x.f1∧Fine x.f2∧Fine x.f3 from g).1 (show Fine x.f0∧Fine x.f1∧Fine x.f2∧Fine x.f3 from g).2.1 (show Fine x.f0∧Fine x.f1∧Fine x.f2∧Fine x.f3 from g).2.2.1 (show Fine x.f0∧Fine x.f1∧Fine x.f2∧Fine x.f3 from g).2.2.2) (fun bt228 g_bt228=>to_some (And.intro g_bt228.fst (And.intro g_bt228.snd.fst (And.intro g_bt228.snd.snd.fst g_bt228.snd.snd.snd)))))
theorem laws_toRecordType_to (a0_0:ByteArray) (l0_1:List ByteArray) (g_a0_0:Fine a0_0) (g_l0_1:Fine l0_1):To (fun k=>laws_toRecordType.f k a0_0 l0_1):=by
  simp only[laws_toRecordType.f]
  refine to_bind (laws_toStringS_to l0_1 g_l0_1) (fun t240 g_t240=>?_)
  exact to_some (And.intro g_a0_0 g_t240)
theorem laws_toRecordTypeS_to (l0:List (S138)) (g_l0:Fine l0):To (fun k=>laws_toRecordTypeS.f k l0):=by
  simp only[laws_toRecordTypeS.f]
  refine to_if (by omega) (to_if (by have:=g_l0.len;omega) ?_)
  exact to_loop laws_toRecordTypeS.l0 (fun k x=>(laws_toRecordType.f k (x.f0) (x.f1)).bind fun bt247=>some (⟨bt247.1,bt247.2⟩:S109)) rd_T138 (fun k xs ys i=>by simp only[laws_toRecordTypeS.l0,Option.bind_assoc,Option.bind_some]) (fun xs i h=>getD_get _ xs i h) l0 g_l0.len _ (fun x hx=>by
    have g:=g_l0.mem hx
    exact to_bind (laws_toRecordType_to (x.f0) (x.f1) (show Fine x.f0∧Fine x.f1 from g).1 (show Fine x.f0∧Fine x.f1 from g).2) (fun bt247 g_bt247=>to_some (And.intro g_bt247.fst g_bt247.snd)))
theorem laws_toScope_to (l0_0:List (S134)) (l0_1:List (S136)) (l0_2:List (S138)) (g_l0_0:Fine l0_0) (g_l0_1:Fine l0_1) (g_l0_2:Fine l0_2):To (fun k=>laws_toScope.f k l0_0 l0_1 l0_2):=by
  simp only[laws_toScope.f]
  refine to_bind (laws_toBindingS_to l0_0 g_l0_0) (fun t255 g_t255=>?_)
  refine to_bind (laws_toFunctionS_to l0_1 g_l0_1) (fun t258 g_t258=>?_)
  refine to_bind (laws_toRecordTypeS_to l0_2 g_l0_2) (fun t261 g_t261=>?_)
  exact to_some (And.intro g_t255 (And.intro g_t258 g_t261))
theorem laws_toFile_to (a0_0:ByteArray) (l0_1:List ByteArray) (a0_2:Int) (a0_3:Int) (g_a0_0:Fine a0_0) (g_l0_1:Fine l0_1) (g_a0_2:Fine a0_2) (g_a0_3:Fine a0_3):To (fun k=>laws_toFile.f k a0_0 l0_1 a0_2 a0_3):=by
  simp only[laws_toFile.f]
  refine to_bind (laws_toStringS_to l0_1 g_l0_1) (fun t267 g_t267=>?_)
  exact to_some (And.intro g_a0_0 (And.intro g_t267 (And.intro g_a0_2 g_a0_3)))
theorem laws_toFileS_to (l0:List (S127)) (g_l0:Fine l0):To (fun k=>laws_toFileS.f k l0):=by
  simp only[laws_toFileS.f]
  refine to_if (by omega) (to_if (by have:=g_l0.len;omega) ?_)
  exact to_loop laws_toFileS.l0 (fun k x=>(laws_toFile.f k (x.f0) (x.f1) (x.f2) (x.f3)).bind fun bt274=>some (⟨bt274.1,bt274.2.1,bt274.2.2.1,bt274.2.2.2⟩:S87)) rd_T127 (fun k xs ys i=>by simp only[laws_toFileS.l0,Option.bind_assoc,Option.bind_some]) (fun xs i h=>getD_get _ xs i h) l0 g_l0.len _ (fun x hx=>by
    have g:=g_l0.mem hx
    exact to_bind (laws_toFile_to (x.f0) (x.f1) (x.f2) (x.f3) (show Fine x.f0∧Fine x.f1∧Fine x.f2∧Fine x.f3 from g).1 (show Fine x.f0∧Fine x.f1∧Fine x.f2∧Fine x.f3 from g).2.1 (show Fine x.f0∧Fine x.f1∧Fine x.f2∧Fine x.f3 from g).2.2.1 (show Fine x.f0∧Fine x.f1∧Fine x.f2∧Fine x.f3 from g).2.2.2) (fun bt274 g_bt274=>to_some (And.intro g_bt274.fst (And.intro g_bt274.snd.fst (And.intro g_bt274.snd.snd.fst g_bt274.snd.snd.snd)))))
theorem laws_toConsole_to (l0_0:List ByteArray) (a0_1:Int) (l0_2:List ByteArray) (l0_3:List (S127)) (l0_4:List ByteArray) (g_l0_0:Fine l0_0) (g_a0_1:Fine a0_1) (g_l0_2:Fine l0_2) (g_l0_3:Fine l0_3) (g_l0_4:Fine l0_4):To (fun k=>laws_toConsole.f k l0_0 a0_1 l0_2 l0_3 l0_4):=by
  simp only[laws_toConsole.f]
  refine to_bind (laws_toStringS_to l0_0 g_l0_0) (fun t284 g_t284=>?_)
  refine to_bind (laws_toStringS_to l0_2 g_l0_2) (fun t287 g_t287=>?_)
  refine to_bind (laws_toFileS_to l0_3 g_l0_3) (fun t290 g_t290=>?_)
  refine to_bind (laws_toStringS_to l0_4 g_l0_4) (fun t293 g_t293=>?_)
  exact to_some (And.intro g_t284 (And.intro g_a0_1 (And.intro g_t287 (And.intro g_t290 g_t293))))
theorem laws_toMemory_to (a0_0:Int) (l0_1:List (S166)) (l0_2:List (S134)) (l0_3:List (S136)) (l0_4:List (S138)) (l0_5:List ByteArray) (a0_6:Int) (l0_7:List ByteArray) (l0_8:List (S127)) (l0_9:List ByteArray) (g_a0_0:Fine a0_0) (g_l0_1:Fine l0_1) (g_l0_2:Fine l0_2) (g_l0_3:Fine l0_3) (g_l0_4:Fine l0_4) (g_l0_5:Fine l0_5) (g_a0_6:Fine a0_6) (g_l0_7:Fine l0_7) (g_l0_8:Fine l0_8) (g_l0_9:Fine l0_9):To (fun k=>laws_toMemory.f k a0_0 l0_1 l0_2 l0_3 l0_4 l0_5 a0_6 l0_7 l0_8 l0_9):=by
  simp only[laws_toMemory.f]
  refine to_bind (laws_toHeap_to a0_0 l0_1 g_a0_0 g_l0_1) (fun bt299 g_bt299=>?_)
  refine to_bind (laws_toScope_to l0_2 l0_3 l0_4 g_l0_2 g_l0_3 g_l0_4) (fun bt303 g_bt303=>?_)
  refine to_bind (laws_toConsole_to l0_5 a0_6 l0_7 l0_8 l0_9 g_l0_5 g_a0_6 g_l0_7 g_l0_8 g_l0_9) (fun bt312 g_bt312=>?_)
  exact to_some (And.intro g_bt299.fst (And.intro g_bt299.snd (And.intro g_bt303.fst (And.intro g_bt303.snd.fst (And.intro g_bt303.snd.snd (And.intro g_bt312.fst (And.intro g_bt312.snd.fst (And.intro g_bt312.snd.snd.fst (And.intro g_bt312.snd.snd.snd.fst g_bt312.snd.snd.snd.snd)))))))))
theorem laws_eqValue_rf (a0_0:Int) (a0_1:Int) (a0_2:ByteArray) (a0_3:Int) (g_a0_0:Fine a0_0) (g_a0_1:Fine a0_1) (g_a0_2:Fine a0_2) (g_a0_3:Fine a0_3):Ev (fun k=>laws_eqValue.f a0_0 a0_1 a0_2 a0_3 a0_0 a0_1 a0_2 a0_3) true:=by
  simp only[laws_eqValue.f]
  refine ev_pos (by trivial) ?_
  refine ev_pos (by trivial) ?_
  refine ev_pos (by trivial) ?_
  refine ev_pos (by trivial) ?_
  exact ev_some _
theorem laws_eqValueS_rf (l0:List (S114)) (g_l0:Fine l0):Ev (fun k=>laws_eqValueS.f k l0 l0) true:=by
  simp only[laws_eqValueS.f]
  refine ev_pos (by trivial) ?_
  exact eq_loop laws_eqValueS.l0 (fun k x y=>laws_eqValue.f (x.f0) (x.f1) (x.f2) (x.f3) (y.f0) (y.f1) (y.f2) (y.f3)) rd_T114 (fun k xs ys i=>by simp only[laws_eqValueS.l0]) (fun xs i h=>getD_get _ xs i h) l0 g_l0.len (fun x hx=>by
    have g:=g_l0.mem hx
    exact laws_eqValue_rf x.f0 x.f1 x.f2 x.f3 (show Fine x.f0∧Fine x.f1∧Fine x.f2∧Fine x.f3 from g).1 (show Fine x.f0∧Fine x.f1∧Fine x.f2∧Fine x.f3 from g).2.1 (show Fine x.f0∧Fine x.f1∧Fine x.f2∧Fine x.f3 from g).2.2.1 (show Fine x.f0∧Fine x.f1∧Fine x.f2∧Fine x.f3 from g).2.2.2)
theorem laws_eqObject_rf (a0_0:Int) (a0_1:Int) (a0_2:ByteArray) (a0_3:Int) (l0_4:List (S114)) (l0_5:List (S114)) (a0_6:Int) (a0_7:Int) (a0_8:ByteArray) (a0_9:Int) (g_a0_0:Fine a0_0) (g_a0_1:Fine a0_1) (g_a0_2:Fine a0_2) (g_a0_3:Fine a0_3) (g_l0_4:Fine l0_4) (g_l0_5:Fine l0_5) (g_a0_6:Fine a0_6) (g_a0_7:Fine a0_7) (g_a0_8:Fine a0_8) (g_a0_9:Fine a0_9):Ev (fun k=>laws_eqObject.f k a0_0 a0_1 a0_2 a0_3 l0_4 l0_5 a0_6 a0_7 a0_8 a0_9 a0_0 a0_1 a0_2 a0_3 l0_4 l0_5 a0_6 a0_7 a0_8 a0_9) true:=by
  simp only[laws_eqObject.f]
  refine ev_pos (by trivial) ?_
  refine ev_pos (by trivial) ?_
  refine ev_pos (by trivial) ?_
  refine ev_pos (by trivial) ?_
  refine ev_bind (laws_eqValueS_rf l0_4 g_l0_4) ?_
  refine ev_pos (by trivial) ?_
  refine ev_bind (laws_eqValueS_rf l0_5 g_l0_5) ?_
  refine ev_pos (by trivial) ?_
  refine ev_bind (laws_eqValue_rf a0_6 a0_7 a0_8 a0_9 g_a0_6 g_a0_7 g_a0_8 g_a0_9) ?_
  refine ev_pos (by trivial) ?_
  exact ev_some _
theorem laws_eqObjectS_rf (l0:List (S154)) (g_l0:Fine l0):Ev (fun k=>laws_eqObjectS.f k l0 l0) true:=by
  simp only[laws_eqObjectS.f]
  refine ev_pos (by trivial) ?_
  exact eq_loop laws_eqObjectS.l0 (fun k x y=>laws_eqObject.f k (x.f0) (x.f1) (x.f2) (x.f3) (x.f4) (x.f5) (x.f6.f0) (x.f6.f1) (x.f6.f2) (x.f6.f3) (y.f0) (y.f1) (y.f2) (y.f3) (y.f4) (y.f5) (y.f6.f0) (y.f6.f1) (y.f6.f2) (y.f6.f3)) rd_T154 (fun k xs ys i=>by simp only[laws_eqObjectS.l0]) (fun xs i h=>getD_get _ xs i h) l0 g_l0.len (fun x hx=>by
    have g:=g_l0.mem hx
    exact laws_eqObject_rf x.f0 x.f1 x.f2 x.f3 x.f4 x.f5 x.f6.f0 x.f6.f1 x.f6.f2 x.f6.f3 (show Fine x.f0∧Fine x.f1∧Fine x.f2∧Fine x.f3∧Fine x.f4∧Fine x.f5∧Fine x.f6 from g).1 (show Fine x.f0∧Fine x.f1∧Fine x.f2∧Fine x.f3∧Fine x.f4∧Fine x.f5∧Fine x.f6 from g).2.1 (show Fine x.f0∧Fine x.f1∧Fine x.f2∧Fine x.f3∧Fine x.f4∧Fine x.f5∧Fine x.f6 from g).2.2.1 (show Fine x.f0∧Fine x.f1∧Fine x.f2∧Fine x.f3∧Fine x.f4∧Fine x.f5∧Fine x.f6 from g).2.2.2.1 (show Fine x.f0∧Fine x.f1∧Fine x.f2∧Fine x.f3∧Fine x.f4∧Fine x.f5∧Fine x.f6 from g).2.2.2.2.1 (show Fine x.f0∧Fine x.f1∧Fine x.f2∧Fine x.f3∧Fine x.f4∧Fine x.f5∧Fine x.f6 from g).2.2.2.2.2.1 (show Fine x.f6.f0∧Fine x.f6.f1∧Fine x.f6.f2∧Fine x.f6.f3 from(show Fine x.f0∧Fine x.f1∧Fine x.f2∧Fine x.f3∧Fine x.f4∧Fine x.f5∧Fine x.f6 from g).2.2.2.2.2.2).1 (show Fine x.f6.f0∧Fine x.f6.f1∧Fine x.f6.f2∧Fine x.f6.f3 from(show Fine x.f0∧Fine x.f1∧Fine x.f2∧Fine x.f3∧Fine x.f4∧Fine x.f5∧Fine x.f6 from g).2.2.2.2.2.2).2.1 (show Fine x.f6.f0∧Fine x.f6.f1∧Fine x.f6.f2∧Fine x.f6.f3 from(show Fine x.f0∧Fine x.f1∧Fine x.f2∧Fine x.f3∧Fine x.f4∧Fine x.f5∧Fine x.f6 from g).2.2.2.2.2.2).2.2.1 (show Fine x.f6.f0∧Fine x.f6.f1∧Fine x.f6.f2∧Fine x.f6.f3 from(show Fine x.f0∧Fine x.f1∧Fine x.f2∧Fine x.f3∧Fine x.f4∧Fine x.f5∧Fine x.f6 from g).2.2.2.2.2.2).2.2.2)
theorem laws_eqHeap_rf (a0_0:Int) (l0_1:List (S154)) (g_a0_0:Fine a0_0) (g_l0_1:Fine l0_1):Ev (fun k=>laws_eqHeap.f k a0_0 l0_1 a0_0 l0_1) true:=by
  simp only[laws_eqHeap.f]
  refine ev_pos (by trivial) ?_
  refine ev_bind (laws_eqObjectS_rf l0_1 g_l0_1) ?_
  refine ev_pos (by trivial) ?_
  exact ev_some _
theorem laws_eqBinding_rf (a0_0:ByteArray) (a0_1:Int) (a0_2:Int) (a0_3:ByteArray) (a0_4:Int) (g_a0_0:Fine a0_0) (g_a0_1:Fine a0_1) (g_a0_2:Fine a0_2) (g_a0_3:Fine a0_3) (g_a0_4:Fine a0_4):Ev (fun k=>laws_eqBinding.f a0_0 a0_1 a0_2 a0_3 a0_4 a0_0 a0_1 a0_2 a0_3 a0_4) true:=by
  simp only[laws_eqBinding.f]
  refine ev_pos (by trivial) ?_
  refine ev_bind (laws_eqValue_rf a0_1 a0_2 a0_3 a0_4 g_a0_1 g_a0_2 g_a0_3 g_a0_4) ?_
  refine ev_pos (by trivial) ?_
  exact ev_some _
theorem laws_eqBindingS_rf (l0:List (S116)) (g_l0:Fine l0):Ev (fun k=>laws_eqBindingS.f k l0 l0) true:=by
  simp only[laws_eqBindingS.f]
  refine ev_pos (by trivial) ?_
  exact eq_loop laws_eqBindingS.l0 (fun k x y=>laws_eqBinding.f (x.f0) (x.f1.f0) (x.f1.f1) (x.f1.f2) (x.f1.f3) (y.f0) (y.f1.f0) (y.f1.f1) (y.f1.f2) (y.f1.f3)) rd_T116 (fun k xs ys i=>by simp only[laws_eqBindingS.l0]) (fun xs i h=>getD_get _ xs i h) l0 g_l0.len (fun x hx=>by
    have g:=g_l0.mem hx
    exact laws_eqBinding_rf x.f0 x.f1.f0 x.f1.f1 x.f1.f2 x.f1.f3 (show Fine x.f0∧Fine x.f1 from g).1 (show Fine x.f1.f0∧Fine x.f1.f1∧Fine x.f1.f2∧Fine x.f1.f3 from(show Fine x.f0∧Fine x.f1 from g).2).1 (show Fine x.f1.f0∧Fine x.f1.f1∧Fine x.f1.f2∧Fine x.f1.f3 from(show Fine x.f0∧Fine x.f1 from g).2).2.1 (show Fine x.f1.f0∧Fine x.f1.f1∧Fine x.f1.f2∧Fine x.f1.f3 from(show Fine x.f0∧Fine x.f1 from g).2).2.2.1 (show Fine x.f1.f0∧Fine x.f1.f1∧Fine x.f1.f2∧Fine x.f1.f3 from(show Fine x.f0∧Fine x.f1 from g).2).2.2.2)
theorem laws_eqStringS_rf (l0:List ByteArray) (g_l0:Fine l0):Ev (fun k=>laws_eqStringS.f k l0 l0) true:=by
  simp only[laws_eqStringS.f]
  refine ev_pos (by trivial) ?_
  exact eq_loop laws_eqStringS.l0 (fun k x y=>some (decide (x.toList=y.toList))) (rdOf ByteArray.empty) (fun k xs ys i=>by simp only[laws_eqStringS.l0,Option.bind_some,decide_eq_true_eq]) (fun xs i h=>rdOf_get _ xs i h) l0 g_l0.len (fun x hx=>by simpa using ev_some true)
theorem laws_eqFunction_rf (a0_0:ByteArray) (l0_1:List ByteArray) (l0_2:List ByteArray) (a0_3:ByteArray) (g_a0_0:Fine a0_0) (g_l0_1:Fine l0_1) (g_l0_2:Fine l0_2) (g_a0_3:Fine a0_3):Ev (fun k=>laws_eqFunction.f k a0_0 l0_1 l0_2 a0_3 a0_0 l0_1 l0_2 a0_3) true:=by
  simp only[laws_eqFunction.f]
  refine ev_pos (by trivial) ?_
  refine ev_bind (laws_eqStringS_rf l0_1 g_l0_1) ?_
  refine ev_pos (by trivial) ?_
  refine ev_bind (laws_eqStringS_rf l0_2 g_l0_2) ?_
  refine ev_pos (by trivial) ?_
  refine ev_pos (by trivial) ?_
  exact ev_some _
theorem laws_eqFunctionS_rf (l0:List (S107)) (g_l0:Fine l0):Ev (fun k=>laws_eqFunctionS.f k l0 l0) true:=by
  simp only[laws_eqFunctionS.f]
  refine ev_pos (by trivial) ?_
  exact eq_loop laws_eqFunctionS.l0 (fun k x y=>laws_eqFunction.f k (x.f0) (x.f1) (x.f2) (x.f3) (y.f0) (y.f1) (y.f2) (y.f3)) rd_T107 (fun k xs ys i=>by simp only[laws_eqFunctionS.l0]) (fun xs i h=>getD_get _ xs i h) l0 g_l0.len (fun x hx=>by
    have g:=g_l0.mem hx
    exact laws_eqFunction_rf x.f0 x.f1 x.f2 x.f3 (show Fine x.f0∧Fine x.f1∧Fine x.f2∧Fine x.f3 from g).1 (show Fine x.f0∧Fine x.f1∧Fine x.f2∧Fine x.f3 from g).2.1 (show Fine x.f0∧Fine x.f1∧Fine x.f2∧Fine x.f3 from g).2.2.1 (show Fine x.f0∧Fine x.f1∧Fine x.f2∧Fine x.f3 from g).2.2.2)
theorem laws_eqRecordType_rf (a0_0:ByteArray) (l0_1:List ByteArray) (g_a0_0:Fine a0_0) (g_l0_1:Fine l0_1):Ev (fun k=>laws_eqRecordType.f k a0_0 l0_1 a0_0 l0_1) true:=by
  simp only[laws_eqRecordType.f]
  refine ev_pos (by trivial) ?_
  refine ev_bind (laws_eqStringS_rf l0_1 g_l0_1) ?_
  refine ev_pos (by trivial) ?_
  exact ev_some _
theorem laws_eqRecordTypeS_rf (l0:List (S109)) (g_l0:Fine l0):Ev (fun k=>laws_eqRecordTypeS.f k l0 l0) true:=by
  simp only[laws_eqRecordTypeS.f]
  refine ev_pos (by trivial) ?_
  exact eq_loop laws_eqRecordTypeS.l0 (fun k x y=>laws_eqRecordType.f k (x.f0) (x.f1) (y.f0) (y.f1)) rd_T109 (fun k xs ys i=>by simp only[laws_eqRecordTypeS.l0]) (fun xs i h=>getD_get _ xs i h) l0 g_l0.len (fun x hx=>by
    have g:=g_l0.mem hx
    exact laws_eqRecordType_rf x.f0 x.f1 (show Fine x.f0∧Fine x.f1 from g).1 (show Fine x.f0∧Fine x.f1 from g).2)
theorem laws_eqScope_rf (l0_0:List (S116)) (l0_1:List (S107)) (l0_2:List (S109)) (g_l0_0:Fine l0_0) (g_l0_1:Fine l0_1) (g_l0_2:Fine l0_2):Ev (fun k=>laws_eqScope.f k l0_0 l0_1 l0_2 l0_0 l0_1 l0_2) true:=by
  simp only[laws_eqScope.f]
  refine ev_bind (laws_eqBindingS_rf l0_0 g_l0_0) ?_
  refine ev_pos (by trivial) ?_
  refine ev_bind (laws_eqFunctionS_rf l0_1 g_l0_1) ?_
  refine ev_pos (by trivial) ?_
  refine ev_bind (laws_eqRecordTypeS_rf l0_2 g_l0_2) ?_
  refine ev_pos (by trivial) ?_
  exact ev_some _
theorem laws_eqFile_rf (a0_0:ByteArray) (l0_1:List ByteArray) (a0_2:Int) (a0_3:Int) (g_a0_0:Fine a0_0) (g_l0_1:Fine l0_1) (g_a0_2:Fine a0_2) (g_a0_3:Fine a0_3):Ev (fun k=>laws_eqFile.f k a0_0 l0_1 a0_2 a0_3 a0_0 l0_1 a0_2 a0_3) true:=by
  simp only[laws_eqFile.f]
  refine ev_pos (by trivial) ?_
  refine ev_bind (laws_eqStringS_rf l0_1 g_l0_1) ?_
  refine ev_pos (by trivial) ?_
  refine ev_pos (by trivial) ?_
  refine ev_pos (by trivial) ?_
  exact ev_some _
theorem laws_eqFileS_rf (l0:List (S87)) (g_l0:Fine l0):Ev (fun k=>laws_eqFileS.f k l0 l0) true:=by
  simp only[laws_eqFileS.f]
  refine ev_pos (by trivial) ?_
  exact eq_loop laws_eqFileS.l0 (fun k x y=>laws_eqFile.f k (x.f0) (x.f1) (x.f2) (x.f3) (y.f0) (y.f1) (y.f2) (y.f3)) rd_T87 (fun k xs ys i=>by simp only[laws_eqFileS.l0]) (fun xs i h=>getD_get _ xs i h) l0 g_l0.len (fun x hx=>by
    have g:=g_l0.mem hx
    exact laws_eqFile_rf x.f0 x.f1 x.f2 x.f3 (show Fine x.f0∧Fine x.f1∧Fine x.f2∧Fine x.f3 from g).1 (show Fine x.f0∧Fine x.f1∧Fine x.f2∧Fine x.f3 from g).2.1 (show Fine x.f0∧Fine x.f1∧Fine x.f2∧Fine x.f3 from g).2.2.1 (show Fine x.f0∧Fine x.f1∧Fine x.f2∧Fine x.f3 from g).2.2.2)
theorem laws_eqConsole_rf (l0_0:List ByteArray) (a0_1:Int) (l0_2:List ByteArray) (l0_3:List (S87)) (l0_4:List ByteArray) (g_l0_0:Fine l0_0) (g_a0_1:Fine a0_1) (g_l0_2:Fine l0_2) (g_l0_3:Fine l0_3) (g_l0_4:Fine l0_4):Ev (fun k=>laws_eqConsole.f k l0_0 a0_1 l0_2 l0_3 l0_4 l0_0 a0_1 l0_2 l0_3 l0_4) true:=by
  simp only[laws_eqConsole.f]
  refine ev_bind (laws_eqStringS_rf l0_0 g_l0_0) ?_
  refine ev_pos (by trivial) ?_
  refine ev_pos (by trivial) ?_
  refine ev_bind (laws_eqStringS_rf l0_2 g_l0_2) ?_
  refine ev_pos (by trivial) ?_
  refine ev_bind (laws_eqFileS_rf l0_3 g_l0_3) ?_
  refine ev_pos (by trivial) ?_
  refine ev_bind (laws_eqStringS_rf l0_4 g_l0_4) ?_
  refine ev_pos (by trivial) ?_
  exact ev_some _
theorem laws_eqMemory_rf (a0_0:Int) (l0_1:List (S154)) (l0_2:List (S116)) (l0_3:List (S107)) (l0_4:List (S109)) (l0_5:List ByteArray) (a0_6:Int) (l0_7:List ByteArray) (l0_8:List (S87)) (l0_9:List ByteArray) (g_a0_0:Fine a0_0) (g_l0_1:Fine l0_1) (g_l0_2:Fine l0_2) (g_l0_3:Fine l0_3) (g_l0_4:Fine l0_4) (g_l0_5:Fine l0_5) (g_a0_6:Fine a0_6) (g_l0_7:Fine l0_7) (g_l0_8:Fine l0_8) (g_l0_9:Fine l0_9):Ev (fun k=>laws_eqMemory.f k a0_0 l0_1 l0_2 l0_3 l0_4 l0_5 a0_6 l0_7 l0_8 l0_9 a0_0 l0_1 l0_2 l0_3 l0_4 l0_5 a0_6 l0_7 l0_8 l0_9) true:=by
  simp only[laws_eqMemory.f]
  refine ev_bind (laws_eqHeap_rf a0_0 l0_1 g_a0_0 g_l0_1) ?_
  refine ev_pos (by trivial) ?_
  refine ev_bind (laws_eqScope_rf l0_2 l0_3 l0_4 g_l0_2 g_l0_3 g_l0_4) ?_
  refine ev_pos (by trivial) ?_
  refine ev_bind (laws_eqConsole_rf l0_5 a0_6 l0_7 l0_8 l0_9 g_l0_5 g_a0_6 g_l0_7 g_l0_8 g_l0_9) ?_
  refine ev_pos (by trivial) ?_
  exact ev_some _
def laws_FnExactSameMemory.Core:Prop:=∀(a0_0:Int) (l0_1:List (S154)) (l0_2:List (S116)) (l0_3:List (S107)) (l0_4:List (S109)) (l0_5:List ByteArray) (a0_6:Int) (l0_7:List ByteArray) (l0_8:List (S87)) (l0_9:List ByteArray) (a1_0:Int) (l1_1:List (S154)) (l1_2:List (S116)) (l1_3:List (S107)) (l1_4:List (S109)) (l1_5:List ByteArray) (a1_6:Int) (l1_7:List ByteArray) (l1_8:List (S87)) (l1_9:List ByteArray),Fine a0_0→Fine l0_1→Fine l0_2→Fine l0_3→Fine l0_4→Fine l0_5→Fine a0_6→Fine l0_7→Fine l0_8→Fine l0_9→Fine a1_0→Fine l1_1→Fine l1_2→Fine l1_3→Fine l1_4→Fine l1_5→Fine a1_6→Fine l1_7→Fine l1_8→Fine l1_9→∃r,Ev (fun k=>spec_SameMemory.f k a0_0 l0_1 l0_2 l0_3 l0_4 l0_5 a0_6 l0_7 l0_8 l0_9 a1_0 l1_1 l1_2 l1_3 l1_4 l1_5 a1_6 l1_7 l1_8 l1_9) r∧Ev (fun k=>impl_SameMemory.f k a0_0 l0_1 l0_2 l0_3 l0_4 l0_5 a0_6 l0_7 l0_8 l0_9 a1_0 l1_1 l1_2 l1_3 l1_4 l1_5 a1_6 l1_7 l1_8 l1_9) r∧Fine r
theorem close (core:laws_FnExactSameMemory.Core):laws_FnExactSameMemory.Pure:=by
  intro x0 x1 w_x0 w_x1
  suffices hh:Ev (fun k=>laws_FnExactSameMemory.f k x0.f0.f0 x0.f0.f1 x0.f1.f0 x0.f1.f1 x0.f1.f2 x0.f2.f0 x0.f2.f1 x0.f2.f2 x0.f2.f3 x0.f2.f4 x1.f0.f0 x1.f0.f1 x1.f1.f0 x1.f1.f1 x1.f1.f2 x1.f2.f0 x1.f2.f1 x1.f2.f2 x1.f2.f3 x1.f2.f4) true by
    obtain⟨K,hK⟩:=hh
    exact⟨K,hK K (Nat.le_refl _)⟩
  simp only[laws_FnExactSameMemory.f]
  obtain⟨v1,e1,b1,q1⟩:=laws_szMemory_sz x0.f0.f0 x0.f0.f1 x0.f1.f0 x0.f1.f1 x0.f1.f2 x0.f2.f0 x0.f2.f1 x0.f2.f2 x0.f2.f3 x0.f2.f4 1048576 ((show(WInt .i64) x0.f0.f0∧(WList wf166) x0.f0.f1 from(show wf62 x0.f0∧wf50 x0.f1∧wf36 x0.f2 from w_x0).1).1) ((show(WInt .i64) x0.f0.f0∧(WList wf166) x0.f0.f1 from(show wf62 x0.f0∧wf50 x0.f1∧wf36 x0.f2 from w_x0).1).2) ((show(WList wf134) x0.f1.f0∧(WList wf136) x0.f1.f1∧(WList wf138) x0.f1.f2 from(show wf62 x0.f0∧wf50 x0.f1∧wf36 x0.f2 from w_x0).2.1).1) ((show(WList wf134) x0.f1.f0∧(WList wf136) x0.f1.f1∧(WList wf138) x0.f1.f2 from(show wf62 x0.f0∧wf50 x0.f1∧wf36 x0.f2 from w_x0).2.1).2.1) ((show(WList wf134) x0.f1.f0∧(WList wf136) x0.f1.f1∧(WList wf138) x0.f1.f2 from(show wf62 x0.f0∧wf50 x0.f1∧wf36 x0.f2 from w_x0).2.1).2.2) ((show(WList WStr) x0.f2.f0∧(WInt .i64) x0.f2.f1∧(WList WStr) x0.f2.f2∧(WList wf127) x0.f2.f3∧(WList WStr) x0.f2.f4 from(show wf62 x0.f0∧wf50 x0.f1∧wf36 x0.f2 from w_x0).2.2).1) ((show(WList WStr) x0.f2.f0∧(WInt .i64) x0.f2.f1∧(WList WStr) x0.f2.f2∧(WList wf127) x0.f2.f3∧(WList WStr) x0.f2.f4 from(show wf62 x0.f0∧wf50 x0.f1∧wf36 x0.f2 from w_x0).2.2).2.1) ((show(WList WStr) x0.f2.f0∧(WInt .i64) x0.f2.f1∧(WList WStr) x0.f2.f2∧(WList wf127) x0.f2.f3∧(WList WStr) x0.f2.f4 from(show wf62 x0.f0∧wf50 x0.f1∧wf36 x0.f2 from w_x0).2.2).2.2.1) ((show(WList WStr) x0.f2.f0∧(WInt .i64) x0.f2.f1∧(WList WStr) x0.f2.f2∧(WList wf127) x0.f2.f3∧(WList WStr) x0.f2.f4 from(show wf62 x0.f0∧wf50 x0.f1∧wf36 x0.f2 from w_x0).2.2).2.2.2.1) ((show(WList WStr) x0.f2.f0∧(WInt .i64) x0.f2.f1∧(WList WStr) x0.f2.f2∧(WList wf127) x0.f2.f3∧(WList WStr) x0.f2.f4 from(show wf62 x0.f0∧wf50 x0.f1∧wf36 x0.f2 from w_x0).2.2).2.2.2.2) (by omega) (by omega)
  refine ev_bind e1 (ev_skip fun c1=>?_)
  obtain⟨g1_0,g1_1,g1_2,g1_3,g1_4,g1_5,g1_6,g1_7,g1_8,g1_9⟩:=q1 (by omega)
  obtain⟨v2,e2,b2,q2⟩:=laws_szMemory_sz x1.f0.f0 x1.f0.f1 x1.f1.f0 x1.f1.f1 x1.f1.f2 x1.f2.f0 x1.f2.f1 x1.f2.f2 x1.f2.f3 x1.f2.f4 v1 ((show(WInt .i64) x1.f0.f0∧(WList wf166) x1.f0.f1 from(show wf62 x1.f0∧wf50 x1.f1∧wf36 x1.f2 from w_x1).1).1) ((show(WInt .i64) x1.f0.f0∧(WList wf166) x1.f0.f1 from(show wf62 x1.f0∧wf50 x1.f1∧wf36 x1.f2 from w_x1).1).2) ((show(WList wf134) x1.f1.f0∧(WList wf136) x1.f1.f1∧(WList wf138) x1.f1.f2 from(show wf62 x1.f0∧wf50 x1.f1∧wf36 x1.f2 from w_x1).2.1).1) ((show(WList wf134) x1.f1.f0∧(WList wf136) x1.f1.f1∧(WList wf138) x1.f1.f2 from(show wf62 x1.f0∧wf50 x1.f1∧wf36 x1.f2 from w_x1).2.1).2.1) ((show(WList wf134) x1.f1.f0∧(WList wf136) x1.f1.f1∧(WList wf138) x1.f1.f2 from(show wf62 x1.f0∧wf50 x1.f1∧wf36 x1.f2 from w_x1).2.1).2.2) ((show(WList WStr) x1.f2.f0∧(WInt .i64) x1.f2.f1∧(WList WStr) x1.f2.f2∧(WList wf127) x1.f2.f3∧(WList WStr) x1.f2.f4 from(show wf62 x1.f0∧wf50 x1.f1∧wf36 x1.f2 from w_x1).2.2).1) ((show(WList WStr) x1.f2.f0∧(WInt .i64) x1.f2.f1∧(WList WStr) x1.f2.f2∧(WList wf127) x1.f2.f3∧(WList WStr) x1.f2.f4 from(show wf62 x1.f0∧wf50 x1.f1∧wf36 x1.f2 from w_x1).2.2).2.1) ((show(WList WStr) x1.f2.f0∧(WInt .i64) x1.f2.f1∧(WList WStr) x1.f2.f2∧(WList wf127) x1.f2.f3∧(WList WStr) x1.f2.f4 from(show wf62 x1.f0∧wf50 x1.f1∧wf36 x1.f2 from w_x1).2.2).2.2.1) ((show(WList WStr) x1.f2.f0∧(WInt .i64) x1.f2.f1∧(WList WStr) x1.f2.f2∧(WList wf127) x1.f2.f3∧(WList WStr) x1.f2.f4 from(show wf62 x1.f0∧wf50 x1.f1∧wf36 x1.f2 from w_x1).2.2).2.2.2.1) ((show(WList WStr) x1.f2.f0∧(WInt .i64) x1.f2.f1∧(WList WStr) x1.f2.f2∧(WList wf127) x1.f2.f3∧(WList WStr) x1.f2.f4 from(show wf62 x1.f0∧wf50 x1.f1∧wf36 x1.f2 from w_x1).2.2).2.2.2.2) (by omega) (by omega)
  refine ev_bind e2 (ev_skip fun c2=>?_)
  obtain⟨g2_0,g2_1,g2_2,g2_3,g2_4,g2_5,g2_6,g2_7,g2_8,g2_9⟩:=q2 (by omega)
  obtain⟨v3,e3,g3⟩:=laws_toMemory_to x0.f0.f0 x0.f0.f1 x0.f1.f0 x0.f1.f1 x0.f1.f2 x0.f2.f0 x0.f2.f1 x0.f2.f2 x0.f2.f3 x0.f2.f4 g1_0 g1_1 g1_2 g1_3 g1_4 g1_5 g1_6 g1_7 g1_8 g1_9
  refine ev_bind e3 ?_
  obtain⟨v4,e4,g4⟩:=laws_toMemory_to x1.f0.f0 x1.f0.f1 x1.f1.f0 x1.f1.f1 x1.f1.f2 x1.f2.f0 x1.f2.f1 x1.f2.f2 x1.f2.f3 x1.f2.f4 g2_0 g2_1 g2_2 g2_3 g2_4 g2_5 g2_6 g2_7 g2_8 g2_9
  refine ev_bind e4 ?_
  obtain⟨r,es,ei,gr⟩:=core v3.1 v3.2.1 v3.2.2.1 v3.2.2.2.1 v3.2.2.2.2.1 v3.2.2.2.2.2.1 v3.2.2.2.2.2.2.1 v3.2.2.2.2.2.2.2.1 v3.2.2.2.2.2.2.2.2.1 v3.2.2.2.2.2.2.2.2.2 v4.1 v4.2.1 v4.2.2.1 v4.2.2.2.1 v4.2.2.2.2.1 v4.2.2.2.2.2.1 v4.2.2.2.2.2.2.1 v4.2.2.2.2.2.2.2.1 v4.2.2.2.2.2.2.2.2.1 v4.2.2.2.2.2.2.2.2.2 (g3.fst) (g3.snd.fst) (g3.snd.snd.fst) (g3.snd.snd.snd.fst) (g3.snd.snd.snd.snd.fst) (g3.snd.snd.snd.snd.snd.fst) (g3.snd.snd.snd.snd.snd.snd.fst) (g3.snd.snd.snd.snd.snd.snd.snd.fst) (g3.snd.snd.snd.snd.snd.snd.snd.snd.fst) (g3.snd.snd.snd.snd.snd.snd.snd.snd.snd) (g4.fst) (g4.snd.fst) (g4.snd.snd.fst) (g4.snd.snd.snd.fst) (g4.snd.snd.snd.snd.fst) (g4.snd.snd.snd.snd.snd.fst) (g4.snd.snd.snd.snd.snd.snd.fst) (g4.snd.snd.snd.snd.snd.snd.snd.fst) (g4.snd.snd.snd.snd.snd.snd.snd.snd.fst) (g4.snd.snd.snd.snd.snd.snd.snd.snd.snd)
  refine ev_bind es ?_
  refine ev_bind e3 ?_
  refine ev_bind e4 ?_
  refine ev_bind ei ?_
  have p0_:Fine v3.1:=g3.fst
  have p1_:Fine v3.2.1:=g3.snd.fst
  have p2_:Fine v3.2.2.1:=g3.snd.snd.fst
  have p3_:Fine v3.2.2.2.1:=g3.snd.snd.snd.fst
  have p4_:Fine v3.2.2.2.2.1:=g3.snd.snd.snd.snd.fst
  have p5_:Fine v3.2.2.2.2.2.1:=g3.snd.snd.snd.snd.snd.fst
  have p6_:Fine v3.2.2.2.2.2.2.1:=g3.snd.snd.snd.snd.snd.snd.fst
  have p7_:Fine v3.2.2.2.2.2.2.2.1:=g3.snd.snd.snd.snd.snd.snd.snd.fst
  have p8_:Fine v3.2.2.2.2.2.2.2.2.1:=g3.snd.snd.snd.snd.snd.snd.snd.snd.fst
  have p9_:Fine v3.2.2.2.2.2.2.2.2.2:=g3.snd.snd.snd.snd.snd.snd.snd.snd.snd
  have p10_:Fine v4.1:=g4.fst
  have p11_:Fine v4.2.1:=g4.snd.fst
  have p12_:Fine v4.2.2.1:=g4.snd.snd.fst
  have p13_:Fine v4.2.2.2.1:=g4.snd.snd.snd.fst
  have p14_:Fine v4.2.2.2.2.1:=g4.snd.snd.snd.snd.fst
  have p15_:Fine v4.2.2.2.2.2.1:=g4.snd.snd.snd.snd.snd.fst
  have p16_:Fine v4.2.2.2.2.2.2.1:=g4.snd.snd.snd.snd.snd.snd.fst
  have p17_:Fine v4.2.2.2.2.2.2.2.1:=g4.snd.snd.snd.snd.snd.snd.snd.fst
  have p18_:Fine v4.2.2.2.2.2.2.2.2.1:=g4.snd.snd.snd.snd.snd.snd.snd.snd.fst
  have p19_:Fine v4.2.2.2.2.2.2.2.2.2:=g4.snd.snd.snd.snd.snd.snd.snd.snd.snd
  have p20_:Fine r:=gr
  repeat(first|exact ev_some _|refine ev_pos trivial ?_|refine ev_pos rfl ?_|refine ev_neg (bne_ff _) ?_|refine ev_neg Bool.false_ne_true ?_|refine ev_neg id ?_|refine ev_bind e3 ?_|refine ev_bind e4 ?_|refine ev_bind (laws_eqValue_rf _ _ _ _ (by assumption) (by assumption) (by assumption) (by assumption)) ?_|refine ev_bind (laws_eqValueS_rf _ (by assumption)) ?_|refine ev_bind (laws_eqObject_rf _ _ _ _ _ _ _ _ _ _ (by assumption) (by assumption) (by assumption) (by assumption) (by assumption) (by assumption) (by assumption) (by assumption) (by assumption) (by assumption)) ?_|refine ev_bind (laws_eqObjectS_rf _ (by assumption)) ?_|refine ev_bind (laws_eqHeap_rf _ _ (by assumption) (by assumption)) ?_|refine ev_bind (laws_eqBinding_rf _ _ _ _ _ (by assumption) (by assumption) (by assumption) (by assumption) (by assumption)) ?_|refine ev_bind (laws_eqBindingS_rf _ (by assumption)) ?_|refine ev_bind (laws_eqStringS_rf _ (by assumption)) ?_|refine ev_bind (laws_eqFunction_rf _ _ _ _ (by assumption) (by assumption) (by assumption) (by assumption)) ?_|refine ev_bind (laws_eqFunctionS_rf _ (by assumption)) ?_|refine ev_bind (laws_eqRecordType_rf _ _ (by assumption) (by assumption)) ?_|refine ev_bind (laws_eqRecordTypeS_rf _ (by assumption)) ?_|refine ev_bind (laws_eqScope_rf _ _ _ (by assumption) (by assumption) (by assumption)) ?_|refine ev_bind (laws_eqFile_rf _ _ _ _ (by assumption) (by assumption) (by assumption) (by assumption)) ?_|refine ev_bind (laws_eqFileS_rf _ (by assumption)) ?_|refine ev_bind (laws_eqConsole_rf _ _ _ _ _ (by assumption) (by assumption) (by assumption) (by assumption) (by assumption)) ?_|refine ev_bind (laws_eqMemory_rf _ _ _ _ _ _ _ _ _ _ (by assumption) (by assumption) (by assumption) (by assumption) (by assumption) (by assumption) (by assumption) (by assumption) (by assumption) (by assumption)) ?_)
end Go.Proofs.Ytnneadpahjkhgaa.PureFnExactSameMemory
