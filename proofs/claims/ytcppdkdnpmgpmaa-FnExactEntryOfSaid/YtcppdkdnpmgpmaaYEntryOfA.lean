/- What the helpers of the law FnExactEntryOf come to: budgets, copies, comparisons; no condition. -/
import Derived.Test.YtcppdkdnpmgpmaaYEntryOfO
import Derived.Test.YtcppdkdnpmgpmaaYEoW4
namespace Go.Proofs.Ytcppdkdnpmgpmaa.PureFnExactEntryOf
open Go.RowKit Go.Proofs.YtcppdkdnpmgpmaaG Go.Proofs.Ytcppdkdnpmgpmaa.PFnExactEntryOf Go.Proofs.YtcppdkdnpmgpmaaW.PrintWords Go.Proofs.YtcppdkdnpmgpmaaW.PrintLast Go.Proofs.YtcppdkdnpmgpmaaW.PrintMore
set_option linter.unusedVariables false
set_option linter.unusedSimpArgs false
instance:FineC S47:=⟨fun x=>Fine x.f0∧Fine x.f1∧Fine x.f2⟩
instance:FineC S50:=⟨fun x=>Fine x.f0∧Fine x.f1⟩
instance:FineC S51:=⟨fun x=>Fine x.f0∧Fine x.f1⟩
instance:FineC S55:=⟨fun x=>Fine x.f0∧Fine x.f1∧Fine x.f2⟩
instance:FineC S25:=⟨fun x=>Fine x.f0∧Fine x.f1⟩
theorem laws_szPatternIns_sz (a0_0:Int) (a0_1:Int) (a0_2:ByteArray) (a1:Int) (w_a0_0:(WInt .i64) a0_0) (w_a0_1:(WInt .i64) a0_1) (w_a0_2:WStr a0_2) (h0:0≤a1) (h1:a1≤1048576):Sz (fun k=>laws_szPatternIns.f a0_0 a0_1 a0_2 a1) a1 (Fine a0_0∧Fine a0_1∧Fine a0_2):=by
  simp only[laws_szPatternIns.f]
  have u_a0_2:a0_2.size≤9223372036854775807:=w_a0_2
  refine sz_if h0 (by omega) (by omega) (by omega) (by omega) fun b1 d1 e1=>?_
  exact⟨_,ev_some _,by omega,fun _=>(And.intro w_a0_0.i64 (And.intro w_a0_1.i64 (show a0_2.size≤1048576 by omega)))⟩
theorem laws_szPatternInsS_sz (l0:List (S47)) (a1:Int) (w_l0:(WList wf47) l0) (h0:0≤a1) (h1:a1≤1048576):Sz (fun k=>laws_szPatternInsS.f k l0 a1) a1 (Fine l0):=by
  simp only[laws_szPatternInsS.f]
  have u_l0:l0.length≤9223372036854775807:=w_l0.1
  refine sz_if h0 (by omega) (by omega) (by omega) (by omega) fun b1 d1 e1=>?_
  obtain⟨v,hv,hle,hq⟩:=sz_loop laws_szPatternInsS.l0 (fun k x n=>laws_szPatternIns.f (x.f0) (x.f1) (x.f2) n) rd_T47 (fun x=>Fine x) (fun k xs n i=>by simp only[laws_szPatternInsS.l0]) (fun xs i h=>getD_get _ xs i h) l0 w_l0.1 (wrap64 (a1-(l0.length:Int))) (by omega) (fun x hx m hm hm1=>by
    have w:=w_l0.2 x hx
    exact sz_mono (laws_szPatternIns_sz x.f0 x.f1 x.f2 m (show(WInt .i64) x.f0∧(WInt .i64) x.f1∧WStr x.f2 from w).1 (show(WInt .i64) x.f0∧(WInt .i64) x.f1∧WStr x.f2 from w).2.1 (show(WInt .i64) x.f0∧(WInt .i64) x.f1∧WStr x.f2 from w).2.2 hm (by omega)) (fun⟨g0,g1,g2⟩=>(And.intro g0 (And.intro g1 g2))))
  exact⟨v,hv,by omega,fun h=>Fine.list (by omega) (hq h)⟩
theorem laws_szPatternEntry_sz (a0_0:ByteArray) (a0_1:Int) (a1:Int) (w_a0_0:WStr a0_0) (w_a0_1:(WInt .i64) a0_1) (h0:0≤a1) (h1:a1≤1048576):Sz (fun k=>laws_szPatternEntry.f a0_0 a0_1 a1) a1 (Fine a0_0∧Fine a0_1):=by
  simp only[laws_szPatternEntry.f]
  have u_a0_0:a0_0.size≤9223372036854775807:=w_a0_0
  refine sz_if h0 (by omega) (by omega) (by omega) (by omega) fun b1 d1 e1=>?_
  exact⟨_,ev_some _,by omega,fun _=>(And.intro (show a0_0.size≤1048576 by omega) w_a0_1.i64)⟩
theorem laws_szPatternEntryS_sz (l0:List (S50)) (a1:Int) (w_l0:(WList wf50) l0) (h0:0≤a1) (h1:a1≤1048576):Sz (fun k=>laws_szPatternEntryS.f k l0 a1) a1 (Fine l0):=by
  simp only[laws_szPatternEntryS.f]
  have u_l0:l0.length≤9223372036854775807:=w_l0.1
  refine sz_if h0 (by omega) (by omega) (by omega) (by omega) fun b1 d1 e1=>?_
  obtain⟨v,hv,hle,hq⟩:=sz_loop laws_szPatternEntryS.l0 (fun k x n=>laws_szPatternEntry.f (x.f0) (x.f1) n) rd_T50 (fun x=>Fine x) (fun k xs n i=>by simp only[laws_szPatternEntryS.l0]) (fun xs i h=>getD_get _ xs i h) l0 w_l0.1 (wrap64 (a1-(l0.length:Int))) (by omega) (fun x hx m hm hm1=>by
    have w:=w_l0.2 x hx
    exact sz_mono (laws_szPatternEntry_sz x.f0 x.f1 m (show WStr x.f0∧(WInt .i64) x.f1 from w).1 (show WStr x.f0∧(WInt .i64) x.f1 from w).2 hm (by omega)) (fun⟨g0,g1⟩=>(And.intro g0 g1)))
  exact⟨v,hv,by omega,fun h=>Fine.list (by omega) (hq h)⟩
theorem laws_szPatternCode_sz (l0_0:List (S47)) (l0_1:List (S50)) (a1:Int) (w_l0_0:(WList wf47) l0_0) (w_l0_1:(WList wf50) l0_1) (h0:0≤a1) (h1:a1≤1048576):Sz (fun k=>laws_szPatternCode.f k l0_0 l0_1 a1) a1 (Fine l0_0∧Fine l0_1):=by
  simp only[laws_szPatternCode.f]
  have u_l0_0:l0_0.length≤9223372036854775807:=w_l0_0.1
  have u_l0_1:l0_1.length≤9223372036854775807:=w_l0_1.1
  refine sz_bind h0 (laws_szPatternInsS_sz l0_0 a1 w_l0_0 (by omega) (by omega)) (fun t108 b1 d1 q1=>?_)
  have g1_0:=q1
  refine sz_bind h0 (laws_szPatternEntryS_sz l0_1 t108 w_l0_1 (by omega) (by omega)) (fun t109 b2 d2 q2=>?_)
  have g2_0:=q2
  exact⟨_,ev_some _,by omega,fun _=>(And.intro g1_0 g2_0)⟩
theorem laws_toPatternIns_to (a0_0:Int) (a0_1:Int) (a0_2:ByteArray) (g_a0_0:Fine a0_0) (g_a0_1:Fine a0_1) (g_a0_2:Fine a0_2):To (fun k=>laws_toPatternIns.f a0_0 a0_1 a0_2):=by
  simp only[laws_toPatternIns.f]
  exact to_some (And.intro g_a0_0 (And.intro g_a0_1 g_a0_2))
theorem laws_toPatternInsS_to (l0:List (S47)) (g_l0:Fine l0):To (fun k=>laws_toPatternInsS.f k l0):=by
  simp only[laws_toPatternInsS.f]
  refine to_if (by omega) (to_if (by have:=g_l0.len;omega) ?_)
  exact to_loop laws_toPatternInsS.l0 (fun k x=>(laws_toPatternIns.f (x.f0) (x.f1) (x.f2)).bind fun bt117=>some (⟨bt117.1,bt117.2.1,bt117.2.2⟩:S55)) rd_T47 (fun k xs ys i=>by simp only[laws_toPatternInsS.l0,Option.bind_assoc,Option.bind_some]) (fun xs i h=>getD_get _ xs i h) l0 g_l0.len _ (fun x hx=>by
    have g:=g_l0.mem hx
    exact to_bind (laws_toPatternIns_to (x.f0) (x.f1) (x.f2) (show Fine x.f0∧Fine x.f1∧Fine x.f2 from g).1 (show Fine x.f0∧Fine x.f1∧Fine x.f2 from g).2.1 (show Fine x.f0∧Fine x.f1∧Fine x.f2 from g).2.2) (fun bt117 g_bt117=>to_some (And.intro g_bt117.fst (And.intro g_bt117.snd.fst g_bt117.snd.snd))))
theorem laws_toPatternEntry_to (a0_0:ByteArray) (a0_1:Int) (g_a0_0:Fine a0_0) (g_a0_1:Fine a0_1):To (fun k=>laws_toPatternEntry.f a0_0 a0_1):=by
  simp only[laws_toPatternEntry.f]
  exact to_some (And.intro g_a0_0 g_a0_1)
theorem laws_toPatternEntryS_to (l0:List (S50)) (g_l0:Fine l0):To (fun k=>laws_toPatternEntryS.f k l0):=by
  simp only[laws_toPatternEntryS.f]
  refine to_if (by omega) (to_if (by have:=g_l0.len;omega) ?_)
  exact to_loop laws_toPatternEntryS.l0 (fun k x=>(laws_toPatternEntry.f (x.f0) (x.f1)).bind fun bt128=>some (⟨bt128.1,bt128.2⟩:S51)) rd_T50 (fun k xs ys i=>by simp only[laws_toPatternEntryS.l0,Option.bind_assoc,Option.bind_some]) (fun xs i h=>getD_get _ xs i h) l0 g_l0.len _ (fun x hx=>by
    have g:=g_l0.mem hx
    exact to_bind (laws_toPatternEntry_to (x.f0) (x.f1) (show Fine x.f0∧Fine x.f1 from g).1 (show Fine x.f0∧Fine x.f1 from g).2) (fun bt128 g_bt128=>to_some (And.intro g_bt128.fst g_bt128.snd)))
theorem laws_toPatternCode_to (l0_0:List (S47)) (l0_1:List (S50)) (g_l0_0:Fine l0_0) (g_l0_1:Fine l0_1):To (fun k=>laws_toPatternCode.f k l0_0 l0_1):=by
  simp only[laws_toPatternCode.f]
  refine to_bind (laws_toPatternInsS_to l0_0 g_l0_0) (fun t134 g_t134=>?_)
  refine to_bind (laws_toPatternEntryS_to l0_1 g_l0_1) (fun t137 g_t137=>?_)
  exact to_some (And.intro g_t134 g_t137)
theorem laws_eqPatternIns_rf (a0_0:Int) (a0_1:Int) (a0_2:ByteArray) (g_a0_0:Fine a0_0) (g_a0_1:Fine a0_1) (g_a0_2:Fine a0_2):Ev (fun k=>laws_eqPatternIns.f a0_0 a0_1 a0_2 a0_0 a0_1 a0_2) true:=by
  simp only[laws_eqPatternIns.f]
  refine ev_pos (by trivial) ?_
  refine ev_pos (by trivial) ?_
  refine ev_pos (by trivial) ?_
  exact ev_some _
theorem laws_eqPatternInsS_rf (l0:List (S55)) (g_l0:Fine l0):Ev (fun k=>laws_eqPatternInsS.f k l0 l0) true:=by
  simp only[laws_eqPatternInsS.f]
  refine ev_pos (by trivial) ?_
  exact eq_loop laws_eqPatternInsS.l0 (fun k x y=>laws_eqPatternIns.f (x.f0) (x.f1) (x.f2) (y.f0) (y.f1) (y.f2)) rd_T55 (fun k xs ys i=>by simp only[laws_eqPatternInsS.l0]) (fun xs i h=>getD_get _ xs i h) l0 g_l0.len (fun x hx=>by
    have g:=g_l0.mem hx
    exact laws_eqPatternIns_rf x.f0 x.f1 x.f2 (show Fine x.f0∧Fine x.f1∧Fine x.f2 from g).1 (show Fine x.f0∧Fine x.f1∧Fine x.f2 from g).2.1 (show Fine x.f0∧Fine x.f1∧Fine x.f2 from g).2.2)
theorem laws_eqPatternEntry_rf (a0_0:ByteArray) (a0_1:Int) (g_a0_0:Fine a0_0) (g_a0_1:Fine a0_1):Ev (fun k=>laws_eqPatternEntry.f a0_0 a0_1 a0_0 a0_1) true:=by
  simp only[laws_eqPatternEntry.f]
  refine ev_pos (by trivial) ?_
  refine ev_pos (by trivial) ?_
  exact ev_some _
theorem laws_eqPatternEntryS_rf (l0:List (S51)) (g_l0:Fine l0):Ev (fun k=>laws_eqPatternEntryS.f k l0 l0) true:=by
  simp only[laws_eqPatternEntryS.f]
  refine ev_pos (by trivial) ?_
  exact eq_loop laws_eqPatternEntryS.l0 (fun k x y=>laws_eqPatternEntry.f (x.f0) (x.f1) (y.f0) (y.f1)) rd_T51 (fun k xs ys i=>by simp only[laws_eqPatternEntryS.l0]) (fun xs i h=>getD_get _ xs i h) l0 g_l0.len (fun x hx=>by
    have g:=g_l0.mem hx
    exact laws_eqPatternEntry_rf x.f0 x.f1 (show Fine x.f0∧Fine x.f1 from g).1 (show Fine x.f0∧Fine x.f1 from g).2)
theorem laws_eqPatternCode_rf (l0_0:List (S55)) (l0_1:List (S51)) (g_l0_0:Fine l0_0) (g_l0_1:Fine l0_1):Ev (fun k=>laws_eqPatternCode.f k l0_0 l0_1 l0_0 l0_1) true:=by
  simp only[laws_eqPatternCode.f]
  refine ev_bind (laws_eqPatternInsS_rf l0_0 g_l0_0) ?_
  refine ev_pos (by trivial) ?_
  refine ev_bind (laws_eqPatternEntryS_rf l0_1 g_l0_1) ?_
  refine ev_pos (by trivial) ?_
  exact ev_some _
def laws_FnExactEntryOf.Core:Prop:=∀(l0_0:List (S55)) (l0_1:List (S51)) (a1:ByteArray),Fine l0_0→Fine l0_1→Fine a1→∃r,Ev (fun k=>spec_EntryOf.f k l0_0 l0_1 a1) r∧Ev (fun k=>impl_EntryOf.f k l0_0 l0_1 a1) r∧Fine r
theorem close (core:laws_FnExactEntryOf.Core):laws_FnExactEntryOf.Pure:=by
  intro x0 x1 w_x0 w_x1
  suffices hh:Ev (fun k=>laws_FnExactEntryOf.f k x0.f0 x0.f1 x1) true by
    obtain⟨K,hK⟩:=hh
    exact⟨K,hK K (Nat.le_refl _)⟩
  simp only[laws_FnExactEntryOf.f]
  refine ev_skip fun c1=>?_
  have g_1:Fine x1:=(show x1.size≤1048576 by omega)
  obtain⟨v2,e2,b2,q2⟩:=laws_szPatternCode_sz x0.f0 x0.f1 1048576 ((show(WList wf47) x0.f0∧(WList wf50) x0.f1 from w_x0).1) ((show(WList wf47) x0.f0∧(WList wf50) x0.f1 from w_x0).2) (by omega) (by omega)
  refine ev_bind e2 (ev_skip fun c2=>?_)
  obtain⟨g2_0,g2_1⟩:=q2 (by omega)
  obtain⟨v3,e3,g3⟩:=laws_toPatternCode_to x0.f0 x0.f1 g2_0 g2_1
  refine ev_bind e3 ?_
  obtain⟨r,es,ei,gr⟩:=core v3.1 v3.2 x1 (g3.fst) (g3.snd) g_1
  refine ev_bind es ?_
  refine ev_bind e3 ?_
  refine ev_bind ei ?_
  have p0_:Fine v3.1:=g3.fst
  have p1_:Fine v3.2:=g3.snd
  have p2_:Fine r.1:=gr.fst
  have p3_:Fine r.2:=gr.snd
  repeat(first|exact ev_some _|refine ev_pos trivial ?_|refine ev_pos rfl ?_|refine ev_neg (bne_ff _) ?_|refine ev_neg Bool.false_ne_true ?_|refine ev_neg id ?_|refine ev_bind e3 ?_|refine ev_bind (laws_eqPatternIns_rf _ _ _ (by assumption) (by assumption) (by assumption)) ?_|refine ev_bind (laws_eqPatternInsS_rf _ (by assumption)) ?_|refine ev_bind (laws_eqPatternEntry_rf _ _ (by assumption) (by assumption)) ?_|refine ev_bind (laws_eqPatternEntryS_rf _ (by assumption)) ?_|refine ev_bind (laws_eqPatternCode_rf _ _ (by assumption) (by assumption)) ?_|(refine ev_shift ?_;simp only[laws_FnExactEntryOf.j0]))
end Go.Proofs.Ytcppdkdnpmgpmaa.PureFnExactEntryOf
