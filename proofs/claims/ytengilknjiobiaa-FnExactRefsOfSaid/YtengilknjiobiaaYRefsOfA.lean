/- What the helpers of the law FnExactRefsOf come to: budgets, copies, comparisons; no condition. -/
import Derived.Test.YtengilknjiobiaaYRefsOfO
import Derived.Test.YtengilknjiobiaaYRoW4
namespace Go.Proofs.Ytengilknjiobiaa.PureFnExactRefsOf
open Go.RowKit Go.Proofs.YtengilknjiobiaaG Go.Proofs.Ytengilknjiobiaa.PFnExactRefsOf Go.Proofs.YtengilknjiobiaaW.PrintWords Go.Proofs.YtengilknjiobiaaW.PrintLast Go.Proofs.YtengilknjiobiaaW.PrintMore
set_option linter.unusedVariables false
set_option linter.unusedSimpArgs false
instance:FineC S26:=⟨fun x=>Fine x.f0∧Fine x.f1∧Fine x.f2∧Fine x.f3⟩
instance:FineC S29:=⟨fun x=>Fine x.f0∧Fine x.f1∧Fine x.f2∧Fine x.f3⟩
instance:FineC S51:=⟨fun x=>Fine x.f0∧Fine x.f1∧Fine x.f2∧Fine x.f3∧Fine x.f4∧Fine x.f5∧Fine x.f6⟩
theorem laws_szValue_sz (a0_0:Int) (a0_1:Int) (a0_2:ByteArray) (a0_3:Int) (a1:Int) (w_a0_0:(WInt .i64) a0_0) (w_a0_1:(WInt .i64) a0_1) (w_a0_2:WStr a0_2) (w_a0_3:(WInt .i64) a0_3) (h0:0≤a1) (h1:a1≤1048576):Sz (fun k=>laws_szValue.f a0_0 a0_1 a0_2 a0_3 a1) a1 (Fine a0_0∧Fine a0_1∧Fine a0_2∧Fine a0_3):=by
  simp only[laws_szValue.f]
  have u_a0_2:a0_2.size≤9223372036854775807:=w_a0_2
  refine sz_if h0 (by omega) (by omega) (by omega) (by omega) fun b1 d1 e1=>?_
  exact⟨_,ev_some _,by omega,fun _=>(And.intro w_a0_0.i64 (And.intro w_a0_1.i64 (And.intro (show a0_2.size≤1048576 by omega) w_a0_3.i64)))⟩
theorem laws_szValueS_sz (l0:List (S26)) (a1:Int) (w_l0:(WList wf26) l0) (h0:0≤a1) (h1:a1≤1048576):Sz (fun k=>laws_szValueS.f k l0 a1) a1 (Fine l0):=by
  simp only[laws_szValueS.f]
  have u_l0:l0.length≤9223372036854775807:=w_l0.1
  refine sz_if h0 (by omega) (by omega) (by omega) (by omega) fun b1 d1 e1=>?_
  obtain⟨v,hv,hle,hq⟩:=sz_loop laws_szValueS.l0 (fun k x n=>laws_szValue.f (x.f0) (x.f1) (x.f2) (x.f3) n) rd_T26 (fun x=>Fine x) (fun k xs n i=>by simp only[laws_szValueS.l0]) (fun xs i h=>getD_get _ xs i h) l0 w_l0.1 (wrap64 (a1-(l0.length:Int))) (by omega) (fun x hx m hm hm1=>by
    have w:=w_l0.2 x hx
    exact sz_mono (laws_szValue_sz x.f0 x.f1 x.f2 x.f3 m (show(WInt .i64) x.f0∧(WInt .i64) x.f1∧WStr x.f2∧(WInt .i64) x.f3 from w).1 (show(WInt .i64) x.f0∧(WInt .i64) x.f1∧WStr x.f2∧(WInt .i64) x.f3 from w).2.1 (show(WInt .i64) x.f0∧(WInt .i64) x.f1∧WStr x.f2∧(WInt .i64) x.f3 from w).2.2.1 (show(WInt .i64) x.f0∧(WInt .i64) x.f1∧WStr x.f2∧(WInt .i64) x.f3 from w).2.2.2 hm (by omega)) (fun⟨g0,g1,g2,g3⟩=>(And.intro g0 (And.intro g1 (And.intro g2 g3)))))
  exact⟨v,hv,by omega,fun h=>Fine.list (by omega) (hq h)⟩
theorem laws_szObject_sz (a0_0:Int) (a0_1:Int) (a0_2:ByteArray) (a0_3:Int) (l0_4:List (S26)) (l0_5:List (S26)) (a0_6:Int) (a0_7:Int) (a0_8:ByteArray) (a0_9:Int) (a1:Int) (w_a0_0:(WInt .i64) a0_0) (w_a0_1:(WInt .i64) a0_1) (w_a0_2:WStr a0_2) (w_a0_3:(WInt .i64) a0_3) (w_l0_4:(WList wf26) l0_4) (w_l0_5:(WList wf26) l0_5) (w_a0_6:(WInt .i64) a0_6) (w_a0_7:(WInt .i64) a0_7) (w_a0_8:WStr a0_8) (w_a0_9:(WInt .i64) a0_9) (h0:0≤a1) (h1:a1≤1048576):Sz (fun k=>laws_szObject.f k a0_0 a0_1 a0_2 a0_3 l0_4 l0_5 a0_6 a0_7 a0_8 a0_9 a1) a1 (Fine a0_0∧Fine a0_1∧Fine a0_2∧Fine a0_3∧Fine l0_4∧Fine l0_5∧Fine a0_6∧Fine a0_7∧Fine a0_8∧Fine a0_9):=by
  simp only[laws_szObject.f]
  have u_a0_2:a0_2.size≤9223372036854775807:=w_a0_2
  have u_l0_4:l0_4.length≤9223372036854775807:=w_l0_4.1
  have u_l0_5:l0_5.length≤9223372036854775807:=w_l0_5.1
  have u_a0_8:a0_8.size≤9223372036854775807:=w_a0_8
  refine sz_if h0 (by omega) (by omega) (by omega) (by omega) fun b1 d1 e1=>?_
  refine sz_bind h0 (laws_szValueS_sz l0_4 (wrap64 (a1-(a0_2.size:Int))) w_l0_4 (by omega) (by omega)) (fun t105 b2 d2 q2=>?_)
  have g2_0:=q2
  refine sz_bind h0 (laws_szValueS_sz l0_5 t105 w_l0_5 (by omega) (by omega)) (fun t106 b3 d3 q3=>?_)
  have g3_0:=q3
  refine sz_bind h0 (laws_szValue_sz a0_6 a0_7 a0_8 a0_9 t106 w_a0_6 w_a0_7 w_a0_8 w_a0_9 (by omega) (by omega)) (fun t107 b4 d4 q4=>?_)
  obtain⟨g4_0,g4_1,g4_2,g4_3⟩:=q4
  exact⟨_,ev_some _,by omega,fun _=>(And.intro w_a0_0.i64 (And.intro w_a0_1.i64 (And.intro (show a0_2.size≤1048576 by omega) (And.intro w_a0_3.i64 (And.intro g2_0 (And.intro g3_0 (And.intro g4_0 (And.intro g4_1 (And.intro g4_2 g4_3)))))))))⟩
theorem laws_toValue_to (a0_0:Int) (a0_1:Int) (a0_2:ByteArray) (a0_3:Int) (g_a0_0:Fine a0_0) (g_a0_1:Fine a0_1) (g_a0_2:Fine a0_2) (g_a0_3:Fine a0_3):To (fun k=>laws_toValue.f a0_0 a0_1 a0_2 a0_3):=by
  simp only[laws_toValue.f]
  exact to_some (And.intro g_a0_0 (And.intro g_a0_1 (And.intro g_a0_2 g_a0_3)))
theorem laws_toValueS_to (l0:List (S26)) (g_l0:Fine l0):To (fun k=>laws_toValueS.f k l0):=by
  simp only[laws_toValueS.f]
  refine to_if (by omega) (to_if (by have:=g_l0.len;omega) ?_)
  exact to_loop laws_toValueS.l0 (fun k x=>(laws_toValue.f (x.f0) (x.f1) (x.f2) (x.f3)).bind fun bt115=>some (⟨bt115.1,bt115.2.1,bt115.2.2.1,bt115.2.2.2⟩:S29)) rd_T26 (fun k xs ys i=>by simp only[laws_toValueS.l0,Option.bind_assoc,Option.bind_some]) (fun xs i h=>getD_get _ xs i h) l0 g_l0.len _ (fun x hx=>by
    have g:=g_l0.mem hx
    exact to_bind (laws_toValue_to (x.f0) (x.f1) (x.f2) (x.f3) (show Fine x.f0∧Fine x.f1∧Fine x.f2∧Fine x.f3 from g).1 (show Fine x.f0∧Fine x.f1∧Fine x.f2∧Fine x.f3 from g).2.1 (show Fine x.f0∧Fine x.f1∧Fine x.f2∧Fine x.f3 from g).2.2.1 (show Fine x.f0∧Fine x.f1∧Fine x.f2∧Fine x.f3 from g).2.2.2) (fun bt115 g_bt115=>to_some (And.intro g_bt115.fst (And.intro g_bt115.snd.fst (And.intro g_bt115.snd.snd.fst g_bt115.snd.snd.snd)))))
theorem laws_toObject_to (a0_0:Int) (a0_1:Int) (a0_2:ByteArray) (a0_3:Int) (l0_4:List (S26)) (l0_5:List (S26)) (a0_6:Int) (a0_7:Int) (a0_8:ByteArray) (a0_9:Int) (g_a0_0:Fine a0_0) (g_a0_1:Fine a0_1) (g_a0_2:Fine a0_2) (g_a0_3:Fine a0_3) (g_l0_4:Fine l0_4) (g_l0_5:Fine l0_5) (g_a0_6:Fine a0_6) (g_a0_7:Fine a0_7) (g_a0_8:Fine a0_8) (g_a0_9:Fine a0_9):To (fun k=>laws_toObject.f k a0_0 a0_1 a0_2 a0_3 l0_4 l0_5 a0_6 a0_7 a0_8 a0_9):=by
  simp only[laws_toObject.f]
  refine to_bind (laws_toValueS_to l0_4 g_l0_4) (fun t123 g_t123=>?_)
  refine to_bind (laws_toValueS_to l0_5 g_l0_5) (fun t126 g_t126=>?_)
  refine to_bind (laws_toValue_to a0_6 a0_7 a0_8 a0_9 g_a0_6 g_a0_7 g_a0_8 g_a0_9) (fun bt129 g_bt129=>?_)
  exact to_some (And.intro g_a0_0 (And.intro g_a0_1 (And.intro g_a0_2 (And.intro g_a0_3 (And.intro g_t123 (And.intro g_t126 (And.intro g_bt129.fst (And.intro g_bt129.snd.fst (And.intro g_bt129.snd.snd.fst g_bt129.snd.snd.snd)))))))))
theorem laws_eqInt64S_rf (l0:List Int) (g_l0:Fine l0):Ev (fun k=>laws_eqInt64S.f k l0 l0) true:=by
  simp only[laws_eqInt64S.f]
  refine ev_pos (by trivial) ?_
  exact eq_loop laws_eqInt64S.l0 (fun k x y=>some (decide (x=y))) rd (fun k xs ys i=>by simp only[laws_eqInt64S.l0,Option.bind_some,decide_eq_true_eq]) (fun xs i h=>rd_get xs i h) l0 g_l0.len (fun x hx=>by simpa using ev_some true)
theorem laws_eqValue_rf (a0_0:Int) (a0_1:Int) (a0_2:ByteArray) (a0_3:Int) (g_a0_0:Fine a0_0) (g_a0_1:Fine a0_1) (g_a0_2:Fine a0_2) (g_a0_3:Fine a0_3):Ev (fun k=>laws_eqValue.f a0_0 a0_1 a0_2 a0_3 a0_0 a0_1 a0_2 a0_3) true:=by
  simp only[laws_eqValue.f]
  refine ev_pos (by trivial) ?_
  refine ev_pos (by trivial) ?_
  refine ev_pos (by trivial) ?_
  refine ev_pos (by trivial) ?_
  exact ev_some _
theorem laws_eqValueS_rf (l0:List (S29)) (g_l0:Fine l0):Ev (fun k=>laws_eqValueS.f k l0 l0) true:=by
  simp only[laws_eqValueS.f]
  refine ev_pos (by trivial) ?_
  exact eq_loop laws_eqValueS.l0 (fun k x y=>laws_eqValue.f (x.f0) (x.f1) (x.f2) (x.f3) (y.f0) (y.f1) (y.f2) (y.f3)) rd_T29 (fun k xs ys i=>by simp only[laws_eqValueS.l0]) (fun xs i h=>getD_get _ xs i h) l0 g_l0.len (fun x hx=>by
    have g:=g_l0.mem hx
    exact laws_eqValue_rf x.f0 x.f1 x.f2 x.f3 (show Fine x.f0∧Fine x.f1∧Fine x.f2∧Fine x.f3 from g).1 (show Fine x.f0∧Fine x.f1∧Fine x.f2∧Fine x.f3 from g).2.1 (show Fine x.f0∧Fine x.f1∧Fine x.f2∧Fine x.f3 from g).2.2.1 (show Fine x.f0∧Fine x.f1∧Fine x.f2∧Fine x.f3 from g).2.2.2)
theorem laws_eqObject_rf (a0_0:Int) (a0_1:Int) (a0_2:ByteArray) (a0_3:Int) (l0_4:List (S29)) (l0_5:List (S29)) (a0_6:Int) (a0_7:Int) (a0_8:ByteArray) (a0_9:Int) (g_a0_0:Fine a0_0) (g_a0_1:Fine a0_1) (g_a0_2:Fine a0_2) (g_a0_3:Fine a0_3) (g_l0_4:Fine l0_4) (g_l0_5:Fine l0_5) (g_a0_6:Fine a0_6) (g_a0_7:Fine a0_7) (g_a0_8:Fine a0_8) (g_a0_9:Fine a0_9):Ev (fun k=>laws_eqObject.f k a0_0 a0_1 a0_2 a0_3 l0_4 l0_5 a0_6 a0_7 a0_8 a0_9 a0_0 a0_1 a0_2 a0_3 l0_4 l0_5 a0_6 a0_7 a0_8 a0_9) true:=by
  simp only[laws_eqObject.f]
  refine ev_pos (by trivial) ?_
  refine ev_pos (by trivial) ?_
  refine ev_pos (by trivial) ?_
  refine ev_pos (by trivial) ?_
  refine ev_bind (laws_eqValueS_rf l0_4 g_l0_4) ?_
  refine ev_pos (by trivial) ?_
  refine ev_bind (laws_eqValueS_rf l0_5 g_l0_5) ?_
  refine ev_pos (by trivial) ?_
  refine ev_bind (laws_eqValue_rf a0_6 a0_7 a0_8 a0_9 g_a0_6 g_a0_7 g_a0_8 g_a0_9) ?_
  refine ev_pos (by trivial) ?_
  exact ev_some _
theorem laws_markText_mk (n:Int) (hn:n≤1000000000000000000):∃t,Ev (fun k=>laws_markText.f k n) t:=by
  simp only[laws_markText.f]
  by_cases c:n≤0
  · exact⟨_,ev_pos c (ev_some _)⟩
  · suffices h:∀(d:Nat) (x:Int) (s:ByteArray),0≤x→x<(10:Int)^d→x≤1000000000000000000→s.size+d+2≤9223372036854775807→∃t,Ev (fun k=>laws_markText.l0 k x s) t by
      obtain⟨t,ht⟩:=h 19 n ⟨#[]⟩ (by omega) (by rw[show(10:Int)^19=10000000000000000000 from by decide];omega) hn (by show 0+19+2≤_;omega)
      exact⟨t,ev_neg c ht⟩
    intro d
    induction d with
    |zero=>
      intro x s h0 h1 _ hs
      have e:x=0:=by rw[Int.pow_zero]at h1;omega
      subst e
      refine⟨(⟨#[109]⟩:ByteArray)++s,ev_shift ?_⟩
      simp only[laws_markText.l0]
      exact ev_neg (by omega) (ev_pos (by omega) (ev_some _))
    |succ d ih=>
      intro x s h0 h1 h2 hs
      by_cases c:x>0
      · have e : wrap64 (Int.tdiv x 10) = x / 10 := by rw [Int.tdiv_eq_ediv_of_nonneg h0]; exact wrap_id (by omega) (by omega)
        have hz:∀y:Int,((strOfNums [y])++s).size=1+s.size:=fun y=>by rw[ByteArray.size_append];rfl
        have hz1:∀y:Int,(strOfNums [y]).size=1:=fun y=>rfl
        rw[Int.pow_succ]at h1
        obtain⟨t,ht⟩:=ih (x/10) ((strOfNums [(wrap64 (48+(Int.tmod x 10)))%256])++s) (by omega) (by omega) (by omega) (by rw[hz];omega)
        refine⟨t,ev_shift ?_⟩
        simp only[laws_markText.l0]
        refine ev_pos c (ev_bindc rfl (ev_pos (by rw[hz1];omega) ?_))
        rw[e];exact ht
      · refine ⟨(⟨#[109]⟩ : ByteArray) ++ s, ev_shift ?_⟩
        simp only[laws_markText.l0]
        exact ev_neg c (ev_pos (by omega) (ev_some _))
def H_ValueS (x:S29) (n:Int):Prop:=∃t0:ByteArray,Ev (fun k=>laws_markText.f k (n+2)) t0∧x=(⟨n,(n+1),t0,(n+3)⟩:S29)
theorem laws_markValueS_mk (l:List S29) (g:Fine l) (n:Int) (h0:0≤n) (h1:n≤100000000000000):∃ys,Ev (fun k=>laws_markValueS.f k l n) (n+4*(l.length:Int),ys)∧ys.length=l.length∧∀i (hi:i<ys.length),H_ValueS ys[i] (n+4*(i:Int)):=by
  simp only[laws_markValueS.f]
  have hl:=g.len
  refine mark_loop (fun k xs n i=>laws_markValueS.l0 k xs n i) (H_ValueS) 4 200000000000000 (by omega) ?_ ?_ l hl n h0 (by omega)
  · intro k xs n;simp only[laws_markValueS.l0];exact if_neg (by omega)
  · intro n h0 h1 xs i hi hl
    obtain⟨t0,e_t0⟩:=laws_markText_mk (n+2) (by omega)
    refine⟨⟨n,(n+1),t0,(n+3)⟩,⟨t0,e_t0,rfl⟩,fun r hr=>ev_shift ?_⟩
    have w1:wrap64 (n+1)=n+1:=by rw[wrap_id (by omega) (by omega)]
    have w2:wrap64 (n+1+1)=n+2:=by rw[wrap_id (by omega) (by omega)];omega
    have w3:wrap64 (n+2+1)=n+3:=by rw[wrap_id (by omega) (by omega)];omega
    have w4:wrap64 (n+3+1)=n+4:=by rw[wrap_id (by omega) (by omega)];omega
    have wi:wrap64 ((i:Int)+1)=(i:Int)+1:=wrap_id (by omega) (by omega)
    have hset:∀a,rd_T29 (xs.set ((i:Int)).toNat a) (i:Int)=a:=fun a=>getD_set _ xs i hi a
    simp only[laws_markValueS.l0,Option.bind_some,w1,w2,w3,w4,wi,hset,List.set_set]
    rw[Int.toNat_natCast]at *
    repeat(first|exact hr|refine ev_pos (by omega) ?_|refine ev_bind e_t0 ?_)
theorem laws_markObject_mk (a0_0:Int) (a0_1:Int) (a0_2:ByteArray) (a0_3:Int) (l0_4:List (S29)) (l0_5:List (S29)) (a0_6:Int) (a0_7:Int) (a0_8:ByteArray) (a0_9:Int) (g_a0_0:Fine a0_0) (g_a0_1:Fine a0_1) (g_a0_2:Fine a0_2) (g_a0_3:Fine a0_3) (g_l0_4:Fine l0_4) (g_l0_5:Fine l0_5) (g_a0_6:Fine a0_6) (g_a0_7:Fine a0_7) (g_a0_8:Fine a0_8) (g_a0_9:Fine a0_9) (a1:Int) (h0:0≤a1) (h1:a1≤10000000000000):∃v,Ev (fun k=>laws_markObject.f k a0_0 a0_1 a0_2 a0_3 l0_4 l0_5 a0_6 a0_7 a0_8 a0_9 a1) v∧0≤v.1:=by
  simp only[laws_markObject.f]
  have l0:=g_l0_4.len
  obtain⟨y0,e0,_,_⟩:=laws_markValueS_mk l0_4 g_l0_4 a1 (by omega) (by omega)
  refine ?_
  have l1:=g_l0_5.len
  obtain⟨y1,e1,_,_⟩:=laws_markValueS_mk l0_5 g_l0_5 (a1+4*(l0_4.length:Int)) (by omega) (by omega)
  refine ?_
  exact⟨_,ev_bind e0 (ev_bind e1 (ev_some _)),(show 0≤((a1+4*(l0_4.length:Int))+4*(l0_5.length:Int)) by omega)⟩
def H_Int64S (x:Int) (n:Int):Prop:=x=n
theorem laws_markInt64S_mk (l:List Int) (g:Fine l) (n:Int) (h0:0≤n) (h1:n≤100000000000000):∃ys,Ev (fun k=>laws_markInt64S.f k l n) (n+1*(l.length:Int),ys)∧ys.length=l.length∧∀i (hi:i<ys.length),H_Int64S ys[i] (n+1*(i:Int)):=by
  simp only[laws_markInt64S.f]
  have hl:=g.len
  refine mark_loop (fun k xs n i=>laws_markInt64S.l0 k xs n i) (H_Int64S) 1 200000000000000 (by omega) ?_ ?_ l hl n h0 (by omega)
  · intro k xs n;simp only[laws_markInt64S.l0];exact if_neg (by omega)
  · intro n h0 h1 xs i hi hl
    refine⟨n,rfl,fun r hr=>ev_shift ?_⟩
    have w1:wrap64 (n+1)=n+1:=by rw[wrap_id (by omega) (by omega)]
    have wi:wrap64 ((i:Int)+1)=(i:Int)+1:=wrap_id (by omega) (by omega)
    simp only[laws_markInt64S.l0,Option.bind_some,w1,wi,List.set_set]
    rw[Int.toNat_natCast]at *
    repeat(first|exact hr|refine ev_pos (by omega) ?_)
theorem laws_heldInt64S_hd (l:List Int) (hl:l.length≤1048576) (n:Int) (h0:0≤n) (h1:n≤100000000000000) (h:∀i (hi:i<l.length),H_Int64S l[i] (n+1*(i:Int))):Ev (fun k=>laws_heldInt64S.f k l n) (n+1*(l.length:Int)):=by
  simp only[laws_heldInt64S.f]
  refine held_loop (fun k xs n i=>laws_heldInt64S.l0 k xs n i) (H_Int64S) 1 200000000000000 (by omega) ?_ ?_ l hl n h0 (by omega) h
  · intro k xs n;simp only[laws_heldInt64S.l0];exact if_neg (by omega)
  · intro n h0 h1 xs i hi hl hx r hr
    obtain hx:=hx
    refine ev_shift ?_
    have w1:wrap64 (n+1)=n+1:=by rw[wrap_id (by omega) (by omega)]
    have wi:wrap64 ((i:Int)+1)=(i:Int)+1:=wrap_id (by omega) (by omega)
    have hrd:rd xs (i:Int)=n:=((fun xs i h=>rd_get xs i h) xs i hi).trans hx
    simp only[laws_heldInt64S.l0,Option.bind_some,w1,wi,hrd]
    repeat(first|exact hr|refine ev_pos trivial ?_|refine ev_pos rfl ?_|refine ev_neg (bne_ff _) ?_|refine ev_pos (by omega) ?_)
def laws_FnExactRefsOf.Core:Prop:=∀(a0_0:Int) (a0_1:Int) (a0_2:ByteArray) (a0_3:Int) (l0_4:List (S29)) (l0_5:List (S29)) (a0_6:Int) (a0_7:Int) (a0_8:ByteArray) (a0_9:Int),Fine a0_0→Fine a0_1→Fine a0_2→Fine a0_3→Fine l0_4→Fine l0_5→Fine a0_6→Fine a0_7→Fine a0_8→Fine a0_9→∃r,Ev (fun k=>spec_RefsOf.f k a0_0 a0_1 a0_2 a0_3 l0_4 l0_5 a0_6 a0_7 a0_8 a0_9) r∧Ev (fun k=>impl_RefsOf.f k a0_0 a0_1 a0_2 a0_3 l0_4 l0_5 a0_6 a0_7 a0_8 a0_9) r∧Fine r
theorem close (core:laws_FnExactRefsOf.Core):laws_FnExactRefsOf.Pure:=by
  intro x0 w_x0
  suffices hh:Ev (fun k=>laws_FnExactRefsOf.f k x0.f0 x0.f1 x0.f2 x0.f3 x0.f4 x0.f5 x0.f6.f0 x0.f6.f1 x0.f6.f2 x0.f6.f3) true by
    obtain⟨K,hK⟩:=hh
    exact⟨K,hK K (Nat.le_refl _)⟩
  simp only[laws_FnExactRefsOf.f]
  obtain⟨v1,e1,b1,q1⟩:=laws_szObject_sz x0.f0 x0.f1 x0.f2 x0.f3 x0.f4 x0.f5 x0.f6.f0 x0.f6.f1 x0.f6.f2 x0.f6.f3 1048576 ((show(WInt .i64) x0.f0∧(WInt .i64) x0.f1∧WStr x0.f2∧(WInt .i64) x0.f3∧(WList wf26) x0.f4∧(WList wf26) x0.f5∧wf26 x0.f6 from w_x0).1) ((show(WInt .i64) x0.f0∧(WInt .i64) x0.f1∧WStr x0.f2∧(WInt .i64) x0.f3∧(WList wf26) x0.f4∧(WList wf26) x0.f5∧wf26 x0.f6 from w_x0).2.1) ((show(WInt .i64) x0.f0∧(WInt .i64) x0.f1∧WStr x0.f2∧(WInt .i64) x0.f3∧(WList wf26) x0.f4∧(WList wf26) x0.f5∧wf26 x0.f6 from w_x0).2.2.1) ((show(WInt .i64) x0.f0∧(WInt .i64) x0.f1∧WStr x0.f2∧(WInt .i64) x0.f3∧(WList wf26) x0.f4∧(WList wf26) x0.f5∧wf26 x0.f6 from w_x0).2.2.2.1) ((show(WInt .i64) x0.f0∧(WInt .i64) x0.f1∧WStr x0.f2∧(WInt .i64) x0.f3∧(WList wf26) x0.f4∧(WList wf26) x0.f5∧wf26 x0.f6 from w_x0).2.2.2.2.1) ((show(WInt .i64) x0.f0∧(WInt .i64) x0.f1∧WStr x0.f2∧(WInt .i64) x0.f3∧(WList wf26) x0.f4∧(WList wf26) x0.f5∧wf26 x0.f6 from w_x0).2.2.2.2.2.1) ((show(WInt .i64) x0.f6.f0∧(WInt .i64) x0.f6.f1∧WStr x0.f6.f2∧(WInt .i64) x0.f6.f3 from(show(WInt .i64) x0.f0∧(WInt .i64) x0.f1∧WStr x0.f2∧(WInt .i64) x0.f3∧(WList wf26) x0.f4∧(WList wf26) x0.f5∧wf26 x0.f6 from w_x0).2.2.2.2.2.2).1) ((show(WInt .i64) x0.f6.f0∧(WInt .i64) x0.f6.f1∧WStr x0.f6.f2∧(WInt .i64) x0.f6.f3 from(show(WInt .i64) x0.f0∧(WInt .i64) x0.f1∧WStr x0.f2∧(WInt .i64) x0.f3∧(WList wf26) x0.f4∧(WList wf26) x0.f5∧wf26 x0.f6 from w_x0).2.2.2.2.2.2).2.1) ((show(WInt .i64) x0.f6.f0∧(WInt .i64) x0.f6.f1∧WStr x0.f6.f2∧(WInt .i64) x0.f6.f3 from(show(WInt .i64) x0.f0∧(WInt .i64) x0.f1∧WStr x0.f2∧(WInt .i64) x0.f3∧(WList wf26) x0.f4∧(WList wf26) x0.f5∧wf26 x0.f6 from w_x0).2.2.2.2.2.2).2.2.1) ((show(WInt .i64) x0.f6.f0∧(WInt .i64) x0.f6.f1∧WStr x0.f6.f2∧(WInt .i64) x0.f6.f3 from(show(WInt .i64) x0.f0∧(WInt .i64) x0.f1∧WStr x0.f2∧(WInt .i64) x0.f3∧(WList wf26) x0.f4∧(WList wf26) x0.f5∧wf26 x0.f6 from w_x0).2.2.2.2.2.2).2.2.2) (by omega) (by omega)
  refine ev_bind e1 (ev_skip fun c1=>?_)
  obtain⟨g1_0,g1_1,g1_2,g1_3,g1_4,g1_5,g1_6,g1_7,g1_8,g1_9⟩:=q1 (by omega)
  obtain⟨v2,e2,g2⟩:=laws_toObject_to x0.f0 x0.f1 x0.f2 x0.f3 x0.f4 x0.f5 x0.f6.f0 x0.f6.f1 x0.f6.f2 x0.f6.f3 g1_0 g1_1 g1_2 g1_3 g1_4 g1_5 g1_6 g1_7 g1_8 g1_9
  refine ev_bind e2 ?_
  obtain⟨r,es,ei,gr⟩:=core v2.1 v2.2.1 v2.2.2.1 v2.2.2.2.1 v2.2.2.2.2.1 v2.2.2.2.2.2.1 v2.2.2.2.2.2.2.1 v2.2.2.2.2.2.2.2.1 v2.2.2.2.2.2.2.2.2.1 v2.2.2.2.2.2.2.2.2.2 (g2.fst) (g2.snd.fst) (g2.snd.snd.fst) (g2.snd.snd.snd.fst) (g2.snd.snd.snd.snd.fst) (g2.snd.snd.snd.snd.snd.fst) (g2.snd.snd.snd.snd.snd.snd.fst) (g2.snd.snd.snd.snd.snd.snd.snd.fst) (g2.snd.snd.snd.snd.snd.snd.snd.snd.fst) (g2.snd.snd.snd.snd.snd.snd.snd.snd.snd)
  refine ev_bind es ?_
  refine ev_bind e2 ?_
  refine ev_bind ei ?_
  obtain⟨m1,em1,lm1,hm1⟩:=laws_markInt64S_mk r gr 1 (by omega) (by omega)
  have gl1:=gr.len
  have eh1:=laws_heldInt64S_hd m1 (by omega) 1 (by omega) (by omega) hm1
  rw[lm1]at eh1
  have pm1:(0:Int)≤1+1*(r.length:Int):=by omega
  obtain⟨m2,em2,pm2⟩:=laws_markObject_mk v2.1 v2.2.1 v2.2.2.1 v2.2.2.2.1 v2.2.2.2.2.1 v2.2.2.2.2.2.1 v2.2.2.2.2.2.2.1 v2.2.2.2.2.2.2.2.1 v2.2.2.2.2.2.2.2.2.1 v2.2.2.2.2.2.2.2.2.2 (g2.fst) (g2.snd.fst) (g2.snd.snd.fst) (g2.snd.snd.snd.fst) (g2.snd.snd.snd.snd.fst) (g2.snd.snd.snd.snd.snd.fst) (g2.snd.snd.snd.snd.snd.snd.fst) (g2.snd.snd.snd.snd.snd.snd.snd.fst) (g2.snd.snd.snd.snd.snd.snd.snd.snd.fst) (g2.snd.snd.snd.snd.snd.snd.snd.snd.snd) 1 (by omega) (by omega)
  have p0_:Fine v2.1:=g2.fst
  have p1_:Fine v2.2.1:=g2.snd.fst
  have p2_:Fine v2.2.2.1:=g2.snd.snd.fst
  have p3_:Fine v2.2.2.2.1:=g2.snd.snd.snd.fst
  have p4_:Fine v2.2.2.2.2.1:=g2.snd.snd.snd.snd.fst
  have p5_:Fine v2.2.2.2.2.2.1:=g2.snd.snd.snd.snd.snd.fst
  have p6_:Fine v2.2.2.2.2.2.2.1:=g2.snd.snd.snd.snd.snd.snd.fst
  have p7_:Fine v2.2.2.2.2.2.2.2.1:=g2.snd.snd.snd.snd.snd.snd.snd.fst
  have p8_:Fine v2.2.2.2.2.2.2.2.2.1:=g2.snd.snd.snd.snd.snd.snd.snd.snd.fst
  have p9_:Fine v2.2.2.2.2.2.2.2.2.2:=g2.snd.snd.snd.snd.snd.snd.snd.snd.snd
  have p10_:Fine r:=gr
  repeat(first|refine ev_bind em1 ?_|refine ev_bind eh1 ?_|refine ev_bind em2 ?_|refine ev_neg (Int.not_lt.2 (by assumption)) ?_|refine ev_bind es ?_|refine ev_bind ei ?_|exact ev_some _|refine ev_pos trivial ?_|refine ev_pos rfl ?_|refine ev_neg (bne_ff _) ?_|refine ev_neg Bool.false_ne_true ?_|refine ev_neg id ?_|refine ev_bind e2 ?_|refine ev_bind (laws_eqInt64S_rf _ (by assumption)) ?_|refine ev_bind (laws_eqValue_rf _ _ _ _ (by assumption) (by assumption) (by assumption) (by assumption)) ?_|refine ev_bind (laws_eqValueS_rf _ (by assumption)) ?_|refine ev_bind (laws_eqObject_rf _ _ _ _ _ _ _ _ _ _ (by assumption) (by assumption) (by assumption) (by assumption) (by assumption) (by assumption) (by assumption) (by assumption) (by assumption) (by assumption)) ?_|(refine ev_shift ?_;simp only[laws_FnExactRefsOf.j0]))
end Go.Proofs.Ytengilknjiobiaa.PureFnExactRefsOf
