/- Printed functions: impl_Value__nil, impl_Value_117, impl_Object_values. -/
import Derived.Test.YtengilknjiobiaaYRoP0
import Derived.Test.YtengilknjiobiaaYRoPE
namespace Go.Proofs.Ytengilknjiobiaa.PFnExactRefsOf
open Go.RowKit Go.Proofs.YtengilknjiobiaaG Go.Proofs.YtengilknjiobiaaW.PrintWords Go.Proofs.YtengilknjiobiaaW.PrintLast Go.Proofs.YtengilknjiobiaaW.PrintMore
attribute [local go_sem] max2_int min2_int max_two min_two max_three min_three max_four min_four
set_option linter.unusedVariables false
set_option linter.unusedSimpArgs false
section
attribute [local go_sem high] eqA29
def impl_Value__nil.f (a1:Int):Option ((List (S29))):=if a1<0 then(none)else(if(wrap64 a1)>0 then(if 0≤(wrap64 a1)then(if([]:List (S29)).length+(wrap64 a1:Int).toNat<3518437208883 then((some (([]:List (S29))++List.replicate (wrap64 a1:Int).toNat z29:List (S29))).bind fun y272=>(if 0≤(y272.length:Int)then(some (y272.take (0:Int).toNat))else(none)))else(none))else(none))else(some ([]:List (S29))))
set_option maxHeartbeats 8000000 in
set_option maxRecDepth 100000 in
theorem impl_Value__nil.calls (a1:Int) (r:List (S29)) (w:World) (h:impl_Value__nil.f a1=some r):
  Calls Try.prog 126 #[.slice none 0 0,.int .i64 a1] w fun e w'=>∃v:Value,e= .returned (v)∧Kd.R k29 29 w' w.heap.size (fun _=>True) v r∧Below w.heap.size w w':=by
 have HB:=zM (Below.refl w.heap.size w)
 have H:(if a1<0 then(none)else(if(wrap64 a1)>0 then(if 0≤(wrap64 a1)then(if([]:List (S29)).length+(wrap64 a1:Int).toNat<3518437208883 then((some (([]:List (S29))++List.replicate (wrap64 a1:Int).toNat z29:List (S29))).bind fun a=>(if 0≤(a.length:Int)then(some (a.take (0:Int).toNat))else(none)))else(none))else(none))else(some ([]:List (S29)))))=some r:=h
 clear h
 by_cases l:a1<0
 ·(
 rw[if_pos l]at H
 exact absurd H (by simp))
 rw[if_neg l]at H
 have c3b0:=zF l
 clear l
 by_cases d:(wrap64 a1)>0
 ·(
 rw[if_pos d]at H
 have c4b0:decide (0<(wrap64 a1))=true:=zT d
 clear d
 obtain⟨ji5,hji5⟩:∃j_:Int,(wrap64 a1)=j_:=⟨_,rfl⟩
 replace H:(if 0≤(ji5)then(if([]:List (S29)).length+(ji5:Int).toNat<3518437208883 then((some (([]:List (S29))++List.replicate (ji5:Int).toNat z29:List (S29))).bind fun a=>(if 0≤(a.length:Int)then(some (a.take (0:Int).toNat))else(none)))else(none))else(none))=some r:=by first|(rw[hji5]at H;exact H)|(simp only[hji5]at H ⊢;exact H)
 (try rw[hji5]at c4b0)
 have hji5w:(IntKind.i64.wrap a1)=ji5:=(i64_w _).trans hji5
 by_cases i:0≤(ji5)
 ·(
 rw[if_pos i]at H
 have c6b0:=eq_true i
 have c6b1:=zT i
 clear i
 by_cases n:([]:List (S29)).length+(ji5:Int).toNat<3518437208883
 ·(
 rw[if_pos n]at H
 have A:=zM n
 clear n
 obtain⟨a,hy272⟩:∃s:List (S29),s=(([]:List (S29))++List.replicate (ji5:Int).toNat z29):=⟨_,rfl⟩
 replace H:(if 0≤(a.length:Int)then(some (a.take (0:Int).toNat))else(none))=some r:=by first|(rw[hy272];with_reducible exact H)|(have c:=(Option.bind_some _ _).symm.trans H;rw[hy272];with_reducible exact c)|(have c:=(Option.bind_some _ _).symm.trans H;with_reducible exact c)|with_reducible exact H|(rw[hy272];exact H)|exact H
 have B:=zM hy272
 clear hy272
 by_cases j:0≤(a.length:Int)
 ·(
 rw[if_pos j]at H
 have c8b0:=eq_true j
 have c8b1:=zT j
 clear j
 obtain⟨y275,hy275⟩:∃s:List (S29),s=(a.take (0:Int).toNat):=⟨_,rfl⟩
 replace H:(some y275)=some r:=by first|(rw[hy275];with_reducible exact H)|(have c:=(Option.bind_some _ _).symm.trans H;rw[hy275];with_reducible exact c)|(have c:=(Option.bind_some _ _).symm.trans H;with_reducible exact c)|with_reducible exact H|(rw[hy275];exact H)|exact H
 have x:=zM hy275
 clear hy275
 obtain rfl:=zI H
 go_enter Try.func126,Try.ntmps126
 go_wp2_with (first|(at_builtin;refine Kd.R_append_zeros k29 (w0:=w) w.heap.size rfl (.tmp 20) (.tmp 21) 43 3 29 (.agg #[(.int .i64 0),(.int .i64 0),(.string ⟨#[]⟩),(.int .i64 0)]) 40 rfl Try.underlying43 Try.underlying3 info29 rfl (by decide) (by omega) (.slice none 0 0) ([]:List (S29)) z29 (ji5:Int) (fun _=>True) rfl rfl (k29_mkM _ _ _ z29) ?aF ?aO (zzA) ?aB ?aS ?aL ?_;(case aB=>exact(sH HB.out));(case aF=>exact(fun _ _=>trivial));(case aO=>exact((Kd.R_nil _ _ _ _ (fun _=>True))));(case aS=>exact(below_size (sH HB.out)));(case aL=>have:=A.out;omega);intro K L ho hb hg hat;rw[←B.out]at ho;replace HB:=zM (hb);have p:=zM (ho);clear ho hb hg hat;obtain⟨D,E,F⟩:=Kd.R_slice p.out;subst F;have u:(0:Int)≤((a.length:Int):Int):=zzA;obtain⟨O,y,_,G,_⟩:=info_parts info29;have I:=cut_to (P:=Try.prog) 43 29 .i64 Try.underlying43 y D a.length E 0 (by omega) u (Kd.R_reads' p.out).2.1;have q:=Kd.R_take (m:=(0:Int).toNat) p.out (by omega);have z:y275.length=(0:Int).toNat:=(by rw[x.out,List.length_take];omega);rw[←x.out]at q;rw[←z]at q I;clear z y G p;have J:=zM q;clear q;replace u:=eq_true u))
 go_ret
 exact⟨_,by first|rfl|(simp[errW_none,errW_some]<;>rfl)|(simp only[←hji5];first|rfl|(simp[errW_none,errW_some]<;>rfl))|(simp[*,errW_none,errW_some]<;>rfl),by exact sE J.out,sb⟩)
 rw[if_neg j]at H
 exact absurd H (by simp))
 rw[if_neg n]at H
 exact absurd H (by simp))
 rw[if_neg i]at H
 exact absurd H (by simp))
 rw[if_neg d]at H
 have c4b0:decide (0<(wrap64 a1))=false:=zF d
 clear d
 obtain rfl:=zI H
 go_enter Try.func126,Try.ntmps126
 go_wp2
 go_ret
 exact⟨_,sq,by first|exact Kd.R_nil _ _ _ _ _|exact Kd.N_nil _ _ _ _ _|exact Kd.V_nil _ _ _ _ _|exact Kd.Q_nil _ _ _ _ _|exact Kd.S_nil _ _ _ _ _,sb⟩
end
section
attribute [local go_sem high] eqA29
mutual
def impl_Value_117.l0 : Nat → List (List (S29)) → Int → List (List (S29)) → Int → Int → Option ((List (S29)))
 |0,_,_,_,_,_=>none
 |k+1,x0,x3,x9,x10,x11=>if x11<x10 then(if 0≤x11 then(if x11<(x9.length:Int)then(if(wrap64 (x3+((rd_L5 x9 x11).length:Int)))<0 then(none)else(impl_Value_117.l0 k x0 (wrap64 (x3+((rd_L5 x9 x11).length:Int))) x9 x10 (wrap64 (x11+1))))else(none))else(none))else((impl_Value__nil.f x3).bind fun t279=>(impl_Value_117.l1 k t279 x0 (x0.length:Int) 0))
def impl_Value_117.l1 : Nat → List (S29) → List (List (S29)) → Int → Int → Option ((List (S29)))
 |0,_,_,_,_=>none
 |k+1,x6,x25,x26,x27=>if x27<x26 then(if 0≤x27 then(if x27<(x25.length:Int)then(if x6.length+(rd_L5 x25 x27).length<3518437208883 then(impl_Value_117.l1 k (x6++(rd_L5 x25 x27)) x25 x26 (wrap64 (x27+1)))else(none))else(none))else(none))else(some x6)
end
def impl_Value_117.f (k:Nat) (l0:List (List (S29))):Option ((List (S29))):=impl_Value_117.l0 k l0 0 l0 (l0.length:Int) 0
set_option maxHeartbeats 8000000 in
set_option maxRecDepth 100000 in
theorem impl_Value_117.calls (k:Nat) (A0:Option Addr) (c0:Nat) (l0:List (List (S29))) (r:List (S29)) (w:World) (hr0:Kd.C (Kd.slice 29 k29) w A0 l0.length l0) (hc0:l0.length≤c0) (h:impl_Value_117.f k l0=some r):
  Calls Try.prog 117 #[.slice A0 l0.length c0] w fun e w'=>∃F:Value,e= .returned (F)∧Kd.R k29 29 w' w.heap.size (fun _=>True) F r∧Below w.heap.size w w':=by
 have G:=zM hr0
 have ah:=zM hc0
 clear hr0 hc0
 have HB:=zM (Below.refl w.heap.size w)
 have H:(impl_Value_117.l0 k l0 0 l0 (l0.length:Int) 0)=some r:=h
 clear h
 have H':=zM H
 clear H
 go_enter Try.func117,Try.ntmps117
 go_wp2
 go_loopg [3,11] k (fun kq W X w'=>∃(d:Int) (c:Int),W= .int .i64 d∧X= .int .i64 c∧Aside0 (impl_Value_117.l0 kq l0 d l0 (l0.length:Int) c=some r)∧Aside0 (kq≤k)∧Aside0 (Below w.heap.size w w'))
 case atStart=>exact⟨(0),(0),sr,sr,H',⟨Nat.le_refl _⟩,⟨sb⟩⟩
 case round=>(
 clear H'
 obtain⟨d,c,rfl,rfl,HA,n,HB⟩:=hrel
 cases gk with
 |zero=>exact absurd HA.out (by simp[impl_Value_117.l0])
 |succ k1=>(
 have H:=HA.out
 clear HA
 simp only[impl_Value_117.l0]at H
 by_cases i:c<(l0.length:Int)
 ·(
 rw[if_pos i]at H
 have c2b0:=zT i
 clear i
 by_cases p:0≤c
 ·(
 rw[if_pos p]at H
 have c3b0:=zT p
 clear p
 by_cases q:c<(l0.length:Int)
 ·(
 rw[if_pos q]at H
 have c4b0:=zT q
 clear q
 by_cases s:(wrap64 (d+((rd_L5 l0 c).length:Int)))<0
 ·(
 rw[if_pos s]at H
 exact absurd H (by simp))
 rw[if_neg s]at H
 have c5b0:=zF s
 clear s
 have H':=zM H
 clear H
 have y:0≤(c:Int):=zzA
 have z:c<(l0.length:Int):=zzA
 obtain⟨ai,aj,ak,Y,I,J,K⟩:=at_L5 G.out c y z
 cases Y
 replace I:=sX HB I
 have al:=zM K
 have am:=zM J
 clear K J
 replace y:=eq_true y
 replace z:=eq_true z
 go_wp2
 go_roundg k1
 case measure=>have:=n.out;omega
 case rel=>exact⟨(wrap64 (d+((rd_L5 l0 c).length:Int))),(wrap64 (c+1)),sr,sr,H',⟨by have:=n.out;omega⟩,⟨sb⟩⟩)
 rw[if_neg q]at H
 exact absurd H (by simp))
 rw[if_neg p]at H
 exact absurd H (by simp))
 rw[if_neg i]at H
 have c2b0:=zF i
 clear i
 obtain⟨L,Z,H⟩:=sO H
 have H':=zM H
 clear H
 go_wp2_with (first|((with_reducible refine gate_callee (f:=126) rfl ?_);refine sC (some 24) Try.func126 #[.slice none 0 0,.int .i64 d] (impl_Value__nil.calls d L _ Z.out) ?_;rintro e w7 ⟨an,rfl,O,hb⟩;refine⟨_,rfl,?_⟩;have aa:=zM (Kd.R_lower O (below_size (sH HB.out)));replace HB:=sB HB hb;(try clear hb);(try clear O)))
 go_loopg [6,27] k1 (fun kq v6 ab w'=>∃(j:List (S29)) (a:Int),ab= .int .i64 a∧Aside0 (impl_Value_117.l1 kq j l0 (l0.length:Int) a=some r)∧Aside0 (kq≤k1)∧Aside0 (Kd.R k29 29 w' w.heap.size (fun _=>True) v6 j)∧Aside0 (Below w.heap.size w w'))
 case atStart=>exact⟨(L),(0),sr,H',⟨Nat.le_refl _⟩,⟨by exact sE aa.out⟩,⟨sb⟩⟩
 case round=>(
 clear H'
 try clear i
 try clear c2b0
 obtain⟨j,a,rfl,HA,Q,A,HB⟩:=hrel
 cases gk with
 |zero=>exact absurd HA.out (by simp[impl_Value_117.l1])
 |succ k2=>(
 have H:=HA.out
 clear HA
 simp only[impl_Value_117.l1]at H
 by_cases l:a<(l0.length:Int)
 ·(
 rw[if_pos l]at H
 have c8b0:=zT l
 clear l
 by_cases u:0≤a
 ·(
 rw[if_pos u]at H
 have c9b0:=zT u
 clear u
 by_cases v:a<(l0.length:Int)
 ·(
 rw[if_pos v]at H
 have c10b0:=zT v
 clear v
 by_cases x:j.length+(rd_L5 l0 a).length<3518437208883
 ·(
 rw[if_pos x]at H
 have ac:=zM x
 clear x
 obtain⟨y283,hy283⟩:∃y_:List (S29),y_=(j++(rd_L5 l0 a)):=⟨_,rfl⟩
 replace H:(impl_Value_117.l1 k2 y283 l0 (l0.length:Int) (wrap64 (a+1)))=some r:=by first|(rw[hy283];with_reducible exact H)|(have B:=(Option.bind_some _ _).symm.trans H;rw[hy283];with_reducible exact B)|(have B:=(Option.bind_some _ _).symm.trans H;with_reducible exact B)|with_reducible exact H|(rw[hy283];exact H)|exact H
 have ad:=zM hy283
 clear hy283
 have H':=zM H
 clear H
 have D:0≤(a:Int):=zzA
 have E:a<(l0.length:Int):=zzA
 obtain⟨ao,ap,aq,ae,S,T,U⟩:=at_L5 G.out a D E
 cases ae
 replace S:=sX HB S
 have af:=zM U
 have ar:=zM T
 clear U T
 replace D:=eq_true D
 replace E:=eq_true E
 go_wp2_with (first|((with_reducible refine gate_builtin (b:= .append) (xs:= #[.tmp 31,.tmp 32]) rfl ?_);at_builtin;refine Kd.R_append_rows k29 (w0:=w) w.heap.size rfl (.tmp 31) (.tmp 32) 43 29 (.agg #[(.int .i64 0),(.int .i64 0),(.string ⟨#[]⟩),(.int .i64 0)]) 40 rfl Try.underlying43 info29 rfl (by decide) (by omega) u6 j (rd_L5 l0 a) _ _ _ (fun _=>True) (fun _=>False) rfl rfl ?aO ?aR (fun _ _ h=>h) (fun _ h=>h.elim) ?aF ?aB ?aS ?aL ?_;(case aR=>exact sD (zC af.out HB.out));(case aB=>exact(sH HB.out));(case aF=>exact(fun _ _=>trivial));(case aO=>exact(sE A.out));(case aS=>exact(below_size (sH HB.out)));(case aL=>have:=ac.out;omega);intro au av ho hb hg hat;rw[←ad.out]at ho;replace HB:=zM (hb);have ag:=zM (ho);clear A;clear ho hb hg hat))
 go_roundg k2
 case measure=>have:=n.out;have:=Q.out;omega
 case rel=>exact⟨(y283),(wrap64 (a+1)),sr,H',⟨by have:=n.out;have:=Q.out;omega⟩,⟨by exact sE ag.out⟩,⟨sb⟩⟩)
 rw[if_neg x]at H
 exact absurd H (by simp))
 rw[if_neg v]at H
 exact absurd H (by simp))
 rw[if_neg u]at H
 exact absurd H (by simp))
 rw[if_neg l]at H
 have c8b0:=zF l
 clear l
 obtain rfl:=zI H
 go_wp2
 go_ret
 exact⟨_,sq,by exact sE A.out,sb⟩))))
end
section
attribute [local go_sem high] eqA29
def impl_Object_values.f (k:Nat) (a0_0:Int) (a0_1:Int) (a0_2:ByteArray) (a0_3:Int) (l0_4:List (S29)) (l0_5:List (S29)) (a0_6:Int) (a0_7:Int) (a0_8:ByteArray) (a0_9:Int):Option ((List (S29))):=(impl_Value_117.f k (([l0_4,l0_5]:List (List (S29))))).bind fun t290=>(if a0_1=2 then(if t290.length<3518437208883 then(some (t290++[(⟨a0_6,a0_7,a0_8,a0_9⟩:S29)]))else(none))else(some t290))
set_option maxHeartbeats 8000000 in
set_option maxRecDepth 100000 in
theorem impl_Object_values.calls (k:Nat) (a0_0:Int) (a0_1:Int) (a0_2:ByteArray) (a0_3:Int) (P0_4_:Nat→Prop) (A0_4:Option Addr) (c0_4:Nat) (l0_4:List (S29)) (P0_5_:Nat→Prop) (A0_5:Option Addr) (c0_5:Nat) (l0_5:List (S29)) (a0_6:Int) (a0_7:Int) (a0_8:ByteArray) (a0_9:Int) (r:List (S29)) (w:World) (hs0_4:Kd.V k29 29 w w.heap.size (fun a=>P0_4_ a) (.slice A0_4 l0_4.length c0_4) l0_4) (hs0_5:Kd.V k29 29 w w.heap.size (fun a=>P0_5_ a) (.slice A0_5 l0_5.length c0_5) l0_5) (h:impl_Object_values.f k a0_0 a0_1 a0_2 a0_3 l0_4 l0_5 a0_6 a0_7 a0_8 a0_9=some r):
  Calls Try.prog 94 #[.agg #[.int .i64 a0_0,.int .i64 a0_1,.string a0_2,.int .i64 a0_3,.slice A0_4 l0_4.length c0_4,.slice A0_5 l0_5.length c0_5,.int .i64 a0_6,.int .i64 a0_7,.string a0_8,.int .i64 a0_9]] w fun e w'=>∃T:Value,e= .returned (T)∧Kd.R k29 29 w' w.heap.size (fun a=>(w.heap.size≤a)) T r∧Below w.heap.size w w':=by
 have ai:=Try.underlying56
 have aj:=Try.underlying29
 have c:=zM (show Kd.V k29 29 w w.heap.size (fun a=>((P0_4_ a∨P0_5_ a)∨w.heap.size≤a)) (.slice A0_4 l0_4.length c0_4) l0_4 from Kd.V_mono hs0_4 (fun a hk=> .inl (.inl hk)))
 have d:=zM (show Kd.V k29 29 w w.heap.size (fun a=>((P0_4_ a∨P0_5_ a)∨w.heap.size≤a)) (.slice A0_5 l0_5.length c0_5) l0_5 from Kd.V_mono hs0_5 (fun a hk=> .inl (.inr hk)))
 have HB:=zM (Below.refl w.heap.size w)
 have H:((impl_Value_117.f k (([l0_4,l0_5]:List (List (S29))))).bind fun x=>(if a0_1=2 then(if x.length<3518437208883 then(some (x++[(⟨a0_6,a0_7,a0_8,a0_9⟩:S29)]))else(none))else(some x)))=some r:=h
 clear h
 obtain⟨y287,hy287⟩:∃J:List (List (S29)),J=(([l0_4,l0_5]:List (List (S29)))):=⟨_,rfl⟩
 replace H:((impl_Value_117.f k y287).bind fun x=>(if a0_1=2 then(if x.length<3518437208883 then(some (x++[(⟨a0_6,a0_7,a0_8,a0_9⟩:S29)]))else(none))else(some x)))=some r:=by first|(rw[hy287];with_reducible exact H)|(have A:=(Option.bind_some _ _).symm.trans H;rw[hy287];with_reducible exact A)|(have A:=(Option.bind_some _ _).symm.trans H;with_reducible exact A)|with_reducible exact H|(rw[hy287];exact H)|exact H
 have G:=zM hy287
 clear hy287
 obtain⟨x,U,H⟩:=sO H
 by_cases B:a0_1=2
 ·(
 rw[if_pos B]at H
 have c3b0:(a0_1==2)=true:=zE B
 have c3b1:(a0_1 !=2)=false:=zY B
 clear B
 by_cases I:x.length<3518437208883
 ·(
 rw[if_pos I]at H
 have X:=zM I
 clear I
 obtain⟨y293,hy293⟩:∃J:List (S29),J=(x++[(⟨a0_6,a0_7,a0_8,a0_9⟩:S29)]):=⟨_,rfl⟩
 replace H:(some y293)=some r:=by first|(rw[hy293];with_reducible exact H)|(have A:=(Option.bind_some _ _).symm.trans H;rw[hy293];with_reducible exact A)|(have A:=(Option.bind_some _ _).symm.trans H;with_reducible exact A)|with_reducible exact H|(rw[hy293];exact H)|exact H
 have Y:=zM hy293
 clear hy293
 obtain rfl:=zI H
 go_enter Try.func94,Try.ntmps94
 go_wp2_with (first|((with_reducible refine gate_dst (N:=1) rfl ?_);refine sV (N:=1) (cs:= #[.int .i64 a0_0,.int .i64 a0_1,.string a0_2,.int .i64 a0_3,.slice A0_4 l0_4.length c0_4,.slice A0_5 l0_5.length c0_5,.int .i64 a0_6,.int .i64 a0_7,.string a0_8,.int .i64 a0_9]) (t:=56) ?_;intro i hg Z hbox hb;have l:=zM (Kd.V_below (Kd.V_elderB (by(with_reducible repeat(first|apply Kd.V_alloc|apply Kd.V_drewN|apply Kd.V_drew));exact c.out) i (Nat.le_of_eq hg.symm)) hb);have n:=zM (Kd.V_below (Kd.V_elderB (by(with_reducible repeat(first|apply Kd.V_alloc|apply Kd.V_drewN|apply Kd.V_drew));exact d.out) i (Nat.le_of_eq hg.symm)) hb);have p:=sB HB hb;have q:=zM (hbox);have s:=sG HB hg;have v:=sG HB hg;clear c;clear d;clear HB;have c:=l;have d:=n;have HB:=p;have j:=q;have aa:=s;have y:=v;clear l n p q s v;clear hb hbox hg;obtain⟨ak,al,am,an,ao,ap,aq,ar,au,av,aw,ax,ay,az,aA,aC,aD,aE,aG,aH⟩:=cells10 j.out)|((with_reducible refine gate_dst (N:=8) rfl ?_);refine Kd.N_lit (Kd.slice 29 k29) _ 43 ?hg (N':=8) ?hd (xs:=([l0_4,l0_5]:List (List (S29)))) (inner:=[.slice A0_4 l0_4.length c0_4,.slice A0_5 l0_5.length c0_5]) (ok:=(fun a=>((P0_4_ a∨P0_5_ a)∨w.heap.size≤a)∧a≠i)) (okp:=(fun a=>((P0_4_ a∨P0_5_ a)∨w.heap.size≤a)∧a≠i)) ?hr ?hp (fun _ hk=>hk) ((show ∀a,Z.heap.size≤a→(fun a=>((P0_4_ a∨P0_5_ a)∨w.heap.size≤a)∧a≠i) a from fun a hk=>⟨(.inr (Nat.le_trans (below_size zzR) hk)),Kd.freshB (g:=i) (o:= .cells #[.int .i64 a0_0,.int .i64 a0_1,.string a0_2,.int .i64 a0_3,.slice A0_4 l0_4.length c0_4,.slice A0_5 l0_5.length c0_5,.int .i64 a0_6,.int .i64 a0_7,.string a0_8,.int .i64 a0_9] 56 (0,0)) (sT j.out) a hk⟩) _ (Nat.le_refl _)) (Below.refl _ _) (Nat.le_refl _) (by simp) ?_;(case hd=>rfl);(case hg=>rfl);(case hr=>first|(go_simp;done)|(go_simp;rfl));(case hp=>exact(Reps.one (show Kd.FK (Kd.slice 29 k29) _ _ l0_4 [.slice A0_4 l0_4.length c0_4] from(Kd.FK_slice_mk (Kd.V_reads' (Kd.V_mono (ok':=(fun a=>((P0_4_ a∨P0_5_ a)∨w.heap.size≤a)∧a≠i)) (c.out) (fun a hk=>⟨hk.1,hk.2⟩))).2.1 (Kd.V_F (Kd.V_mono (ok':=(fun a=>((P0_4_ a∨P0_5_ a)∨w.heap.size≤a)∧a≠i)) (c.out) (fun a hk=>⟨hk.1,hk.2⟩))))) (Reps.one (show Kd.FK (Kd.slice 29 k29) _ _ l0_5 [.slice A0_5 l0_5.length c0_5] from(Kd.FK_slice_mk (Kd.V_reads' (Kd.V_mono (ok':=(fun a=>((P0_4_ a∨P0_5_ a)∨w.heap.size≤a)∧a≠i)) (d.out) (fun a hk=>⟨hk.1,hk.2⟩))).2.1 (Kd.V_F (Kd.V_mono (ok':=(fun a=>((P0_4_ a∨P0_5_ a)∨w.heap.size≤a)∧a≠i)) (d.out) (fun a hk=>⟨hk.1,hk.2⟩))))) (Reps.none _ _))));intro ab w7 D hb K L;clear K L;(first|rw[←G.out]at D|(simp only[Int.reduceToNat]at D;rw[←G.out]at D));have l:=zM (Kd.V_elder' (by(with_reducible repeat(first|apply Kd.V_alloc|apply Kd.V_drewN|apply Kd.V_drew));exact c.out) (Kd.N_base D) hb);have n:=zM (Kd.V_elder' (by(with_reducible repeat(first|apply Kd.V_alloc|apply Kd.V_drewN|apply Kd.V_drew));exact d.out) (Kd.N_base D) hb);have p:=zM (Kd.N_lower D (below_size zzR));have q:=sK j hb;have s:=sB HB hb;clear c;clear d;clear j;clear HB;have c:=l;have d:=n;have u:=p;have j:=q;have HB:=s;clear l n p q s;clear hb D;obtain⟨O,Q,ac⟩:=Kd.N_slice u.out;subst ac)|((with_reducible refine gate_callee (f:=117) rfl ?_);refine sC (some 9) Try.func117 #[.slice O y287.length Q] (impl_Value_117.calls k _ _ y287 x _ ?side1 ?side2 U.out) ?_;(case side1=>exact sD ((Kd.N_reads' u.out).2.2));(case side2=>exact(Kd.N_reads' u.out).2.1);rintro e aI ⟨W,rfl,z,hb⟩;refine⟨_,rfl,?_⟩;have l:=zM (Kd.V_elder' (by(with_reducible repeat(first|apply Kd.V_alloc|apply Kd.V_drewN|apply Kd.V_drew));exact c.out) (Kd.R_base z) hb);have n:=zM (Kd.V_elder' (by(with_reducible repeat(first|apply Kd.V_alloc|apply Kd.V_drewN|apply Kd.V_drew));exact d.out) (Kd.R_base z) hb);have p:=zM (Kd.N_elder' (by(with_reducible repeat(first|apply Kd.N_alloc|apply Kd.N_drewN|apply Kd.N_drew));exact u.out) (Kd.R_base z) hb);have q:=zM (Kd.R_lower (Kd.R_newM (M:=fun a=>(w.heap.size≤a)) z (below_size zzR) (fun a S=>S)) (below_size zzR));have s:=sK j hb;have v:=sB HB hb;clear c;clear d;clear u;clear j;clear HB;have c:=l;have d:=n;have u:=p;have F:=q;have j:=s;have HB:=v;clear l n p q s v;(try clear hb);(try clear hk);(try clear z);obtain⟨aJ,aK,aM,aN,aQ,aT,aU,aV,aW,aX,aY,aZ,a0,a2,a3,a4,a5,a6,a7,a8⟩:=cells10 j.out)|((with_reducible refine gate_builtin (b:= .append) (xs:= #[.tmp 13,.tmp 16]) rfl ?_);at_builtin;refine Kd.R_append k29 (w0:=w) w.heap.size rfl (.tmp 13) (.tmp 16) 43 29 (.agg #[(.int .i64 0),(.int .i64 0),(.string ⟨#[]⟩),(.int .i64 0)]) 40 rfl Try.underlying43 info29 rfl (by decide) (by omega) W x (⟨a0_6,a0_7,a0_8,a0_9⟩:S29) [.int .i64 a0_6,.int .i64 a0_7,.string a0_8,.int .i64 a0_9] (fun a=>(w.heap.size≤a)) (fun _=>False) rfl rfl ?aP (fun _ hk=>hk.elim) ?aF ?aO ?aB ?aS ?aL ?_;(case aP=>exact k29_mkM _ _ _ (⟨a0_6,a0_7,a0_8,a0_9⟩:S29));(case aB=>exact zzR);(case aF=>exact(fun a hk=>(Nat.le_trans (below_size zzR) hk)));(case aO=>exact(by(with_reducible repeat(first|apply Kd.R_alloc|apply Kd.R_drewN|apply Kd.R_drew));exact Kd.R_mono F.out (fun _ hk=>hk.1)));(case aS=>exact(below_size zzR));(case aL=>have:=X.out;omega);intro a9 ba ho hb hg hat;rw[←Y.out]at ho;have l:=zM (Kd.V_afterv (ok:=(fun a=>((P0_4_ a∨P0_5_ a)∨w.heap.size≤a)∧some a≠(.slice O y287.length Q:Value).ownBlock∧a≠i)) (by(with_reducible repeat(first|apply Kd.V_alloc|apply Kd.V_drewN|apply Kd.V_drew));exact Kd.V_mono c.out (fun _ hk=>⟨⟨hk.1.1.1,⟨hk.1.2,hk.1.1.2⟩⟩,hk.2⟩)) hg hat);have n:=zM (Kd.V_afterv (ok:=(fun a=>((P0_4_ a∨P0_5_ a)∨w.heap.size≤a)∧some a≠(.slice O y287.length Q:Value).ownBlock∧a≠i)) (by(with_reducible repeat(first|apply Kd.V_alloc|apply Kd.V_drewN|apply Kd.V_drew));exact Kd.V_mono d.out (fun _ hk=>⟨⟨hk.1.1.1,⟨hk.1.2,hk.1.1.2⟩⟩,hk.2⟩)) hg hat);have p:=zM (blk_grown (g:=i) (o:= .cells #[.int .i64 a0_0,.int .i64 a0_1,.string a0_2,.int .i64 a0_3,.slice A0_4 l0_4.length c0_4,.slice A0_5 l0_5.length c0_5,.int .i64 a0_6,.int .i64 a0_7,.string a0_8,.int .i64 a0_9] 56 (0,0)) (sT j.out) hg (Kd.R_ne F.out j.out (by decide)));have q:=zM (Kd.N_afterv (ok:=(fun a=>((P0_4_ a∨P0_5_ a)∨w.heap.size≤a)∧a≠i)) (by(with_reducible repeat(first|apply Kd.N_alloc|apply Kd.N_drewN|apply Kd.N_drew));exact u.out) hg hat);have s:=zM (hb);have v:=zM (ho);clear c;clear d;clear j;clear u;clear HB;clear F;have c:=l;have d:=n;have j:=p;have u:=q;have HB:=s;have ad:=v;clear l n p q s v;clear ho hb hg hat))
 go_ret
 exact⟨_,sq,by exact sE ad.out,sb⟩)
 rw[if_neg I]at H
 exact absurd H (by simp))
 rw[if_neg B]at H
 have c3b0:(a0_1==2)=false:=zN B
 have c3b1:(a0_1 !=2)=true:=zX B
 obtain rfl:=zI H
 go_enter Try.func94,Try.ntmps94
 go_wp2_with (first|((with_reducible refine gate_dst (N:=1) rfl ?_);refine sV (N:=1) (cs:= #[.int .i64 a0_0,.int .i64 a0_1,.string a0_2,.int .i64 a0_3,.slice A0_4 l0_4.length c0_4,.slice A0_5 l0_5.length c0_5,.int .i64 a0_6,.int .i64 a0_7,.string a0_8,.int .i64 a0_9]) (t:=56) ?_;intro i hg ae hbox hb;have l:=zM (Kd.V_below (Kd.V_elderB (by(with_reducible repeat(first|apply Kd.V_alloc|apply Kd.V_drewN|apply Kd.V_drew));exact c.out) i (Nat.le_of_eq hg.symm)) hb);have n:=zM (Kd.V_below (Kd.V_elderB (by(with_reducible repeat(first|apply Kd.V_alloc|apply Kd.V_drewN|apply Kd.V_drew));exact d.out) i (Nat.le_of_eq hg.symm)) hb);have p:=sB HB hb;have q:=zM (hbox);have s:=sG HB hg;have v:=sG HB hg;clear c;clear d;clear HB;have c:=l;have d:=n;have HB:=p;have j:=q;have aa:=s;have y:=v;clear l n p q s v;clear hb hbox hg;obtain⟨bb,bc,bd,be,bf,bg,bh,bi,bj,bk,bl,bm,bn,bo,bp,bq,br,bs,bt,bu⟩:=cells10 j.out)|((with_reducible refine gate_dst (N:=8) rfl ?_);refine Kd.N_lit (Kd.slice 29 k29) _ 43 ?hg (N':=8) ?hd (xs:=([l0_4,l0_5]:List (List (S29)))) (inner:=[.slice A0_4 l0_4.length c0_4,.slice A0_5 l0_5.length c0_5]) (ok:=(fun a=>((P0_4_ a∨P0_5_ a)∨w.heap.size≤a)∧a≠i)) (okp:=(fun a=>((P0_4_ a∨P0_5_ a)∨w.heap.size≤a)∧a≠i)) ?hr ?hp (fun _ hk=>hk) ((show ∀a,ae.heap.size≤a→(fun a=>((P0_4_ a∨P0_5_ a)∨w.heap.size≤a)∧a≠i) a from fun a hk=>⟨(.inr (Nat.le_trans (below_size zzR) hk)),Kd.freshB (g:=i) (o:= .cells #[.int .i64 a0_0,.int .i64 a0_1,.string a0_2,.int .i64 a0_3,.slice A0_4 l0_4.length c0_4,.slice A0_5 l0_5.length c0_5,.int .i64 a0_6,.int .i64 a0_7,.string a0_8,.int .i64 a0_9] 56 (0,0)) (sT j.out) a hk⟩) _ (Nat.le_refl _)) (Below.refl _ _) (Nat.le_refl _) (by simp) ?_;(case hd=>rfl);(case hg=>rfl);(case hr=>first|(go_simp;done)|(go_simp;rfl));(case hp=>exact(Reps.one (show Kd.FK (Kd.slice 29 k29) _ _ l0_4 [.slice A0_4 l0_4.length c0_4] from(Kd.FK_slice_mk (Kd.V_reads' (Kd.V_mono (ok':=(fun a=>((P0_4_ a∨P0_5_ a)∨w.heap.size≤a)∧a≠i)) (c.out) (fun a hk=>⟨hk.1,hk.2⟩))).2.1 (Kd.V_F (Kd.V_mono (ok':=(fun a=>((P0_4_ a∨P0_5_ a)∨w.heap.size≤a)∧a≠i)) (c.out) (fun a hk=>⟨hk.1,hk.2⟩))))) (Reps.one (show Kd.FK (Kd.slice 29 k29) _ _ l0_5 [.slice A0_5 l0_5.length c0_5] from(Kd.FK_slice_mk (Kd.V_reads' (Kd.V_mono (ok':=(fun a=>((P0_4_ a∨P0_5_ a)∨w.heap.size≤a)∧a≠i)) (d.out) (fun a hk=>⟨hk.1,hk.2⟩))).2.1 (Kd.V_F (Kd.V_mono (ok':=(fun a=>((P0_4_ a∨P0_5_ a)∨w.heap.size≤a)∧a≠i)) (d.out) (fun a hk=>⟨hk.1,hk.2⟩))))) (Reps.none _ _))));intro ab bv E hb K L;clear K L;(first|rw[←G.out]at E|(simp only[Int.reduceToNat]at E;rw[←G.out]at E));have l:=zM (Kd.V_elder' (by(with_reducible repeat(first|apply Kd.V_alloc|apply Kd.V_drewN|apply Kd.V_drew));exact c.out) (Kd.N_base E) hb);have n:=zM (Kd.V_elder' (by(with_reducible repeat(first|apply Kd.V_alloc|apply Kd.V_drewN|apply Kd.V_drew));exact d.out) (Kd.N_base E) hb);have p:=zM (Kd.N_lower E (below_size zzR));have q:=sK j hb;have s:=sB HB hb;clear c;clear d;clear j;clear HB;have c:=l;have d:=n;have u:=p;have j:=q;have HB:=s;clear l n p q s;clear hb E;obtain⟨af,ag,ah⟩:=Kd.N_slice u.out;subst ah)|((with_reducible refine gate_callee (f:=117) rfl ?_);refine sC (some 9) Try.func117 #[.slice af y287.length ag] (impl_Value_117.calls k _ _ y287 x _ ?side1 ?side2 U.out) ?_;(case side1=>exact sD ((Kd.N_reads' u.out).2.2));(case side2=>exact(Kd.N_reads' u.out).2.1);rintro e bw ⟨W,rfl,z,hb⟩;refine⟨_,rfl,?_⟩;have l:=zM (Kd.V_elder' (by(with_reducible repeat(first|apply Kd.V_alloc|apply Kd.V_drewN|apply Kd.V_drew));exact c.out) (Kd.R_base z) hb);have n:=zM (Kd.V_elder' (by(with_reducible repeat(first|apply Kd.V_alloc|apply Kd.V_drewN|apply Kd.V_drew));exact d.out) (Kd.R_base z) hb);have p:=zM (Kd.N_elder' (by(with_reducible repeat(first|apply Kd.N_alloc|apply Kd.N_drewN|apply Kd.N_drew));exact u.out) (Kd.R_base z) hb);have q:=zM (Kd.R_lower (Kd.R_newM (M:=fun a=>(w.heap.size≤a)) z (below_size zzR) (fun a S=>S)) (below_size zzR));have s:=sK j hb;have v:=sB HB hb;clear c;clear d;clear u;clear j;clear HB;have c:=l;have d:=n;have u:=p;have F:=q;have j:=s;have HB:=v;clear l n p q s v;(try clear hb);(try clear hk);(try clear z);obtain⟨bx,bz,bA,bB,bC,bD,bE,bF,bG,bH,bI,bJ,bK,bL,bM,bN,bO,bP,bQ,bR⟩:=cells10 j.out))
 go_ret
 exact⟨_,sq,by(with_reducible repeat(first|apply Kd.R_alloc|apply Kd.R_drewN|apply Kd.R_drew));exact Kd.R_mono F.out (fun _ hk=>hk.1),sb⟩
end
end Go.Proofs.Ytengilknjiobiaa.PFnExactRefsOf
