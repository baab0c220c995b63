/- Printed functions: impl_Heap_object, laws_eqObject. -/
import Derived.Test.YtengilknjiobiaaYPoP0
import Derived.Test.YtengilknjiobiaaYPoP14
import Derived.Test.YtengilknjiobiaaYPoP21
import Derived.Test.YtengilknjiobiaaYPoP24
namespace Go.Proofs.Ytengilknjiobiaa.PFnExactPairsOf
open Go.RowKit Go.Proofs.YtengilknjiobiaaG Go.Proofs.YtengilknjiobiaaW.PrintWords Go.Proofs.YtengilknjiobiaaW.PrintLast Go.Proofs.YtengilknjiobiaaW.PrintMore
attribute [local go_sem] max2_int min2_int max_two min_two max_three min_three max_four min_four
set_option linter.unusedVariables false
set_option linter.unusedSimpArgs false
def impl_Heap_object.f (k:Nat) (a0_0:Int) (l0_1:List (S56)) (a1_0:Int) (a1_1:Int) (a1_2:ByteArray) (a1_3:Int):Option (Int):=(impl_refers.f a1_0).bind fun t384=>(if t384=true then((impl_Heap_find.f k a0_0 l0_1 a1_3).bind fun t385=>(some t385))else(some (-1)))
set_option maxHeartbeats 8000000 in
set_option maxRecDepth 100000 in
theorem impl_Heap_object.calls (k:Nat) (a0_0:Int) (A0_1:Option Addr) (c0_1:Nat) (l0_1:List (S56)) (a1_0:Int) (a1_1:Int) (a1_2:ByteArray) (a1_3:Int) (r:Int) (w:World) (hr0_1:Kd.C k56 w A0_1 l0_1.length l0_1) (hc0_1:l0_1.length≤c0_1) (h:impl_Heap_object.f k a0_0 l0_1 a1_0 a1_1 a1_2 a1_3=some r):
  Calls Try.prog 53 #[.agg #[.int .i64 a0_0,.slice A0_1 l0_1.length c0_1],.agg #[.int .i64 a1_0,.int .i64 a1_1,.string a1_2,.int .i64 a1_3]] w fun e w'=>e= .returned (.int .i64 r)∧Below w.heap.size w w':=by
 have y:=Try.underlying34
 have z:=Try.underlying29
 have o:=zM hr0_1
 have p:=zM hc0_1
 clear hr0_1 hc0_1
 have HB:=zM (Below.refl w.heap.size w)
 have H:((impl_refers.f a1_0).bind fun d=>(if d=true then((impl_Heap_find.f k a0_0 l0_1 a1_3).bind fun g=>(some g))else(some (-1))))=some r:=h
 clear h
 obtain⟨d,l,H⟩:=sO H
 by_cases c:d=true
 ·(
 subst c
 rewrite[if_pos rfl]at H
 obtain⟨g,q,H⟩:=sO H
 obtain rfl:=zI H
 go_enter Try.func53,Try.ntmps53
 go_wp2_with (first|((with_reducible refine gate_dst (N:=2) rfl ?_);refine sV (N:=2) (cs:= #[.int .i64 a0_0,.slice A0_1 l0_1.length c0_1]) (t:=34) ?_;intro s hg A hbox hb;have a:=zM (hbox);have u:=sG HB hg;have m:=sG HB hg;replace HB:=sB HB hb;clear hb hbox hg)|((with_reducible refine gate_dst (N:=3) rfl ?_);refine sV (N:=3) (cs:= #[.int .i64 a1_0,.int .i64 a1_1,.string a1_2,.int .i64 a1_3]) (t:=29) ?_;intro v hg B hbox hb;have b:=zM (hbox);have x:=sG HB hg;have n:=sG HB hg;replace HB:=sB HB hb;have i:=sN a hg;have j:=sM a hg;replace a:=sK a hb;clear hb hbox hg;have D:=j.out;have E:=i.out;obtain⟨F,G,I,J,K,L,M,O⟩:=cells4 b.out)|((with_reducible refine gate_callee (f:=57) rfl ?_);refine sC (some 7) Try.func57 #[.int .i64 a1_0] (impl_refers.calls a1_0 true _ l.out) ?_;rintro e w' ⟨rfl,⟨nd,rfl⟩⟩;refine⟨_,rfl,?_⟩;obtain⟨P,Q,R,S⟩:=cells2 a.out)|((with_reducible refine gate_callee (f:=78) rfl ?_);refine sC (some 12) Try.func78 #[.agg #[.int .i64 a0_0,.slice A0_1 l0_1.length c0_1],.int .i64 a1_3] (impl_Heap_find.calls k a0_0 _ _ l0_1 a1_3 g _ ?side1 ?side2 q.out) ?_;(case side1=>exact sD (zC o.out zzR));(case side2=>exact p.out);rintro e T ⟨rfl,hb⟩;refine⟨_,rfl,?_⟩;replace a:=sK a hb;replace b:=sK b hb;replace HB:=sB HB hb;(try clear hb)))
 go_ret
 exact⟨sq,sb⟩)
 replace c:=zB c
 subst c
 rewrite[if_neg zQ]at H
 obtain rfl:=zI H
 go_enter Try.func53,Try.ntmps53
 go_wp2_with (first|((with_reducible refine gate_dst (N:=2) rfl ?_);refine sV (N:=2) (cs:= #[.int .i64 a0_0,.slice A0_1 l0_1.length c0_1]) (t:=34) ?_;intro s hg U hbox hb;have a:=zM (hbox);have u:=sG HB hg;have m:=sG HB hg;replace HB:=sB HB hb;clear hb hbox hg)|((with_reducible refine gate_dst (N:=3) rfl ?_);refine sV (N:=3) (cs:= #[.int .i64 a1_0,.int .i64 a1_1,.string a1_2,.int .i64 a1_3]) (t:=29) ?_;intro v hg V hbox hb;have b:=zM (hbox);have x:=sG HB hg;have n:=sG HB hg;replace HB:=sB HB hb;have i:=sN a hg;have j:=sM a hg;replace a:=sK a hb;clear hb hbox hg;have W:=j.out;have X:=i.out;obtain⟨Y,Z,aa,ab,ac,ad,ae,af⟩:=cells4 b.out)|((with_reducible refine gate_callee (f:=57) rfl ?_);refine sC (some 7) Try.func57 #[.int .i64 a1_0] (impl_refers.calls a1_0 false _ l.out) ?_;rintro e w' ⟨rfl,⟨nd,rfl⟩⟩;refine⟨_,rfl,?_⟩))
 go_ret
 exact⟨sq,sb⟩
def laws_eqObject.f (k:Nat) (a0_0:Int) (a0_1:Int) (a0_2:ByteArray) (a0_3:Int) (l0_4:List (S29)) (l0_5:List (S29)) (a0_6:Int) (a0_7:Int) (a0_8:ByteArray) (a0_9:Int) (a1_0:Int) (a1_1:Int) (a1_2:ByteArray) (a1_3:Int) (l1_4:List (S29)) (l1_5:List (S29)) (a1_6:Int) (a1_7:Int) (a1_8:ByteArray) (a1_9:Int):Option (Bool):=if a0_0=a1_0 then(if a0_1=a1_1 then(if a0_2.toList=a1_2.toList then(if a0_3=a1_3 then((laws_eqValueS.f k l0_4 l1_4).bind fun t424=>(if t424=true then((laws_eqValueS.f k l0_5 l1_5).bind fun t425=>(if t425=true then((laws_eqValue.f a0_6 a0_7 a0_8 a0_9 a1_6 a1_7 a1_8 a1_9).bind fun t426=>(if t426=true then(some true)else(some false)))else(some false)))else(some false)))else(some false))else(some false))else(some false))else(some false)
set_option maxHeartbeats 8000000 in
set_option maxRecDepth 100000 in
theorem laws_eqObject.calls (k:Nat) (a0_0:Int) (a0_1:Int) (a0_2:ByteArray) (a0_3:Int) (A0_4:Option Addr) (c0_4:Nat) (l0_4:List (S29)) (A0_5:Option Addr) (c0_5:Nat) (l0_5:List (S29)) (a0_6:Int) (a0_7:Int) (a0_8:ByteArray) (a0_9:Int) (a1_0:Int) (a1_1:Int) (a1_2:ByteArray) (a1_3:Int) (A1_4:Option Addr) (c1_4:Nat) (l1_4:List (S29)) (A1_5:Option Addr) (c1_5:Nat) (l1_5:List (S29)) (a1_6:Int) (a1_7:Int) (a1_8:ByteArray) (a1_9:Int) (r:Bool) (w:World) (hr0_4:Kd.C k29 w A0_4 l0_4.length l0_4) (hc0_4:l0_4.length≤c0_4) (hr0_5:Kd.C k29 w A0_5 l0_5.length l0_5) (hc0_5:l0_5.length≤c0_5) (hr1_4:Kd.C k29 w A1_4 l1_4.length l1_4) (hc1_4:l1_4.length≤c1_4) (hr1_5:Kd.C k29 w A1_5 l1_5.length l1_5) (hc1_5:l1_5.length≤c1_5) (h:laws_eqObject.f k a0_0 a0_1 a0_2 a0_3 l0_4 l0_5 a0_6 a0_7 a0_8 a0_9 a1_0 a1_1 a1_2 a1_3 l1_4 l1_5 a1_6 a1_7 a1_8 a1_9=some r):
  Calls Try.prog 30 #[.agg #[.int .i64 a0_0,.int .i64 a0_1,.string a0_2,.int .i64 a0_3,.slice A0_4 l0_4.length c0_4,.slice A0_5 l0_5.length c0_5,.int .i64 a0_6,.int .i64 a0_7,.string a0_8,.int .i64 a0_9],.agg #[.int .i64 a1_0,.int .i64 a1_1,.string a1_2,.int .i64 a1_3,.slice A1_4 l1_4.length c1_4,.slice A1_5 l1_5.length c1_5,.int .i64 a1_6,.int .i64 a1_7,.string a1_8,.int .i64 a1_9]] w fun e w'=>e= .returned (.bool r)∧Below w.heap.size w w':=by
 have P:=Try.underlying56
 have Q:=Try.underlying29
 have u:=zM hr0_4
 have v:=zM hc0_4
 clear hr0_4 hc0_4
 have E:=zM hr0_5
 have F:=zM hc0_5
 clear hr0_5 hc0_5
 have x:=zM hr1_4
 have y:=zM hc1_4
 clear hr1_4 hc1_4
 have G:=zM hr1_5
 have I:=zM hc1_5
 clear hr1_5 hc1_5
 have HB:=zM (Below.refl w.heap.size w)
 have H:(if a0_0=a1_0 then(if a0_1=a1_1 then(if a0_2.toList=a1_2.toList then(if a0_3=a1_3 then((laws_eqValueS.f k l0_4 l1_4).bind fun J=>(if J=true then((laws_eqValueS.f k l0_5 l1_5).bind fun K=>(if K=true then((laws_eqValue.f a0_6 a0_7 a0_8 a0_9 a1_6 a1_7 a1_8 a1_9).bind fun L=>(if L=true then(some true)else(some false)))else(some false)))else(some false)))else(some false))else(some false))else(some false))else(some false))=some r:=h
 clear h
 by_cases g:a0_0=a1_0
 ·(
 rw[if_pos g]at H
 have c3b0:(a0_0==a1_0)=true:=zE g
 have c3b1:(a0_0 !=a1_0)=false:=zY g
 clear g
 by_cases i:a0_1=a1_1
 ·(
 rw[if_pos i]at H
 have c4b0:(a0_1==a1_1)=true:=zE i
 have c4b1:(a0_1 !=a1_1)=false:=zY i
 clear i
 by_cases j:a0_2.toList=a1_2.toList
 ·(
 rw[if_pos j]at H
 have c5b0:(a0_2.toList==a1_2.toList)=true:=zE j
 have c5b1:(a0_2.toList !=a1_2.toList)=false:=zY j
 clear j
 by_cases l:a0_3=a1_3
 ·(
 rw[if_pos l]at H
 have c6b0:(a0_3==a1_3)=true:=zE l
 have c6b1:(a0_3 !=a1_3)=false:=zY l
 clear l
 obtain⟨J,z,H⟩:=sO H
 by_cases A:J=true
 ·(
 subst A
 rewrite[if_pos rfl]at H
 obtain⟨K,M,H⟩:=sO H
 by_cases B:K=true
 ·(
 subst B
 rewrite[if_pos rfl]at H
 obtain⟨L,O,H⟩:=sO H
 by_cases D:L=true
 ·(
 subst D
 rewrite[if_pos rfl]at H
 obtain rfl:=zI H
 go_enter Try.func30,Try.ntmps30
 go_wp2_with (first|((with_reducible refine gate_dst (N:=2) rfl ?_);refine sV (N:=2) (cs:= #[.int .i64 a0_0,.int .i64 a0_1,.string a0_2,.int .i64 a0_3,.slice A0_4 l0_4.length c0_4,.slice A0_5 l0_5.length c0_5,.int .i64 a0_6,.int .i64 a0_7,.string a0_8,.int .i64 a0_9]) (t:=56) ?_;intro m hg R hbox hb;have a:=zM (hbox);have n:=sG HB hg;have o:=sG HB hg;replace HB:=sB HB hb;clear hb hbox hg)|((with_reducible refine gate_dst (N:=3) rfl ?_);refine sV (N:=3) (cs:= #[.int .i64 a1_0,.int .i64 a1_1,.string a1_2,.int .i64 a1_3,.slice A1_4 l1_4.length c1_4,.slice A1_5 l1_5.length c1_5,.int .i64 a1_6,.int .i64 a1_7,.string a1_8,.int .i64 a1_9]) (t:=56) ?_;intro p hg S hbox hb;have b:=zM (hbox);have q:=sG HB hg;have s:=sG HB hg;replace HB:=sB HB hb;have c:=sN a hg;have d:=sM a hg;replace a:=sK a hb;clear hb hbox hg;have T:=c.out;have U:=d.out;obtain⟨V,W,X,Y,Z,aa,ab,ac,ad,ae,af,ag,ah,ai,aj,ak,al,am,an,ao⟩:=cells10 a.out;obtain⟨ap,aq,ar,au,av,aw,ax,ay,az,aA,aB,aC,aD,aE,aF,aG,aH,aI,aJ,aK⟩:=cells10 b.out)|((with_reducible refine gate_callee (f:=21) rfl ?_);refine sC (some 29) Try.func21 #[.slice A0_4 l0_4.length c0_4,.slice A1_4 l1_4.length c1_4] (laws_eqValueS.calls k _ _ l0_4 _ _ l1_4 true _ ?side1 ?side2 ?side3 ?side4 z.out) ?_;(case side1=>exact sD (zC u.out HB.out));(case side2=>exact v.out);(case side3=>exact sD (zC x.out HB.out));(case side4=>exact y.out);rintro e aL ⟨rfl,hb⟩;refine⟨_,rfl,?_⟩;replace a:=sK a hb;replace b:=sK b hb;replace HB:=sB HB hb;(try clear hb);obtain⟨aM,aN,aO,aP,aQ,aR,aS,aT,aU,aV,aW,aX,aY,aZ,a0,a1,a2,a3,a4,a5⟩:=cells10 a.out;obtain⟨a6,a7,a8,a9,ba,bb,bc,bd,be,bf,bg,bh,bi,bj,bk,bl,bm,bn,bo,bp⟩:=cells10 b.out)|((with_reducible refine gate_callee (f:=21) rfl ?_);refine sC (some 35) Try.func21 #[.slice A0_5 l0_5.length c0_5,.slice A1_5 l1_5.length c1_5] (laws_eqValueS.calls k _ _ l0_5 _ _ l1_5 true _ ?side1 ?side2 ?side3 ?side4 M.out) ?_;(case side1=>exact sD (zC E.out HB.out));(case side2=>exact F.out);(case side3=>exact sD (zC G.out HB.out));(case side4=>exact I.out);rintro e bq ⟨rfl,hb⟩;refine⟨_,rfl,?_⟩;replace a:=sK a hb;replace b:=sK b hb;replace HB:=sB HB hb;(try clear hb);obtain⟨br,bs,bt,bu,bv,bw,bx,bz,bA,bB,bC,bD,bE,bF,bG,bH,bI,bJ,bK,bL⟩:=cells10 a.out;obtain⟨bM,bN,bO,bP,bQ,bR,bS,bT,bU,bV,bW,bX,bY,bZ,b0,b1,b2,b3,b4,b5⟩:=cells10 b.out)|((with_reducible refine gate_callee (f:=15) rfl ?_);refine sC (some 41) Try.func15 #[.agg #[.int .i64 a0_6,.int .i64 a0_7,.string a0_8,.int .i64 a0_9],.agg #[.int .i64 a1_6,.int .i64 a1_7,.string a1_8,.int .i64 a1_9]] (laws_eqValue.calls a0_6 a0_7 a0_8 a0_9 a1_6 a1_7 a1_8 a1_9 true _ O.out) ?_;rintro e b6 ⟨rfl,hb⟩;refine⟨_,rfl,?_⟩;replace a:=sK a hb;replace b:=sK b hb;replace HB:=sB HB hb;(try clear hb)))
 go_ret
 exact⟨sq,sb⟩)
 replace D:=zB D
 subst D
 rewrite[if_neg zQ]at H
 obtain rfl:=zI H
 go_enter Try.func30,Try.ntmps30
 go_wp2_with (first|((with_reducible refine gate_dst (N:=2) rfl ?_);refine sV (N:=2) (cs:= #[.int .i64 a0_0,.int .i64 a0_1,.string a0_2,.int .i64 a0_3,.slice A0_4 l0_4.length c0_4,.slice A0_5 l0_5.length c0_5,.int .i64 a0_6,.int .i64 a0_7,.string a0_8,.int .i64 a0_9]) (t:=56) ?_;intro m hg b7 hbox hb;have a:=zM (hbox);have n:=sG HB hg;have o:=sG HB hg;replace HB:=sB HB hb;clear hb hbox hg)|((with_reducible refine gate_dst (N:=3) rfl ?_);refine sV (N:=3) (cs:= #[.int .i64 a1_0,.int .i64 a1_1,.string a1_2,.int .i64 a1_3,.slice A1_4 l1_4.length c1_4,.slice A1_5 l1_5.length c1_5,.int .i64 a1_6,.int .i64 a1_7,.string a1_8,.int .i64 a1_9]) (t:=56) ?_;intro p hg b8 hbox hb;have b:=zM (hbox);have q:=sG HB hg;have s:=sG HB hg;replace HB:=sB HB hb;have c:=sN a hg;have d:=sM a hg;replace a:=sK a hb;clear hb hbox hg;have b9:=c.out;have ca:=d.out;obtain⟨cb,cc,cd,ce,cf,cg,ch,ci,cj,ck,cl,cm,cn,co,cp,cq,cr,ct,cu,cv⟩:=cells10 a.out;obtain⟨cw,cx,cy,cz,cA,cB,cC,cD,cE,cF,cG,cH,cI,cJ,cK,cL,cM,cN,cO,cP⟩:=cells10 b.out)|((with_reducible refine gate_callee (f:=21) rfl ?_);refine sC (some 29) Try.func21 #[.slice A0_4 l0_4.length c0_4,.slice A1_4 l1_4.length c1_4] (laws_eqValueS.calls k _ _ l0_4 _ _ l1_4 true _ ?side1 ?side2 ?side3 ?side4 z.out) ?_;(case side1=>exact sD (zC u.out HB.out));(case side2=>exact v.out);(case side3=>exact sD (zC x.out HB.out));(case side4=>exact y.out);rintro e cQ ⟨rfl,hb⟩;refine⟨_,rfl,?_⟩;replace a:=sK a hb;replace b:=sK b hb;replace HB:=sB HB hb;(try clear hb);obtain⟨cR,cS,cT,cU,cV,cW,cX,cY,cZ,c0,c1,c2,c7,c9,da,db,dc,dd,de,df⟩:=cells10 a.out;obtain⟨dg,dh,di,dj,dk,dl,dm,dn,dp,dq,dr,ds,dt,du,dv,dw,dx,dy,dz,dA⟩:=cells10 b.out)|((with_reducible refine gate_callee (f:=21) rfl ?_);refine sC (some 35) Try.func21 #[.slice A0_5 l0_5.length c0_5,.slice A1_5 l1_5.length c1_5] (laws_eqValueS.calls k _ _ l0_5 _ _ l1_5 true _ ?side1 ?side2 ?side3 ?side4 M.out) ?_;(case side1=>exact sD (zC E.out HB.out));(case side2=>exact F.out);(case side3=>exact sD (zC G.out HB.out));(case side4=>exact I.out);rintro e dB ⟨rfl,hb⟩;refine⟨_,rfl,?_⟩;replace a:=sK a hb;replace b:=sK b hb;replace HB:=sB HB hb;(try clear hb);obtain⟨dC,dD,dE,dF,dG,dH,dI,dJ,dK,dL,dM,dN,dO,dP,dQ,dR,dS,dT,dU,dV⟩:=cells10 a.out;obtain⟨dW,dX,dY,dZ,d0,d1,d2,d3,d4,d5,d6,d7,d8,d9,ea,eb,ec,ed,ee,ef⟩:=cells10 b.out)|((with_reducible refine gate_callee (f:=15) rfl ?_);refine sC (some 41) Try.func15 #[.agg #[.int .i64 a0_6,.int .i64 a0_7,.string a0_8,.int .i64 a0_9],.agg #[.int .i64 a1_6,.int .i64 a1_7,.string a1_8,.int .i64 a1_9]] (laws_eqValue.calls a0_6 a0_7 a0_8 a0_9 a1_6 a1_7 a1_8 a1_9 false _ O.out) ?_;rintro e eg ⟨rfl,hb⟩;refine⟨_,rfl,?_⟩;replace a:=sK a hb;replace b:=sK b hb;replace HB:=sB HB hb;(try clear hb)))
 go_ret
 exact⟨sq,sb⟩)
 replace B:=zB B
 subst B
 rewrite[if_neg zQ]at H
 obtain rfl:=zI H
 go_enter Try.func30,Try.ntmps30
 go_wp2_with (first|((with_reducible refine gate_dst (N:=2) rfl ?_);refine sV (N:=2) (cs:= #[.int .i64 a0_0,.int .i64 a0_1,.string a0_2,.int .i64 a0_3,.slice A0_4 l0_4.length c0_4,.slice A0_5 l0_5.length c0_5,.int .i64 a0_6,.int .i64 a0_7,.string a0_8,.int .i64 a0_9]) (t:=56) ?_;intro m hg eh hbox hb;have a:=zM (hbox);have n:=sG HB hg;have o:=sG HB hg;replace HB:=sB HB hb;clear hb hbox hg)|((with_reducible refine gate_dst (N:=3) rfl ?_);refine sV (N:=3) (cs:= #[.int .i64 a1_0,.int .i64 a1_1,.string a1_2,.int .i64 a1_3,.slice A1_4 l1_4.length c1_4,.slice A1_5 l1_5.length c1_5,.int .i64 a1_6,.int .i64 a1_7,.string a1_8,.int .i64 a1_9]) (t:=56) ?_;intro p hg ei hbox hb;have b:=zM (hbox);have q:=sG HB hg;have s:=sG HB hg;replace HB:=sB HB hb;have c:=sN a hg;have d:=sM a hg;replace a:=sK a hb;clear hb hbox hg;have ej:=c.out;have ek:=d.out;obtain⟨el,em,en,eo,ep,er,es,et,eu,ev,ew,ex,ey,ez,eA,eB,eC,eD,eE,eF⟩:=cells10 a.out;obtain⟨eG,eH,eI,eJ,eK,eL,eM,eN,eO,eP,eQ,eR,eS,eT,eU,eV,eW,eX,eY,eZ⟩:=cells10 b.out)|((with_reducible refine gate_callee (f:=21) rfl ?_);refine sC (some 29) Try.func21 #[.slice A0_4 l0_4.length c0_4,.slice A1_4 l1_4.length c1_4] (laws_eqValueS.calls k _ _ l0_4 _ _ l1_4 true _ ?side1 ?side2 ?side3 ?side4 z.out) ?_;(case side1=>exact sD (zC u.out HB.out));(case side2=>exact v.out);(case side3=>exact sD (zC x.out HB.out));(case side4=>exact y.out);rintro e e0 ⟨rfl,hb⟩;refine⟨_,rfl,?_⟩;replace a:=sK a hb;replace b:=sK b hb;replace HB:=sB HB hb;(try clear hb);obtain⟨e1,e2,e3,e4,e5,e6,e7,e8,e9,fa,fb,fc,fd,fe,ff,fg,fh,fi,fj,fk⟩:=cells10 a.out;obtain⟨fl,fm,fn,fo,fp,fq,fr,fs,ft,fu,fv,fw,fx,fy,fz,fA,fB,fC,fD,fE⟩:=cells10 b.out)|((with_reducible refine gate_callee (f:=21) rfl ?_);refine sC (some 35) Try.func21 #[.slice A0_5 l0_5.length c0_5,.slice A1_5 l1_5.length c1_5] (laws_eqValueS.calls k _ _ l0_5 _ _ l1_5 false _ ?side1 ?side2 ?side3 ?side4 M.out) ?_;(case side1=>exact sD (zC E.out HB.out));(case side2=>exact F.out);(case side3=>exact sD (zC G.out HB.out));(case side4=>exact I.out);rintro e fF ⟨rfl,hb⟩;refine⟨_,rfl,?_⟩;replace a:=sK a hb;replace b:=sK b hb;replace HB:=sB HB hb;(try clear hb)))
 go_ret
 exact⟨sq,sb⟩)
 replace A:=zB A
 subst A
 rewrite[if_neg zQ]at H
 obtain rfl:=zI H
 go_enter Try.func30,Try.ntmps30
 go_wp2_with (first|((with_reducible refine gate_dst (N:=2) rfl ?_);refine sV (N:=2) (cs:= #[.int .i64 a0_0,.int .i64 a0_1,.string a0_2,.int .i64 a0_3,.slice A0_4 l0_4.length c0_4,.slice A0_5 l0_5.length c0_5,.int .i64 a0_6,.int .i64 a0_7,.string a0_8,.int .i64 a0_9]) (t:=56) ?_;intro m hg fG hbox hb;have a:=zM (hbox);have n:=sG HB hg;have o:=sG HB hg;replace HB:=sB HB hb;clear hb hbox hg)|((with_reducible refine gate_dst (N:=3) rfl ?_);refine sV (N:=3) (cs:= #[.int .i64 a1_0,.int .i64 a1_1,.string a1_2,.int .i64 a1_3,.slice A1_4 l1_4.length c1_4,.slice A1_5 l1_5.length c1_5,.int .i64 a1_6,.int .i64 a1_7,.string a1_8,.int .i64 a1_9]) (t:=56) ?_;intro p hg fH hbox hb;have b:=zM (hbox);have q:=sG HB hg;have s:=sG HB hg;replace HB:=sB HB hb;have c:=sN a hg;have d:=sM a hg;replace a:=sK a hb;clear hb hbox hg;have fI:=c.out;have fJ:=d.out;obtain⟨fK,fL,fM,fN,fO,fP,fQ,fR,fS,fT,fU,fV,fW,fX,fY,fZ,f0,f1,f2,f3⟩:=cells10 a.out;obtain⟨f4,f5,f6,f7,f8,f9,ga,gb,gc,gd,gf,gg,gh,gi,gj,gk,gl,gm,gn,go⟩:=cells10 b.out)|((with_reducible refine gate_callee (f:=21) rfl ?_);refine sC (some 29) Try.func21 #[.slice A0_4 l0_4.length c0_4,.slice A1_4 l1_4.length c1_4] (laws_eqValueS.calls k _ _ l0_4 _ _ l1_4 false _ ?side1 ?side2 ?side3 ?side4 z.out) ?_;(case side1=>exact sD (zC u.out HB.out));(case side2=>exact v.out);(case side3=>exact sD (zC x.out HB.out));(case side4=>exact y.out);rintro e gp ⟨rfl,hb⟩;refine⟨_,rfl,?_⟩;replace a:=sK a hb;replace b:=sK b hb;replace HB:=sB HB hb;(try clear hb)))
 go_ret
 exact⟨sq,sb⟩)
 rw[if_neg l]at H
 have c6b0:(a0_3==a1_3)=false:=zN l
 have c6b1:(a0_3 !=a1_3)=true:=zX l
 obtain rfl:=zI H
 go_enter Try.func30,Try.ntmps30
 go_wp2_with (first|((with_reducible refine gate_dst (N:=2) rfl ?_);refine sV (N:=2) (cs:= #[.int .i64 a0_0,.int .i64 a0_1,.string a0_2,.int .i64 a0_3,.slice A0_4 l0_4.length c0_4,.slice A0_5 l0_5.length c0_5,.int .i64 a0_6,.int .i64 a0_7,.string a0_8,.int .i64 a0_9]) (t:=56) ?_;intro m hg gq hbox hb;have a:=zM (hbox);have n:=sG HB hg;have o:=sG HB hg;replace HB:=sB HB hb;clear hb hbox hg)|((with_reducible refine gate_dst (N:=3) rfl ?_);refine sV (N:=3) (cs:= #[.int .i64 a1_0,.int .i64 a1_1,.string a1_2,.int .i64 a1_3,.slice A1_4 l1_4.length c1_4,.slice A1_5 l1_5.length c1_5,.int .i64 a1_6,.int .i64 a1_7,.string a1_8,.int .i64 a1_9]) (t:=56) ?_;intro p hg gr hbox hb;have b:=zM (hbox);have q:=sG HB hg;have s:=sG HB hg;replace HB:=sB HB hb;have c:=sN a hg;have d:=sM a hg;replace a:=sK a hb;clear hb hbox hg;have gs:=c.out;have gu:=d.out;obtain⟨gv,gw,gx,gy,gz,gA,gB,gC,gD,gE,gF,gG,gH,gI,gJ,gK,gL,gM,gN,gO⟩:=cells10 a.out;obtain⟨gP,gQ,gR,gS,gT,gU,gV,gW,gX,gY,gZ,g0,g1,g2,g3,g4,g5,g6,g7,g8⟩:=cells10 b.out))
 go_ret
 exact⟨sq,sb⟩)
 rw[if_neg j]at H
 have c5b0:(a0_2.toList==a1_2.toList)=false:=zN j
 have c5b1:(a0_2.toList !=a1_2.toList)=true:=zX j
 obtain rfl:=zI H
 go_enter Try.func30,Try.ntmps30
 go_wp2_with (first|((with_reducible refine gate_dst (N:=2) rfl ?_);refine sV (N:=2) (cs:= #[.int .i64 a0_0,.int .i64 a0_1,.string a0_2,.int .i64 a0_3,.slice A0_4 l0_4.length c0_4,.slice A0_5 l0_5.length c0_5,.int .i64 a0_6,.int .i64 a0_7,.string a0_8,.int .i64 a0_9]) (t:=56) ?_;intro m hg g9 hbox hb;have a:=zM (hbox);have n:=sG HB hg;have o:=sG HB hg;replace HB:=sB HB hb;clear hb hbox hg)|((with_reducible refine gate_dst (N:=3) rfl ?_);refine sV (N:=3) (cs:= #[.int .i64 a1_0,.int .i64 a1_1,.string a1_2,.int .i64 a1_3,.slice A1_4 l1_4.length c1_4,.slice A1_5 l1_5.length c1_5,.int .i64 a1_6,.int .i64 a1_7,.string a1_8,.int .i64 a1_9]) (t:=56) ?_;intro p hg ha hbox hb;have b:=zM (hbox);have q:=sG HB hg;have s:=sG HB hg;replace HB:=sB HB hb;have c:=sN a hg;have d:=sM a hg;replace a:=sK a hb;clear hb hbox hg;have hc:=c.out;have hd:=d.out;obtain⟨he,hf,hh,hi,hj,hk,hl,hm,hn,ho,hp,hq,hr,hs,ht,hu,hv,hw,hx,hy⟩:=cells10 a.out;obtain⟨hz,hA,hB,hC,hD,hE,hF,hG,hH,hI,hJ,hK,hL,hM,hN,hO,hP,hQ,hR,hS⟩:=cells10 b.out))
 go_ret
 exact⟨sq,sb⟩)
 rw[if_neg i]at H
 have c4b0:(a0_1==a1_1)=false:=zN i
 have c4b1:(a0_1 !=a1_1)=true:=zX i
 obtain rfl:=zI H
 go_enter Try.func30,Try.ntmps30
 go_wp2_with (first|((with_reducible refine gate_dst (N:=2) rfl ?_);refine sV (N:=2) (cs:= #[.int .i64 a0_0,.int .i64 a0_1,.string a0_2,.int .i64 a0_3,.slice A0_4 l0_4.length c0_4,.slice A0_5 l0_5.length c0_5,.int .i64 a0_6,.int .i64 a0_7,.string a0_8,.int .i64 a0_9]) (t:=56) ?_;intro m hg hT hbox hb;have a:=zM (hbox);have n:=sG HB hg;have o:=sG HB hg;replace HB:=sB HB hb;clear hb hbox hg)|((with_reducible refine gate_dst (N:=3) rfl ?_);refine sV (N:=3) (cs:= #[.int .i64 a1_0,.int .i64 a1_1,.string a1_2,.int .i64 a1_3,.slice A1_4 l1_4.length c1_4,.slice A1_5 l1_5.length c1_5,.int .i64 a1_6,.int .i64 a1_7,.string a1_8,.int .i64 a1_9]) (t:=56) ?_;intro p hg hU hbox hb;have b:=zM (hbox);have q:=sG HB hg;have s:=sG HB hg;replace HB:=sB HB hb;have c:=sN a hg;have d:=sM a hg;replace a:=sK a hb;clear hb hbox hg;have hV:=c.out;have hW:=d.out;obtain⟨hX,hY,hZ,h0,h1,h2,h3,h4,h5,h6,h7,h8,h9,ia,ib,ic,ie,ig,ih,ii⟩:=cells10 a.out;obtain⟨ij,ik,il,im,ip,iq,ir,it,iu,iv,iw,ix,iy,iz,iA,iB,iC,iD,iE,iF⟩:=cells10 b.out))
 go_ret
 exact⟨sq,sb⟩)
 rw[if_neg g]at H
 have c3b0:(a0_0==a1_0)=false:=zN g
 have c3b1:(a0_0 !=a1_0)=true:=zX g
 obtain rfl:=zI H
 go_enter Try.func30,Try.ntmps30
 go_wp2_with (first|((with_reducible refine gate_dst (N:=2) rfl ?_);refine sV (N:=2) (cs:= #[.int .i64 a0_0,.int .i64 a0_1,.string a0_2,.int .i64 a0_3,.slice A0_4 l0_4.length c0_4,.slice A0_5 l0_5.length c0_5,.int .i64 a0_6,.int .i64 a0_7,.string a0_8,.int .i64 a0_9]) (t:=56) ?_;intro m hg iG hbox hb;have a:=zM (hbox);have n:=sG HB hg;have o:=sG HB hg;replace HB:=sB HB hb;clear hb hbox hg)|((with_reducible refine gate_dst (N:=3) rfl ?_);refine sV (N:=3) (cs:= #[.int .i64 a1_0,.int .i64 a1_1,.string a1_2,.int .i64 a1_3,.slice A1_4 l1_4.length c1_4,.slice A1_5 l1_5.length c1_5,.int .i64 a1_6,.int .i64 a1_7,.string a1_8,.int .i64 a1_9]) (t:=56) ?_;intro p hg iH hbox hb;have b:=zM (hbox);have q:=sG HB hg;have s:=sG HB hg;replace HB:=sB HB hb;have c:=sN a hg;have d:=sM a hg;replace a:=sK a hb;clear hb hbox hg;have iI:=c.out;have iJ:=d.out;obtain⟨iK,iL,iM,iN,iO,iP,iQ,iR,iS,iT,iU,iV,iW,iX,iY,iZ,i0,i1,i2,i3⟩:=cells10 a.out;obtain⟨i4,i5,i6,i7,i8,i9,ja,jb,jc,jd,je,jf,jg,jh,ji,jj,jk,jl,jm,jn⟩:=cells10 b.out))
 go_ret
 exact⟨sq,sb⟩
end Go.Proofs.Ytengilknjiobiaa.PFnExactPairsOf
