/- Printed functions: laws_eqMemory. -/
import Derived.Test.YtnneadpahjkhgaaYSmP0
import Derived.Test.YtnneadpahjkhgaaYSmP31
import Derived.Test.YtnneadpahjkhgaaYSmP32
import Derived.Test.YtnneadpahjkhgaaYSmP37
namespace Go.Proofs.Ytnneadpahjkhgaa.PFnExactSameMemory
open Go.RowKit Go.Proofs.YtnneadpahjkhgaaG Go.Proofs.YtnneadpahjkhgaaW.PrintWords Go.Proofs.YtnneadpahjkhgaaW.PrintLast Go.Proofs.YtnneadpahjkhgaaW.PrintMore
attribute [local go_sem] max2_int min2_int max_two min_two max_three min_three max_four min_four
set_option linter.unusedVariables false
set_option linter.unusedSimpArgs false
def laws_eqMemory.f (k:Nat) (a0_0:Int) (l0_1:List (S154)) (l0_2:List (S116)) (l0_3:List (S107)) (l0_4:List (S109)) (l0_5:List ByteArray) (a0_6:Int) (l0_7:List ByteArray) (l0_8:List (S87)) (l0_9:List ByteArray) (a1_0:Int) (l1_1:List (S154)) (l1_2:List (S116)) (l1_3:List (S107)) (l1_4:List (S109)) (l1_5:List ByteArray) (a1_6:Int) (l1_7:List ByteArray) (l1_8:List (S87)) (l1_9:List ByteArray):Option (Bool):=(laws_eqHeap.f k a0_0 l0_1 a1_0 l1_1).bind fun t498=>(if t498=true then((laws_eqScope.f k l0_2 l0_3 l0_4 l1_2 l1_3 l1_4).bind fun t499=>(if t499=true then((laws_eqConsole.f k l0_5 a0_6 l0_7 l0_8 l0_9 l1_5 a1_6 l1_7 l1_8 l1_9).bind fun t500=>(if t500=true then(some true)else(some false)))else(some false)))else(some false))
set_option maxHeartbeats 8000000 in
set_option maxRecDepth 100000 in
theorem laws_eqMemory.calls (k:Nat) (a0_0:Int) (A0_1:Option Addr) (c0_1:Nat) (l0_1:List (S154)) (A0_2:Option Addr) (c0_2:Nat) (l0_2:List (S116)) (A0_3:Option Addr) (c0_3:Nat) (l0_3:List (S107)) (A0_4:Option Addr) (c0_4:Nat) (l0_4:List (S109)) (A0_5:Option Addr) (c0_5:Nat) (l0_5:List ByteArray) (a0_6:Int) (A0_7:Option Addr) (c0_7:Nat) (l0_7:List ByteArray) (A0_8:Option Addr) (c0_8:Nat) (l0_8:List (S87)) (A0_9:Option Addr) (c0_9:Nat) (l0_9:List ByteArray) (a1_0:Int) (A1_1:Option Addr) (c1_1:Nat) (l1_1:List (S154)) (A1_2:Option Addr) (c1_2:Nat) (l1_2:List (S116)) (A1_3:Option Addr) (c1_3:Nat) (l1_3:List (S107)) (A1_4:Option Addr) (c1_4:Nat) (l1_4:List (S109)) (A1_5:Option Addr) (c1_5:Nat) (l1_5:List ByteArray) (a1_6:Int) (A1_7:Option Addr) (c1_7:Nat) (l1_7:List ByteArray) (A1_8:Option Addr) (c1_8:Nat) (l1_8:List (S87)) (A1_9:Option Addr) (c1_9:Nat) (l1_9:List ByteArray) (r:Bool) (w:World) (hr0_1:Kd.C k154 w A0_1 l0_1.length l0_1) (hc0_1:l0_1.length≤c0_1) (hr0_2:Kd.C k116 w A0_2 l0_2.length l0_2) (hc0_2:l0_2.length≤c0_2) (hr0_3:Kd.C k107 w A0_3 l0_3.length l0_3) (hc0_3:l0_3.length≤c0_3) (hr0_4:Kd.C k109 w A0_4 l0_4.length l0_4) (hc0_4:l0_4.length≤c0_4) (hr0_5:Kd.C Kd.string w A0_5 l0_5.length l0_5) (hc0_5:l0_5.length≤c0_5) (hr0_7:Kd.C Kd.string w A0_7 l0_7.length l0_7) (hc0_7:l0_7.length≤c0_7) (hr0_8:Kd.C k87 w A0_8 l0_8.length l0_8) (hc0_8:l0_8.length≤c0_8) (hr0_9:Kd.C Kd.string w A0_9 l0_9.length l0_9) (hc0_9:l0_9.length≤c0_9) (hr1_1:Kd.C k154 w A1_1 l1_1.length l1_1) (hc1_1:l1_1.length≤c1_1) (hr1_2:Kd.C k116 w A1_2 l1_2.length l1_2) (hc1_2:l1_2.length≤c1_2) (hr1_3:Kd.C k107 w A1_3 l1_3.length l1_3) (hc1_3:l1_3.length≤c1_3) (hr1_4:Kd.C k109 w A1_4 l1_4.length l1_4) (hc1_4:l1_4.length≤c1_4) (hr1_5:Kd.C Kd.string w A1_5 l1_5.length l1_5) (hc1_5:l1_5.length≤c1_5) (hr1_7:Kd.C Kd.string w A1_7 l1_7.length l1_7) (hc1_7:l1_7.length≤c1_7) (hr1_8:Kd.C k87 w A1_8 l1_8.length l1_8) (hc1_8:l1_8.length≤c1_8) (hr1_9:Kd.C Kd.string w A1_9 l1_9.length l1_9) (hc1_9:l1_9.length≤c1_9) (h:laws_eqMemory.f k a0_0 l0_1 l0_2 l0_3 l0_4 l0_5 a0_6 l0_7 l0_8 l0_9 a1_0 l1_1 l1_2 l1_3 l1_4 l1_5 a1_6 l1_7 l1_8 l1_9=some r):
  Calls Try.prog 29 #[.agg #[.int .i64 a0_0,.slice A0_1 l0_1.length c0_1,.slice A0_2 l0_2.length c0_2,.slice A0_3 l0_3.length c0_3,.slice A0_4 l0_4.length c0_4,.slice A0_5 l0_5.length c0_5,.int .i64 a0_6,.slice A0_7 l0_7.length c0_7,.slice A0_8 l0_8.length c0_8,.slice A0_9 l0_9.length c0_9],.agg #[.int .i64 a1_0,.slice A1_1 l1_1.length c1_1,.slice A1_2 l1_2.length c1_2,.slice A1_3 l1_3.length c1_3,.slice A1_4 l1_4.length c1_4,.slice A1_5 l1_5.length c1_5,.int .i64 a1_6,.slice A1_7 l1_7.length c1_7,.slice A1_8 l1_8.length c1_8,.slice A1_9 l1_9.length c1_9]] w fun e w'=>e= .returned (.bool r)∧Below w.heap.size w w':=by
 have ai:=Try.underlying71
 have aj:=Try.underlying69
 have ak:=Try.underlying57
 have al:=Try.underlying41
 have g:=zM hr0_1
 have i:=zM hc0_1
 clear hr0_1 hc0_1
 have q:=zM hr0_2
 have s:=zM hc0_2
 clear hr0_2 hc0_2
 have u:=zM hr0_3
 have v:=zM hc0_3
 clear hr0_3 hc0_3
 have x:=zM hr0_4
 have y:=zM hc0_4
 clear hr0_4 hc0_4
 have S:=zM hr0_5
 have T:=zM hc0_5
 clear hr0_5 hc0_5
 have U:=zM hr0_7
 have V:=zM hc0_7
 clear hr0_7 hc0_7
 have W:=zM hr0_8
 have X:=zM hc0_8
 clear hr0_8 hc0_8
 have Y:=zM hr0_9
 have Z:=zM hc0_9
 clear hr0_9 hc0_9
 have j:=zM hr1_1
 have l:=zM hc1_1
 clear hr1_1 hc1_1
 have z:=zM hr1_2
 have A:=zM hc1_2
 clear hr1_2 hc1_2
 have B:=zM hr1_3
 have D:=zM hc1_3
 clear hr1_3 hc1_3
 have E:=zM hr1_4
 have F:=zM hc1_4
 clear hr1_4 hc1_4
 have aa:=zM hr1_5
 have ab:=zM hc1_5
 clear hr1_5 hc1_5
 have ac:=zM hr1_7
 have ad:=zM hc1_7
 clear hr1_7 hc1_7
 have ae:=zM hr1_8
 have af:=zM hc1_8
 clear hr1_8 hc1_8
 have ag:=zM hr1_9
 have ah:=zM hc1_9
 clear hr1_9 hc1_9
 have HB:=zM (Below.refl w.heap.size w)
 have H:((laws_eqHeap.f k a0_0 l0_1 a1_0 l1_1).bind fun G=>(if G=true then((laws_eqScope.f k l0_2 l0_3 l0_4 l1_2 l1_3 l1_4).bind fun I=>(if I=true then((laws_eqConsole.f k l0_5 a0_6 l0_7 l0_8 l0_9 l1_5 a1_6 l1_7 l1_8 l1_9).bind fun J=>(if J=true then(some true)else(some false)))else(some false)))else(some false)))=some r:=h
 clear h
 obtain⟨G,m,H⟩:=sO H
 by_cases n:G=true
 ·(
 subst n
 rewrite[if_pos rfl]at H
 obtain⟨I,K,H⟩:=sO H
 by_cases o:I=true
 ·(
 subst o
 rewrite[if_pos rfl]at H
 obtain⟨J,A7,H⟩:=sO H
 by_cases p:J=true
 ·(
 subst p
 rewrite[if_pos rfl]at H
 obtain rfl:=zI H
 go_enter Try.func29,Try.ntmps29
 go_wp2_with (first|((with_reducible refine gate_dst (N:=2) rfl ?_);refine sV (N:=2) (cs:= #[.int .i64 a0_0,.slice A0_1 l0_1.length c0_1,.slice A0_2 l0_2.length c0_2,.slice A0_3 l0_3.length c0_3,.slice A0_4 l0_4.length c0_4,.slice A0_5 l0_5.length c0_5,.int .i64 a0_6,.slice A0_7 l0_7.length c0_7,.slice A0_8 l0_8.length c0_8,.slice A0_9 l0_9.length c0_9]) (t:=71) ?_;intro L hg w9 hbox hb;have a:=zM (hbox);have M:=sG HB hg;have O:=sG HB hg;replace HB:=sB HB hb;clear hb hbox hg)|((with_reducible refine gate_dst (N:=3) rfl ?_);refine sV (N:=3) (cs:= #[.int .i64 a1_0,.slice A1_1 l1_1.length c1_1,.slice A1_2 l1_2.length c1_2,.slice A1_3 l1_3.length c1_3,.slice A1_4 l1_4.length c1_4,.slice A1_5 l1_5.length c1_5,.int .i64 a1_6,.slice A1_7 l1_7.length c1_7,.slice A1_8 l1_8.length c1_8,.slice A1_9 l1_9.length c1_9]) (t:=71) ?_;intro P hg am hbox hb;have b:=zM (hbox);have Q:=sG HB hg;have R:=sG HB hg;replace HB:=sB HB hb;have c:=sN a hg;have d:=sM a hg;replace a:=sK a hb;clear hb hbox hg;have an:=c.out;have ao:=d.out;obtain⟨ap,aq,ar,au,av,aw,ax,ay,az,aA,aB,aC,aD,aE,aF,aG,aH,aI,aJ,aK⟩:=cells10 a.out;obtain⟨aL,aM,aN,aO,aP,aQ,aR,aS,aT,aU,aV,aW,aX,aY,aZ,a0,a1,a2,a3,a4⟩:=cells10 b.out)|((with_reducible refine gate_callee (f:=76) rfl ?_);refine sC (some 9) Try.func76 #[.agg #[.int .i64 a0_0,.slice A0_1 l0_1.length c0_1],.agg #[.int .i64 a1_0,.slice A1_1 l1_1.length c1_1]] (laws_eqHeap.calls k a0_0 _ _ l0_1 a1_0 _ _ l1_1 true _ ?side1 ?side2 ?side3 ?side4 m.out) ?_;(case side1=>exact sD (zC g.out HB.out));(case side2=>exact i.out);(case side3=>exact sD (zC j.out HB.out));(case side4=>exact l.out);rintro e a5 ⟨rfl,hb⟩;refine⟨_,rfl,?_⟩;replace a:=sK a hb;replace b:=sK b hb;replace HB:=sB HB hb;(try clear hb);obtain⟨a6,a7,a8,a9,ba,bb,bc,bd,be,bf,bg,bh,bi,bj,bk,bl,bm,bn,bo,bp⟩:=cells10 a.out;obtain⟨bq,br,bs,bt,bu,bv,bw,bx,bz,bA,bB,bC,bD,bE,bF,bG,bH,bI,bJ,bK⟩:=cells10 b.out)|((with_reducible refine gate_callee (f:=24) rfl ?_);refine sC (some 15) Try.func24 #[.agg #[.slice A0_2 l0_2.length c0_2,.slice A0_3 l0_3.length c0_3,.slice A0_4 l0_4.length c0_4],.agg #[.slice A1_2 l1_2.length c1_2,.slice A1_3 l1_3.length c1_3,.slice A1_4 l1_4.length c1_4]] (laws_eqScope.calls k _ _ l0_2 _ _ l0_3 _ _ l0_4 _ _ l1_2 _ _ l1_3 _ _ l1_4 true _ ?side1 ?side2 ?side3 ?side4 ?side5 ?side6 ?side7 ?side8 ?side9 ?side10 ?side11 ?side12 K.out) ?_;(case side1=>exact sD (zC q.out HB.out));(case side2=>exact s.out);(case side3=>exact sD (zC u.out HB.out));(case side4=>exact v.out);(case side5=>exact sD (zC x.out HB.out));(case side6=>exact y.out);(case side7=>exact sD (zC z.out HB.out));(case side8=>exact A.out);(case side9=>exact sD (zC B.out HB.out));(case side10=>exact D.out);(case side11=>exact sD (zC E.out HB.out));(case side12=>exact F.out);rintro e bL ⟨rfl,hb⟩;refine⟨_,rfl,?_⟩;replace a:=sK a hb;replace b:=sK b hb;replace HB:=sB HB hb;(try clear hb);obtain⟨bM,bN,bO,bP,bQ,bR,bS,bT,bU,bV,bW,bX,bY,bZ,b0,b1,b2,b3,b4,b5⟩:=cells10 a.out;obtain⟨b6,b7,b8,b9,ca,cb,cc,cd,ce,cf,cg,ch,ci,cj,ck,cl,cm,cn,co,cp⟩:=cells10 b.out)|((with_reducible refine gate_callee (f:=17) rfl ?_);refine sC (some 21) Try.func17 #[.agg #[.slice A0_5 l0_5.length c0_5,.int .i64 a0_6,.slice A0_7 l0_7.length c0_7,.slice A0_8 l0_8.length c0_8,.slice A0_9 l0_9.length c0_9],.agg #[.slice A1_5 l1_5.length c1_5,.int .i64 a1_6,.slice A1_7 l1_7.length c1_7,.slice A1_8 l1_8.length c1_8,.slice A1_9 l1_9.length c1_9]] (laws_eqConsole.calls k _ _ l0_5 a0_6 _ _ l0_7 _ _ l0_8 _ _ l0_9 _ _ l1_5 a1_6 _ _ l1_7 _ _ l1_8 _ _ l1_9 true _ ?side1 ?side2 ?side3 ?side4 ?side5 ?side6 ?side7 ?side8 ?side9 ?side10 ?side11 ?side12 ?side13 ?side14 ?side15 ?side16 A7.out) ?_;(case side1=>exact sD (zC S.out HB.out));(case side2=>exact T.out);(case side3=>exact sD (zC U.out HB.out));(case side4=>exact V.out);(case side5=>exact sD (zC W.out HB.out));(case side6=>exact X.out);(case side7=>exact sD (zC Y.out HB.out));(case side8=>exact Z.out);(case side9=>exact sD (zC aa.out HB.out));(case side10=>exact ab.out);(case side11=>exact sD (zC ac.out HB.out));(case side12=>exact ad.out);(case side13=>exact sD (zC ae.out HB.out));(case side14=>exact af.out);(case side15=>exact sD (zC ag.out HB.out));(case side16=>exact ah.out);rintro e cq ⟨rfl,hb⟩;refine⟨_,rfl,?_⟩;replace a:=sK a hb;replace b:=sK b hb;replace HB:=sB HB hb;(try clear hb)))
 go_ret
 exact⟨sq,sb⟩)
 replace p:=zB p
 subst p
 rewrite[if_neg zQ]at H
 obtain rfl:=zI H
 go_enter Try.func29,Try.ntmps29
 go_wp2_with (first|((with_reducible refine gate_dst (N:=2) rfl ?_);refine sV (N:=2) (cs:= #[.int .i64 a0_0,.slice A0_1 l0_1.length c0_1,.slice A0_2 l0_2.length c0_2,.slice A0_3 l0_3.length c0_3,.slice A0_4 l0_4.length c0_4,.slice A0_5 l0_5.length c0_5,.int .i64 a0_6,.slice A0_7 l0_7.length c0_7,.slice A0_8 l0_8.length c0_8,.slice A0_9 l0_9.length c0_9]) (t:=71) ?_;intro L hg cr hbox hb;have a:=zM (hbox);have M:=sG HB hg;have O:=sG HB hg;replace HB:=sB HB hb;clear hb hbox hg)|((with_reducible refine gate_dst (N:=3) rfl ?_);refine sV (N:=3) (cs:= #[.int .i64 a1_0,.slice A1_1 l1_1.length c1_1,.slice A1_2 l1_2.length c1_2,.slice A1_3 l1_3.length c1_3,.slice A1_4 l1_4.length c1_4,.slice A1_5 l1_5.length c1_5,.int .i64 a1_6,.slice A1_7 l1_7.length c1_7,.slice A1_8 l1_8.length c1_8,.slice A1_9 l1_9.length c1_9]) (t:=71) ?_;intro P hg ct hbox hb;have b:=zM (hbox);have Q:=sG HB hg;have R:=sG HB hg;replace HB:=sB HB hb;have c:=sN a hg;have d:=sM a hg;replace a:=sK a hb;clear hb hbox hg;have cu:=c.out;have cv:=d.out;obtain⟨cw,cx,cy,cz,cA,cB,cC,cD,cE,cF,cG,cH,cI,cJ,cK,cL,cM,cN,cO,cP⟩:=cells10 a.out;obtain⟨cQ,cR,cS,cT,cU,cV,cW,cX,cY,cZ,c0,c1,c2,c3,c5,c7,c9,da,db,dc⟩:=cells10 b.out)|((with_reducible refine gate_callee (f:=76) rfl ?_);refine sC (some 9) Try.func76 #[.agg #[.int .i64 a0_0,.slice A0_1 l0_1.length c0_1],.agg #[.int .i64 a1_0,.slice A1_1 l1_1.length c1_1]] (laws_eqHeap.calls k a0_0 _ _ l0_1 a1_0 _ _ l1_1 true _ ?side1 ?side2 ?side3 ?side4 m.out) ?_;(case side1=>exact sD (zC g.out HB.out));(case side2=>exact i.out);(case side3=>exact sD (zC j.out HB.out));(case side4=>exact l.out);rintro e dd ⟨rfl,hb⟩;refine⟨_,rfl,?_⟩;replace a:=sK a hb;replace b:=sK b hb;replace HB:=sB HB hb;(try clear hb);obtain⟨de,df,dg,dh,di,dj,dk,dl,dm,dn,dp,dq,dr,ds,dt,du,dv,dw,dx,dy⟩:=cells10 a.out;obtain⟨dz,dA,dB,dC,dD,dE,dF,dG,dH,dI,dJ,dK,dL,dM,dN,dO,dP,dQ,dR,dS⟩:=cells10 b.out)|((with_reducible refine gate_callee (f:=24) rfl ?_);refine sC (some 15) Try.func24 #[.agg #[.slice A0_2 l0_2.length c0_2,.slice A0_3 l0_3.length c0_3,.slice A0_4 l0_4.length c0_4],.agg #[.slice A1_2 l1_2.length c1_2,.slice A1_3 l1_3.length c1_3,.slice A1_4 l1_4.length c1_4]] (laws_eqScope.calls k _ _ l0_2 _ _ l0_3 _ _ l0_4 _ _ l1_2 _ _ l1_3 _ _ l1_4 true _ ?side1 ?side2 ?side3 ?side4 ?side5 ?side6 ?side7 ?side8 ?side9 ?side10 ?side11 ?side12 K.out) ?_;(case side1=>exact sD (zC q.out HB.out));(case side2=>exact s.out);(case side3=>exact sD (zC u.out HB.out));(case side4=>exact v.out);(case side5=>exact sD (zC x.out HB.out));(case side6=>exact y.out);(case side7=>exact sD (zC z.out HB.out));(case side8=>exact A.out);(case side9=>exact sD (zC B.out HB.out));(case side10=>exact D.out);(case side11=>exact sD (zC E.out HB.out));(case side12=>exact F.out);rintro e dT ⟨rfl,hb⟩;refine⟨_,rfl,?_⟩;replace a:=sK a hb;replace b:=sK b hb;replace HB:=sB HB hb;(try clear hb);obtain⟨dU,dV,dW,dX,dY,dZ,d0,d1,d2,d3,d4,d5,d6,d7,d8,d9,ea,eb,ec,ed⟩:=cells10 a.out;obtain⟨ee,ef,eg,eh,ei,ej,ek,el,em,en,eo,ep,er,es,et,eu,ev,ew,ex,ey⟩:=cells10 b.out)|((with_reducible refine gate_callee (f:=17) rfl ?_);refine sC (some 21) Try.func17 #[.agg #[.slice A0_5 l0_5.length c0_5,.int .i64 a0_6,.slice A0_7 l0_7.length c0_7,.slice A0_8 l0_8.length c0_8,.slice A0_9 l0_9.length c0_9],.agg #[.slice A1_5 l1_5.length c1_5,.int .i64 a1_6,.slice A1_7 l1_7.length c1_7,.slice A1_8 l1_8.length c1_8,.slice A1_9 l1_9.length c1_9]] (laws_eqConsole.calls k _ _ l0_5 a0_6 _ _ l0_7 _ _ l0_8 _ _ l0_9 _ _ l1_5 a1_6 _ _ l1_7 _ _ l1_8 _ _ l1_9 false _ ?side1 ?side2 ?side3 ?side4 ?side5 ?side6 ?side7 ?side8 ?side9 ?side10 ?side11 ?side12 ?side13 ?side14 ?side15 ?side16 A7.out) ?_;(case side1=>exact sD (zC S.out HB.out));(case side2=>exact T.out);(case side3=>exact sD (zC U.out HB.out));(case side4=>exact V.out);(case side5=>exact sD (zC W.out HB.out));(case side6=>exact X.out);(case side7=>exact sD (zC Y.out HB.out));(case side8=>exact Z.out);(case side9=>exact sD (zC aa.out HB.out));(case side10=>exact ab.out);(case side11=>exact sD (zC ac.out HB.out));(case side12=>exact ad.out);(case side13=>exact sD (zC ae.out HB.out));(case side14=>exact af.out);(case side15=>exact sD (zC ag.out HB.out));(case side16=>exact ah.out);rintro e ez ⟨rfl,hb⟩;refine⟨_,rfl,?_⟩;replace a:=sK a hb;replace b:=sK b hb;replace HB:=sB HB hb;(try clear hb)))
 go_ret
 exact⟨sq,sb⟩)
 replace o:=zB o
 subst o
 rewrite[if_neg zQ]at H
 obtain rfl:=zI H
 go_enter Try.func29,Try.ntmps29
 go_wp2_with (first|((with_reducible refine gate_dst (N:=2) rfl ?_);refine sV (N:=2) (cs:= #[.int .i64 a0_0,.slice A0_1 l0_1.length c0_1,.slice A0_2 l0_2.length c0_2,.slice A0_3 l0_3.length c0_3,.slice A0_4 l0_4.length c0_4,.slice A0_5 l0_5.length c0_5,.int .i64 a0_6,.slice A0_7 l0_7.length c0_7,.slice A0_8 l0_8.length c0_8,.slice A0_9 l0_9.length c0_9]) (t:=71) ?_;intro L hg eA hbox hb;have a:=zM (hbox);have M:=sG HB hg;have O:=sG HB hg;replace HB:=sB HB hb;clear hb hbox hg)|((with_reducible refine gate_dst (N:=3) rfl ?_);refine sV (N:=3) (cs:= #[.int .i64 a1_0,.slice A1_1 l1_1.length c1_1,.slice A1_2 l1_2.length c1_2,.slice A1_3 l1_3.length c1_3,.slice A1_4 l1_4.length c1_4,.slice A1_5 l1_5.length c1_5,.int .i64 a1_6,.slice A1_7 l1_7.length c1_7,.slice A1_8 l1_8.length c1_8,.slice A1_9 l1_9.length c1_9]) (t:=71) ?_;intro P hg eB hbox hb;have b:=zM (hbox);have Q:=sG HB hg;have R:=sG HB hg;replace HB:=sB HB hb;have c:=sN a hg;have d:=sM a hg;replace a:=sK a hb;clear hb hbox hg;have eC:=c.out;have eD:=d.out;obtain⟨eE,eF,eG,eH,eI,eJ,eK,eL,eM,eN,eO,eP,eQ,eR,eS,eT,eU,eV,eW,eX⟩:=cells10 a.out;obtain⟨eY,eZ,e0,e1,e2,e3,e4,e5,e6,e7,e8,e9,fa,fb,fc,fd,fe,ff,fg,fh⟩:=cells10 b.out)|((with_reducible refine gate_callee (f:=76) rfl ?_);refine sC (some 9) Try.func76 #[.agg #[.int .i64 a0_0,.slice A0_1 l0_1.length c0_1],.agg #[.int .i64 a1_0,.slice A1_1 l1_1.length c1_1]] (laws_eqHeap.calls k a0_0 _ _ l0_1 a1_0 _ _ l1_1 true _ ?side1 ?side2 ?side3 ?side4 m.out) ?_;(case side1=>exact sD (zC g.out HB.out));(case side2=>exact i.out);(case side3=>exact sD (zC j.out HB.out));(case side4=>exact l.out);rintro e fi ⟨rfl,hb⟩;refine⟨_,rfl,?_⟩;replace a:=sK a hb;replace b:=sK b hb;replace HB:=sB HB hb;(try clear hb);obtain⟨fj,fk,fl,fm,fn,fo,fp,fq,fr,fs,ft,fu,fv,fw,fx,fy,fz,fA,fB,fC⟩:=cells10 a.out;obtain⟨fD,fE,fF,fG,fH,fI,fJ,fK,fL,fM,fN,fO,fP,fQ,fR,fS,fT,fU,fV,fW⟩:=cells10 b.out)|((with_reducible refine gate_callee (f:=24) rfl ?_);refine sC (some 15) Try.func24 #[.agg #[.slice A0_2 l0_2.length c0_2,.slice A0_3 l0_3.length c0_3,.slice A0_4 l0_4.length c0_4],.agg #[.slice A1_2 l1_2.length c1_2,.slice A1_3 l1_3.length c1_3,.slice A1_4 l1_4.length c1_4]] (laws_eqScope.calls k _ _ l0_2 _ _ l0_3 _ _ l0_4 _ _ l1_2 _ _ l1_3 _ _ l1_4 false _ ?side1 ?side2 ?side3 ?side4 ?side5 ?side6 ?side7 ?side8 ?side9 ?side10 ?side11 ?side12 K.out) ?_;(case side1=>exact sD (zC q.out HB.out));(case side2=>exact s.out);(case side3=>exact sD (zC u.out HB.out));(case side4=>exact v.out);(case side5=>exact sD (zC x.out HB.out));(case side6=>exact y.out);(case side7=>exact sD (zC z.out HB.out));(case side8=>exact A.out);(case side9=>exact sD (zC B.out HB.out));(case side10=>exact D.out);(case side11=>exact sD (zC E.out HB.out));(case side12=>exact F.out);rintro e fX ⟨rfl,hb⟩;refine⟨_,rfl,?_⟩;replace a:=sK a hb;replace b:=sK b hb;replace HB:=sB HB hb;(try clear hb)))
 go_ret
 exact⟨sq,sb⟩)
 replace n:=zB n
 subst n
 rewrite[if_neg zQ]at H
 obtain rfl:=zI H
 go_enter Try.func29,Try.ntmps29
 go_wp2_with (first|((with_reducible refine gate_dst (N:=2) rfl ?_);refine sV (N:=2) (cs:= #[.int .i64 a0_0,.slice A0_1 l0_1.length c0_1,.slice A0_2 l0_2.length c0_2,.slice A0_3 l0_3.length c0_3,.slice A0_4 l0_4.length c0_4,.slice A0_5 l0_5.length c0_5,.int .i64 a0_6,.slice A0_7 l0_7.length c0_7,.slice A0_8 l0_8.length c0_8,.slice A0_9 l0_9.length c0_9]) (t:=71) ?_;intro L hg fY hbox hb;have a:=zM (hbox);have M:=sG HB hg;have O:=sG HB hg;replace HB:=sB HB hb;clear hb hbox hg)|((with_reducible refine gate_dst (N:=3) rfl ?_);refine sV (N:=3) (cs:= #[.int .i64 a1_0,.slice A1_1 l1_1.length c1_1,.slice A1_2 l1_2.length c1_2,.slice A1_3 l1_3.length c1_3,.slice A1_4 l1_4.length c1_4,.slice A1_5 l1_5.length c1_5,.int .i64 a1_6,.slice A1_7 l1_7.length c1_7,.slice A1_8 l1_8.length c1_8,.slice A1_9 l1_9.length c1_9]) (t:=71) ?_;intro P hg fZ hbox hb;have b:=zM (hbox);have Q:=sG HB hg;have R:=sG HB hg;replace HB:=sB HB hb;have c:=sN a hg;have d:=sM a hg;replace a:=sK a hb;clear hb hbox hg;have f0:=c.out;have f1:=d.out;obtain⟨f2,f3,f4,f5,f6,f7,f8,f9,ga,gb,gc,gd,gf,gg,gh,gi,gj,gk,gl,gm⟩:=cells10 a.out;obtain⟨gn,go,gp,gq,gr,gs,gu,gv,gw,gx,gy,gz,gA,gB,gC,gD,gE,gF,gG,gH⟩:=cells10 b.out)|((with_reducible refine gate_callee (f:=76) rfl ?_);refine sC (some 9) Try.func76 #[.agg #[.int .i64 a0_0,.slice A0_1 l0_1.length c0_1],.agg #[.int .i64 a1_0,.slice A1_1 l1_1.length c1_1]] (laws_eqHeap.calls k a0_0 _ _ l0_1 a1_0 _ _ l1_1 false _ ?side1 ?side2 ?side3 ?side4 m.out) ?_;(case side1=>exact sD (zC g.out HB.out));(case side2=>exact i.out);(case side3=>exact sD (zC j.out HB.out));(case side4=>exact l.out);rintro e gI ⟨rfl,hb⟩;refine⟨_,rfl,?_⟩;replace a:=sK a hb;replace b:=sK b hb;replace HB:=sB HB hb;(try clear hb)))
 go_ret
 exact⟨sq,sb⟩
end Go.Proofs.Ytnneadpahjkhgaa.PFnExactSameMemory
