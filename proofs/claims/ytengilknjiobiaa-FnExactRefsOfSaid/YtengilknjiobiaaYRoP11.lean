/- Printed functions: impl_Value__impl_ValidValue, laws_eqObject. -/
import Derived.Test.YtengilknjiobiaaYRoP0
import Derived.Test.YtengilknjiobiaaYRoPE
import Derived.Test.YtengilknjiobiaaYRoP10
import Derived.Test.YtengilknjiobiaaYRoP18
namespace Go.Proofs.Ytengilknjiobiaa.PFnExactRefsOf
open Go.RowKit Go.Proofs.YtengilknjiobiaaG Go.Proofs.YtengilknjiobiaaW.PrintWords Go.Proofs.YtengilknjiobiaaW.PrintLast Go.Proofs.YtengilknjiobiaaW.PrintMore
attribute [local go_sem] max2_int min2_int max_two min_two max_three min_three max_four min_four
set_option linter.unusedVariables false
set_option linter.unusedSimpArgs false
section
attribute [local go_sem high] eqA29
def impl_Value__impl_ValidValue.l0 : Nat → List (S29) → Int → Int → Option (Bool)
 |0,_,_,_=>none
 |k+1,x7,x8,x9=>if x9<x8 then(if 0≤x9 then(if x9<(x7.length:Int)then((impl_ValidValue.f k ((rd_T29 x7 x9).f0) ((rd_T29 x7 x9).f1) ((rd_T29 x7 x9).f2) ((rd_T29 x7 x9).f3)).bind fun t240=>(if t240=true then(impl_Value__impl_ValidValue.l0 k x7 x8 (wrap64 (x9+1)))else(some false)))else(none))else(none))else(some true)
def impl_Value__impl_ValidValue.f (k:Nat) (l0:List (S29)):Option (Bool):=impl_Value__impl_ValidValue.l0 k l0 (l0.length:Int) 0
set_option maxHeartbeats 8000000 in
set_option maxRecDepth 100000 in
theorem impl_Value__impl_ValidValue.calls (k:Nat) (A0:Option Addr) (c0:Nat) (l0:List (S29)) (r:Bool) (w:World) (hr0:Kd.C k29 w A0 l0.length l0) (hc0:l0.length≤c0) (h:impl_Value__impl_ValidValue.f k l0=some r):
  Calls Try.prog 89 #[.slice A0 l0.length c0,.func (.func 90) #[] #[]] w fun e w'=>e= .returned (.bool r)∧Below w.heap.size w w':=by
 have G:=Try.underlying29
 have x:=zM hr0
 have I:=zM hc0
 clear hr0 hc0
 have HB:=zM (Below.refl w.heap.size w)
 have H:(impl_Value__impl_ValidValue.l0 k l0 (l0.length:Int) 0)=some r:=h
 clear h
 have H':=zM H
 clear H
 go_enter Try.func89,Try.ntmps89
 go_wp2
 go_loopg [9] k (fun kq A w'=>∃(a:Int),A= .int .i64 a∧Aside0 (impl_Value__impl_ValidValue.l0 kq l0 (l0.length:Int) a=some r)∧Aside0 (kq≤k)∧Aside0 (Below w.heap.size w w'))
 case atStart=>exact⟨(0),sr,H',⟨Nat.le_refl _⟩,⟨sb⟩⟩
 case round=>(
 clear H'
 obtain⟨a,rfl,HA,y,HB⟩:=hrel
 cases gk with
 |zero=>exact absurd HA.out (by simp[impl_Value__impl_ValidValue.l0])
 |succ k1=>(
 have H:=HA.out
 clear HA
 simp only[impl_Value__impl_ValidValue.l0]at H
 by_cases i:a<(l0.length:Int)
 ·(
 rw[if_pos i]at H
 have c3b0:=zT i
 clear i
 by_cases p:0≤a
 ·(
 rw[if_pos p]at H
 have c4b0:=zT p
 clear p
 by_cases q:a<(l0.length:Int)
 ·(
 rw[if_pos q]at H
 have c5b0:=zT q
 clear q
 obtain⟨B,z,H⟩:=sO H
 by_cases s:B=true
 ·(
 subst s
 rewrite[if_pos rfl]at H
 have H':=zM H
 clear H
 have b:0≤(a:Int):=zzA
 have c:a<(l0.length:Int):=zzA
 obtain⟨D,u,j,l,m,n⟩:=at_T29 x.out a b c
 cases u
 replace j:=sX HB j
 replace l:=sX HB l
 replace m:=sX HB m
 replace n:=sX HB n
 replace b:=eq_true b
 replace c:=eq_true c
 go_wp2_with (first|((with_reducible refine gate_dst (N:=6) rfl ?_);refine sV (N:=6) (cs:= #[.int .i64 0,.int .i64 0,.string (⟨#[]⟩:ByteArray),.int .i64 0]) (t:=29) ?_;intro v hg J hbox hb;have d:=zM (hbox);have E:=sG HB hg;have F:=sG HB hg;replace HB:=sB HB hb;clear hb hbox hg;obtain⟨K,L,M,O,P,Q,R,S⟩:=cells4 d.out)|(go_at_call 90;(with_reducible refine(impl_ValidValue.calls k1 ((rd_T29 l0 a).f0) ((rd_T29 l0 a).f1) ((rd_T29 l0 a).f2) ((rd_T29 l0 a).f3) true _ z.out).mono ?_);rintro e T ⟨rfl,hb⟩;replace d:=zM (blk_below (g:=v) (o:= .cells #[.int .i64 ((rd_T29 l0 a).f0),.int .i64 ((rd_T29 l0 a).f1),.string ((rd_T29 l0 a).f2),.int .i64 ((rd_T29 l0 a).f3)] 29 (0,0)) (by exact sP4 (sT d.out)) hb);replace HB:=sB HB hb;(try clear hb)))
 go_roundg k1
 case measure=>have:=y.out;omega
 case rel=>exact⟨(wrap64 (a+1)),sr,H',⟨by have:=y.out;omega⟩,⟨sb⟩⟩)
 replace s:=zB s
 subst s
 rewrite[if_neg zQ]at H
 obtain rfl:=zI H
 have b:0≤(a:Int):=zzA
 have c:a<(l0.length:Int):=zzA
 obtain⟨D,u,j,l,m,n⟩:=at_T29 x.out a b c
 cases u
 replace j:=sX HB j
 replace l:=sX HB l
 replace m:=sX HB m
 replace n:=sX HB n
 replace b:=eq_true b
 replace c:=eq_true c
 go_wp2_with (first|((with_reducible refine gate_dst (N:=6) rfl ?_);refine sV (N:=6) (cs:= #[.int .i64 0,.int .i64 0,.string (⟨#[]⟩:ByteArray),.int .i64 0]) (t:=29) ?_;intro v hg U hbox hb;have d:=zM (hbox);have E:=sG HB hg;have F:=sG HB hg;replace HB:=sB HB hb;clear hb hbox hg;obtain⟨V,W,X,Y,Z,aa,ab,ac⟩:=cells4 d.out)|(go_at_call 90;(with_reducible refine(impl_ValidValue.calls k1 ((rd_T29 l0 a).f0) ((rd_T29 l0 a).f1) ((rd_T29 l0 a).f2) ((rd_T29 l0 a).f3) false _ z.out).mono ?_);rintro e ad ⟨rfl,hb⟩;replace d:=zM (blk_below (g:=v) (o:= .cells #[.int .i64 ((rd_T29 l0 a).f0),.int .i64 ((rd_T29 l0 a).f1),.string ((rd_T29 l0 a).f2),.int .i64 ((rd_T29 l0 a).f3)] 29 (0,0)) (by exact sP4 (sT d.out)) hb);replace HB:=sB HB hb;(try clear hb)))
 go_ret
 exact⟨sq,sb⟩)
 rw[if_neg q]at H
 exact absurd H (by simp))
 rw[if_neg p]at H
 exact absurd H (by simp))
 rw[if_neg i]at H
 have c3b0:=zF i
 clear i
 obtain rfl:=zI H
 go_wp2
 go_ret
 exact⟨sq,sb⟩))
end
def laws_eqObject.f (k:Nat) (a0_0:Int) (a0_1:Int) (a0_2:ByteArray) (a0_3:Int) (l0_4:List (S29)) (l0_5:List (S29)) (a0_6:Int) (a0_7:Int) (a0_8:ByteArray) (a0_9:Int) (a1_0:Int) (a1_1:Int) (a1_2:ByteArray) (a1_3:Int) (l1_4:List (S29)) (l1_5:List (S29)) (a1_6:Int) (a1_7:Int) (a1_8:ByteArray) (a1_9:Int):Option (Bool):=if a0_0=a1_0 then(if a0_1=a1_1 then(if a0_2.toList=a1_2.toList then(if a0_3=a1_3 then((laws_eqValueS.f k l0_4 l1_4).bind fun t447=>(if t447=true then((laws_eqValueS.f k l0_5 l1_5).bind fun t448=>(if t448=true then((laws_eqValue.f a0_6 a0_7 a0_8 a0_9 a1_6 a1_7 a1_8 a1_9).bind fun t449=>(if t449=true then(some true)else(some false)))else(some false)))else(some false)))else(some false))else(some false))else(some false))else(some false)
set_option maxHeartbeats 8000000 in
set_option maxRecDepth 100000 in
theorem laws_eqObject.calls (k:Nat) (a0_0:Int) (a0_1:Int) (a0_2:ByteArray) (a0_3:Int) (A0_4:Option Addr) (c0_4:Nat) (l0_4:List (S29)) (A0_5:Option Addr) (c0_5:Nat) (l0_5:List (S29)) (a0_6:Int) (a0_7:Int) (a0_8:ByteArray) (a0_9:Int) (a1_0:Int) (a1_1:Int) (a1_2:ByteArray) (a1_3:Int) (A1_4:Option Addr) (c1_4:Nat) (l1_4:List (S29)) (A1_5:Option Addr) (c1_5:Nat) (l1_5:List (S29)) (a1_6:Int) (a1_7:Int) (a1_8:ByteArray) (a1_9:Int) (r:Bool) (w:World) (hr0_4:Kd.C k29 w A0_4 l0_4.length l0_4) (hc0_4:l0_4.length≤c0_4) (hr0_5:Kd.C k29 w A0_5 l0_5.length l0_5) (hc0_5:l0_5.length≤c0_5) (hr1_4:Kd.C k29 w A1_4 l1_4.length l1_4) (hc1_4:l1_4.length≤c1_4) (hr1_5:Kd.C k29 w A1_5 l1_5.length l1_5) (hc1_5:l1_5.length≤c1_5) (h:laws_eqObject.f k a0_0 a0_1 a0_2 a0_3 l0_4 l0_5 a0_6 a0_7 a0_8 a0_9 a1_0 a1_1 a1_2 a1_3 l1_4 l1_5 a1_6 a1_7 a1_8 a1_9=some r):
  Calls Try.prog 30 #[.agg #[.int .i64 a0_0,.int .i64 a0_1,.string a0_2,.int .i64 a0_3,.slice A0_4 l0_4.length c0_4,.slice A0_5 l0_5.length c0_5,.int .i64 a0_6,.int .i64 a0_7,.string a0_8,.int .i64 a0_9],.agg #[.int .i64 a1_0,.int .i64 a1_1,.string a1_2,.int .i64 a1_3,.slice A1_4 l1_4.length c1_4,.slice A1_5 l1_5.length c1_5,.int .i64 a1_6,.int .i64 a1_7,.string a1_8,.int .i64 a1_9]] w fun e w'=>e= .returned (.bool r)∧Below w.heap.size w w':=by
 have R:=Try.underlying56
 have S:=Try.underlying29
 have x:=zM hr0_4
 have y:=zM hc0_4
 clear hr0_4 hc0_4
 have G:=zM hr0_5
 have I:=zM hc0_5
 clear hr0_5 hc0_5
 have z:=zM hr1_4
 have A:=zM hc1_4
 clear hr1_4 hc1_4
 have J:=zM hr1_5
 have K:=zM hc1_5
 clear hr1_5 hc1_5
 have HB:=zM (Below.refl w.heap.size w)
 have H:(if a0_0=a1_0 then(if a0_1=a1_1 then(if a0_2.toList=a1_2.toList then(if a0_3=a1_3 then((laws_eqValueS.f k l0_4 l1_4).bind fun L=>(if L=true then((laws_eqValueS.f k l0_5 l1_5).bind fun M=>(if M=true then((laws_eqValue.f a0_6 a0_7 a0_8 a0_9 a1_6 a1_7 a1_8 a1_9).bind fun O=>(if O=true then(some true)else(some false)))else(some false)))else(some false)))else(some false))else(some false))else(some false))else(some false))=some r:=h
 clear h
 by_cases i:a0_0=a1_0
 ·(
 rw[if_pos i]at H
 have c3b0:(a0_0==a1_0)=true:=zE i
 have c3b1:(a0_0 !=a1_0)=false:=zY i
 clear i
 by_cases j:a0_1=a1_1
 ·(
 rw[if_pos j]at H
 have c4b0:(a0_1==a1_1)=true:=zE j
 have c4b1:(a0_1 !=a1_1)=false:=zY j
 clear j
 by_cases l:a0_2.toList=a1_2.toList
 ·(
 rw[if_pos l]at H
 have c5b0:(a0_2.toList==a1_2.toList)=true:=zE l
 have c5b1:(a0_2.toList !=a1_2.toList)=false:=zY l
 clear l
 by_cases m:a0_3=a1_3
 ·(
 rw[if_pos m]at H
 have c6b0:(a0_3==a1_3)=true:=zE m
 have c6b1:(a0_3 !=a1_3)=false:=zY m
 clear m
 obtain⟨L,B,H⟩:=sO H
 by_cases D:L=true
 ·(
 subst D
 rewrite[if_pos rfl]at H
 obtain⟨M,P,H⟩:=sO H
 by_cases E:M=true
 ·(
 subst E
 rewrite[if_pos rfl]at H
 obtain⟨O,Q,H⟩:=sO H
 by_cases F:O=true
 ·(
 subst F
 rewrite[if_pos rfl]at H
 obtain rfl:=zI H
 go_enter Try.func30,Try.ntmps30
 go_wp2_with (first|((with_reducible refine gate_dst (N:=2) rfl ?_);refine sV (N:=2) (cs:= #[.int .i64 a0_0,.int .i64 a0_1,.string a0_2,.int .i64 a0_3,.slice A0_4 l0_4.length c0_4,.slice A0_5 l0_5.length c0_5,.int .i64 a0_6,.int .i64 a0_7,.string a0_8,.int .i64 a0_9]) (t:=56) ?_;intro n hg T hbox hb;have a:=zM (hbox);have p:=sG HB hg;have q:=sG HB hg;replace HB:=sB HB hb;clear hb hbox hg)|((with_reducible refine gate_dst (N:=3) rfl ?_);refine sV (N:=3) (cs:= #[.int .i64 a1_0,.int .i64 a1_1,.string a1_2,.int .i64 a1_3,.slice A1_4 l1_4.length c1_4,.slice A1_5 l1_5.length c1_5,.int .i64 a1_6,.int .i64 a1_7,.string a1_8,.int .i64 a1_9]) (t:=56) ?_;intro s hg U hbox hb;have b:=zM (hbox);have u:=sG HB hg;have v:=sG HB hg;replace HB:=sB HB hb;have c:=sN a hg;have d:=sM a hg;replace a:=sK a hb;clear hb hbox hg;have V:=c.out;have W:=d.out;obtain⟨X,Y,Z,aa,ab,ac,ad,ae,af,ag,ah,ai,aj,ak,al,am,an,ao,ap,aq⟩:=cells10 a.out;obtain⟨ar,au,av,aw,ax,ay,az,aA,aB,aC,aD,aE,aF,aG,aH,aI,aJ,aK,aL,aM⟩:=cells10 b.out)|((with_reducible refine gate_callee (f:=21) rfl ?_);refine sC (some 29) Try.func21 #[.slice A0_4 l0_4.length c0_4,.slice A1_4 l1_4.length c1_4] (laws_eqValueS.calls k _ _ l0_4 _ _ l1_4 true _ ?side1 ?side2 ?side3 ?side4 B.out) ?_;(case side1=>exact sD (zC x.out HB.out));(case side2=>exact y.out);(case side3=>exact sD (zC z.out HB.out));(case side4=>exact A.out);rintro e aN ⟨rfl,hb⟩;refine⟨_,rfl,?_⟩;replace a:=sK a hb;replace b:=sK b hb;replace HB:=sB HB hb;(try clear hb);obtain⟨aO,aP,aQ,aR,aS,aT,aU,aV,aW,aX,aY,aZ,a0,a1,a2,a3,a4,a5,a6,a7⟩:=cells10 a.out;obtain⟨a8,a9,ba,bb,bc,bd,be,bf,bg,bh,bi,bj,bk,bl,bm,bn,bo,bp,bq,br⟩:=cells10 b.out)|((with_reducible refine gate_callee (f:=21) rfl ?_);refine sC (some 35) Try.func21 #[.slice A0_5 l0_5.length c0_5,.slice A1_5 l1_5.length c1_5] (laws_eqValueS.calls k _ _ l0_5 _ _ l1_5 true _ ?side1 ?side2 ?side3 ?side4 P.out) ?_;(case side1=>exact sD (zC G.out HB.out));(case side2=>exact I.out);(case side3=>exact sD (zC J.out HB.out));(case side4=>exact K.out);rintro e bs ⟨rfl,hb⟩;refine⟨_,rfl,?_⟩;replace a:=sK a hb;replace b:=sK b hb;replace HB:=sB HB hb;(try clear hb);obtain⟨bt,bu,bv,bw,bx,bz,bA,bB,bC,bD,bE,bF,bG,bH,bI,bJ,bK,bL,bM,bN⟩:=cells10 a.out;obtain⟨bO,bP,bQ,bR,bS,bT,bU,bV,bW,bX,bY,bZ,b0,b1,b2,b3,b4,b5,b6,b7⟩:=cells10 b.out)|((with_reducible refine gate_callee (f:=15) rfl ?_);refine sC (some 41) Try.func15 #[.agg #[.int .i64 a0_6,.int .i64 a0_7,.string a0_8,.int .i64 a0_9],.agg #[.int .i64 a1_6,.int .i64 a1_7,.string a1_8,.int .i64 a1_9]] (laws_eqValue.calls a0_6 a0_7 a0_8 a0_9 a1_6 a1_7 a1_8 a1_9 true _ Q.out) ?_;rintro e b8 ⟨rfl,hb⟩;refine⟨_,rfl,?_⟩;replace a:=sK a hb;replace b:=sK b hb;replace HB:=sB HB hb;(try clear hb)))
 go_ret
 exact⟨sq,sb⟩)
 replace F:=zB F
 subst F
 rewrite[if_neg zQ]at H
 obtain rfl:=zI H
 go_enter Try.func30,Try.ntmps30
 go_wp2_with (first|((with_reducible refine gate_dst (N:=2) rfl ?_);refine sV (N:=2) (cs:= #[.int .i64 a0_0,.int .i64 a0_1,.string a0_2,.int .i64 a0_3,.slice A0_4 l0_4.length c0_4,.slice A0_5 l0_5.length c0_5,.int .i64 a0_6,.int .i64 a0_7,.string a0_8,.int .i64 a0_9]) (t:=56) ?_;intro n hg b9 hbox hb;have a:=zM (hbox);have p:=sG HB hg;have q:=sG HB hg;replace HB:=sB HB hb;clear hb hbox hg)|((with_reducible refine gate_dst (N:=3) rfl ?_);refine sV (N:=3) (cs:= #[.int .i64 a1_0,.int .i64 a1_1,.string a1_2,.int .i64 a1_3,.slice A1_4 l1_4.length c1_4,.slice A1_5 l1_5.length c1_5,.int .i64 a1_6,.int .i64 a1_7,.string a1_8,.int .i64 a1_9]) (t:=56) ?_;intro s hg ca hbox hb;have b:=zM (hbox);have u:=sG HB hg;have v:=sG HB hg;replace HB:=sB HB hb;have c:=sN a hg;have d:=sM a hg;replace a:=sK a hb;clear hb hbox hg;have cb:=c.out;have cc:=d.out;obtain⟨cd,ce,cf,cg,ch,ci,cj,ck,cl,cm,cn,co,cp,cq,cr,ct,cu,cv,cw,cx⟩:=cells10 a.out;obtain⟨cy,cz,cA,cB,cC,cD,cE,cF,cG,cH,cI,cJ,cK,cL,cM,cN,cO,cP,cQ,cR⟩:=cells10 b.out)|((with_reducible refine gate_callee (f:=21) rfl ?_);refine sC (some 29) Try.func21 #[.slice A0_4 l0_4.length c0_4,.slice A1_4 l1_4.length c1_4] (laws_eqValueS.calls k _ _ l0_4 _ _ l1_4 true _ ?side1 ?side2 ?side3 ?side4 B.out) ?_;(case side1=>exact sD (zC x.out HB.out));(case side2=>exact y.out);(case side3=>exact sD (zC z.out HB.out));(case side4=>exact A.out);rintro e cS ⟨rfl,hb⟩;refine⟨_,rfl,?_⟩;replace a:=sK a hb;replace b:=sK b hb;replace HB:=sB HB hb;(try clear hb);obtain⟨cT,cU,cV,cW,cX,cY,cZ,c1,c2,c9,da,db,dc,dd,de,df,dg,dh,di,dj⟩:=cells10 a.out;obtain⟨dk,dl,dm,dn,dp,dq,dr,ds,dt,du,dv,dw,dx,dy,dz,dA,dB,dC,dD,dE⟩:=cells10 b.out)|((with_reducible refine gate_callee (f:=21) rfl ?_);refine sC (some 35) Try.func21 #[.slice A0_5 l0_5.length c0_5,.slice A1_5 l1_5.length c1_5] (laws_eqValueS.calls k _ _ l0_5 _ _ l1_5 true _ ?side1 ?side2 ?side3 ?side4 P.out) ?_;(case side1=>exact sD (zC G.out HB.out));(case side2=>exact I.out);(case side3=>exact sD (zC J.out HB.out));(case side4=>exact K.out);rintro e dF ⟨rfl,hb⟩;refine⟨_,rfl,?_⟩;replace a:=sK a hb;replace b:=sK b hb;replace HB:=sB HB hb;(try clear hb);obtain⟨dG,dH,dI,dJ,dK,dL,dM,dN,dO,dP,dQ,dR,dS,dT,dU,dV,dW,dX,dY,dZ⟩:=cells10 a.out;obtain⟨d0,d1,d2,d3,d4,d5,d6,d7,d8,d9,ea,eb,ec,ed,ee,ef,eg,eh,ei,ej⟩:=cells10 b.out)|((with_reducible refine gate_callee (f:=15) rfl ?_);refine sC (some 41) Try.func15 #[.agg #[.int .i64 a0_6,.int .i64 a0_7,.string a0_8,.int .i64 a0_9],.agg #[.int .i64 a1_6,.int .i64 a1_7,.string a1_8,.int .i64 a1_9]] (laws_eqValue.calls a0_6 a0_7 a0_8 a0_9 a1_6 a1_7 a1_8 a1_9 false _ Q.out) ?_;rintro e ek ⟨rfl,hb⟩;refine⟨_,rfl,?_⟩;replace a:=sK a hb;replace b:=sK b hb;replace HB:=sB HB hb;(try clear hb)))
 go_ret
 exact⟨sq,sb⟩)
 replace E:=zB E
 subst E
 rewrite[if_neg zQ]at H
 obtain rfl:=zI H
 go_enter Try.func30,Try.ntmps30
 go_wp2_with (first|((with_reducible refine gate_dst (N:=2) rfl ?_);refine sV (N:=2) (cs:= #[.int .i64 a0_0,.int .i64 a0_1,.string a0_2,.int .i64 a0_3,.slice A0_4 l0_4.length c0_4,.slice A0_5 l0_5.length c0_5,.int .i64 a0_6,.int .i64 a0_7,.string a0_8,.int .i64 a0_9]) (t:=56) ?_;intro n hg el hbox hb;have a:=zM (hbox);have p:=sG HB hg;have q:=sG HB hg;replace HB:=sB HB hb;clear hb hbox hg)|((with_reducible refine gate_dst (N:=3) rfl ?_);refine sV (N:=3) (cs:= #[.int .i64 a1_0,.int .i64 a1_1,.string a1_2,.int .i64 a1_3,.slice A1_4 l1_4.length c1_4,.slice A1_5 l1_5.length c1_5,.int .i64 a1_6,.int .i64 a1_7,.string a1_8,.int .i64 a1_9]) (t:=56) ?_;intro s hg em hbox hb;have b:=zM (hbox);have u:=sG HB hg;have v:=sG HB hg;replace HB:=sB HB hb;have c:=sN a hg;have d:=sM a hg;replace a:=sK a hb;clear hb hbox hg;have en:=c.out;have eo:=d.out;obtain⟨ep,er,es,et,eu,ev,ew,ex,ey,ez,eA,eB,eC,eD,eE,eF,eG,eH,eI,eJ⟩:=cells10 a.out;obtain⟨eK,eL,eM,eN,eO,eP,eQ,eR,eS,eT,eU,eV,eW,eX,eY,eZ,e0,e1,e2,e3⟩:=cells10 b.out)|((with_reducible refine gate_callee (f:=21) rfl ?_);refine sC (some 29) Try.func21 #[.slice A0_4 l0_4.length c0_4,.slice A1_4 l1_4.length c1_4] (laws_eqValueS.calls k _ _ l0_4 _ _ l1_4 true _ ?side1 ?side2 ?side3 ?side4 B.out) ?_;(case side1=>exact sD (zC x.out HB.out));(case side2=>exact y.out);(case side3=>exact sD (zC z.out HB.out));(case side4=>exact A.out);rintro e e4 ⟨rfl,hb⟩;refine⟨_,rfl,?_⟩;replace a:=sK a hb;replace b:=sK b hb;replace HB:=sB HB hb;(try clear hb);obtain⟨e5,e6,e7,e8,e9,fa,fb,fc,fd,fe,ff,fg,fh,fi,fj,fk,fl,fm,fn,fo⟩:=cells10 a.out;obtain⟨fp,fq,fr,fs,ft,fu,fv,fw,fx,fy,fz,fA,fB,fC,fD,fE,fF,fG,fH,fI⟩:=cells10 b.out)|((with_reducible refine gate_callee (f:=21) rfl ?_);refine sC (some 35) Try.func21 #[.slice A0_5 l0_5.length c0_5,.slice A1_5 l1_5.length c1_5] (laws_eqValueS.calls k _ _ l0_5 _ _ l1_5 false _ ?side1 ?side2 ?side3 ?side4 P.out) ?_;(case side1=>exact sD (zC G.out HB.out));(case side2=>exact I.out);(case side3=>exact sD (zC J.out HB.out));(case side4=>exact K.out);rintro e fJ ⟨rfl,hb⟩;refine⟨_,rfl,?_⟩;replace a:=sK a hb;replace b:=sK b hb;replace HB:=sB HB hb;(try clear hb)))
 go_ret
 exact⟨sq,sb⟩)
 replace D:=zB D
 subst D
 rewrite[if_neg zQ]at H
 obtain rfl:=zI H
 go_enter Try.func30,Try.ntmps30
 go_wp2_with (first|((with_reducible refine gate_dst (N:=2) rfl ?_);refine sV (N:=2) (cs:= #[.int .i64 a0_0,.int .i64 a0_1,.string a0_2,.int .i64 a0_3,.slice A0_4 l0_4.length c0_4,.slice A0_5 l0_5.length c0_5,.int .i64 a0_6,.int .i64 a0_7,.string a0_8,.int .i64 a0_9]) (t:=56) ?_;intro n hg fK hbox hb;have a:=zM (hbox);have p:=sG HB hg;have q:=sG HB hg;replace HB:=sB HB hb;clear hb hbox hg)|((with_reducible refine gate_dst (N:=3) rfl ?_);refine sV (N:=3) (cs:= #[.int .i64 a1_0,.int .i64 a1_1,.string a1_2,.int .i64 a1_3,.slice A1_4 l1_4.length c1_4,.slice A1_5 l1_5.length c1_5,.int .i64 a1_6,.int .i64 a1_7,.string a1_8,.int .i64 a1_9]) (t:=56) ?_;intro s hg fL hbox hb;have b:=zM (hbox);have u:=sG HB hg;have v:=sG HB hg;replace HB:=sB HB hb;have c:=sN a hg;have d:=sM a hg;replace a:=sK a hb;clear hb hbox hg;have fM:=c.out;have fN:=d.out;obtain⟨fO,fP,fQ,fR,fS,fT,fU,fV,fW,fX,fY,fZ,f4,f5,f6,f7,f8,f9,ga,gb⟩:=cells10 a.out;obtain⟨gc,gd,gf,gg,gh,gi,gj,gl,gm,gn,go,gp,gq,gr,gs,gu,gv,gw,gx,gy⟩:=cells10 b.out)|((with_reducible refine gate_callee (f:=21) rfl ?_);refine sC (some 29) Try.func21 #[.slice A0_4 l0_4.length c0_4,.slice A1_4 l1_4.length c1_4] (laws_eqValueS.calls k _ _ l0_4 _ _ l1_4 false _ ?side1 ?side2 ?side3 ?side4 B.out) ?_;(case side1=>exact sD (zC x.out HB.out));(case side2=>exact y.out);(case side3=>exact sD (zC z.out HB.out));(case side4=>exact A.out);rintro e gz ⟨rfl,hb⟩;refine⟨_,rfl,?_⟩;replace a:=sK a hb;replace b:=sK b hb;replace HB:=sB HB hb;(try clear hb)))
 go_ret
 exact⟨sq,sb⟩)
 rw[if_neg m]at H
 have c6b0:(a0_3==a1_3)=false:=zN m
 have c6b1:(a0_3 !=a1_3)=true:=zX m
 obtain rfl:=zI H
 go_enter Try.func30,Try.ntmps30
 go_wp2_with (first|((with_reducible refine gate_dst (N:=2) rfl ?_);refine sV (N:=2) (cs:= #[.int .i64 a0_0,.int .i64 a0_1,.string a0_2,.int .i64 a0_3,.slice A0_4 l0_4.length c0_4,.slice A0_5 l0_5.length c0_5,.int .i64 a0_6,.int .i64 a0_7,.string a0_8,.int .i64 a0_9]) (t:=56) ?_;intro n hg gA hbox hb;have a:=zM (hbox);have p:=sG HB hg;have q:=sG HB hg;replace HB:=sB HB hb;clear hb hbox hg)|((with_reducible refine gate_dst (N:=3) rfl ?_);refine sV (N:=3) (cs:= #[.int .i64 a1_0,.int .i64 a1_1,.string a1_2,.int .i64 a1_3,.slice A1_4 l1_4.length c1_4,.slice A1_5 l1_5.length c1_5,.int .i64 a1_6,.int .i64 a1_7,.string a1_8,.int .i64 a1_9]) (t:=56) ?_;intro s hg gB hbox hb;have b:=zM (hbox);have u:=sG HB hg;have v:=sG HB hg;replace HB:=sB HB hb;have c:=sN a hg;have d:=sM a hg;replace a:=sK a hb;clear hb hbox hg;have gC:=c.out;have gD:=d.out;obtain⟨gE,gF,gG,gH,gI,gJ,gK,gL,gM,gN,gO,gP,gQ,gR,gS,gT,gU,gV,gW,gX⟩:=cells10 a.out;obtain⟨gY,gZ,g0,g1,g2,g3,g4,g5,g6,g7,g8,g9,ha,hc,hd,he,hf,hh,hi,hj⟩:=cells10 b.out))
 go_ret
 exact⟨sq,sb⟩)
 rw[if_neg l]at H
 have c5b0:(a0_2.toList==a1_2.toList)=false:=zN l
 have c5b1:(a0_2.toList !=a1_2.toList)=true:=zX l
 obtain rfl:=zI H
 go_enter Try.func30,Try.ntmps30
 go_wp2_with (first|((with_reducible refine gate_dst (N:=2) rfl ?_);refine sV (N:=2) (cs:= #[.int .i64 a0_0,.int .i64 a0_1,.string a0_2,.int .i64 a0_3,.slice A0_4 l0_4.length c0_4,.slice A0_5 l0_5.length c0_5,.int .i64 a0_6,.int .i64 a0_7,.string a0_8,.int .i64 a0_9]) (t:=56) ?_;intro n hg hk hbox hb;have a:=zM (hbox);have p:=sG HB hg;have q:=sG HB hg;replace HB:=sB HB hb;clear hb hbox hg)|((with_reducible refine gate_dst (N:=3) rfl ?_);refine sV (N:=3) (cs:= #[.int .i64 a1_0,.int .i64 a1_1,.string a1_2,.int .i64 a1_3,.slice A1_4 l1_4.length c1_4,.slice A1_5 l1_5.length c1_5,.int .i64 a1_6,.int .i64 a1_7,.string a1_8,.int .i64 a1_9]) (t:=56) ?_;intro s hg hl hbox hb;have b:=zM (hbox);have u:=sG HB hg;have v:=sG HB hg;replace HB:=sB HB hb;have c:=sN a hg;have d:=sM a hg;replace a:=sK a hb;clear hb hbox hg;have hm:=c.out;have hn:=d.out;obtain⟨ho,hp,hq,hr,hs,ht,hu,hv,hw,hx,hy,hz,hA,hB,hC,hD,hE,hF,hG,hH⟩:=cells10 a.out;obtain⟨hI,hJ,hK,hL,hM,hN,hO,hP,hQ,hR,hS,hT,hU,hV,hW,hX,hY,hZ,h0,h1⟩:=cells10 b.out))
 go_ret
 exact⟨sq,sb⟩)
 rw[if_neg j]at H
 have c4b0:(a0_1==a1_1)=false:=zN j
 have c4b1:(a0_1 !=a1_1)=true:=zX j
 obtain rfl:=zI H
 go_enter Try.func30,Try.ntmps30
 go_wp2_with (first|((with_reducible refine gate_dst (N:=2) rfl ?_);refine sV (N:=2) (cs:= #[.int .i64 a0_0,.int .i64 a0_1,.string a0_2,.int .i64 a0_3,.slice A0_4 l0_4.length c0_4,.slice A0_5 l0_5.length c0_5,.int .i64 a0_6,.int .i64 a0_7,.string a0_8,.int .i64 a0_9]) (t:=56) ?_;intro n hg h2 hbox hb;have a:=zM (hbox);have p:=sG HB hg;have q:=sG HB hg;replace HB:=sB HB hb;clear hb hbox hg)|((with_reducible refine gate_dst (N:=3) rfl ?_);refine sV (N:=3) (cs:= #[.int .i64 a1_0,.int .i64 a1_1,.string a1_2,.int .i64 a1_3,.slice A1_4 l1_4.length c1_4,.slice A1_5 l1_5.length c1_5,.int .i64 a1_6,.int .i64 a1_7,.string a1_8,.int .i64 a1_9]) (t:=56) ?_;intro s hg h3 hbox hb;have b:=zM (hbox);have u:=sG HB hg;have v:=sG HB hg;replace HB:=sB HB hb;have c:=sN a hg;have d:=sM a hg;replace a:=sK a hb;clear hb hbox hg;have h4:=c.out;have h5:=d.out;obtain⟨h6,h7,h8,h9,ia,ib,ic,ie,ig,ih,ii,ij,ik,il,im,ip,iq,ir,it,iu⟩:=cells10 a.out;obtain⟨iv,iw,ix,iy,iz,iA,iB,iC,iD,iE,iF,iG,iH,iI,iJ,iK,iL,iM,iN,iO⟩:=cells10 b.out))
 go_ret
 exact⟨sq,sb⟩)
 rw[if_neg i]at H
 have c3b0:(a0_0==a1_0)=false:=zN i
 have c3b1:(a0_0 !=a1_0)=true:=zX i
 obtain rfl:=zI H
 go_enter Try.func30,Try.ntmps30
 go_wp2_with (first|((with_reducible refine gate_dst (N:=2) rfl ?_);refine sV (N:=2) (cs:= #[.int .i64 a0_0,.int .i64 a0_1,.string a0_2,.int .i64 a0_3,.slice A0_4 l0_4.length c0_4,.slice A0_5 l0_5.length c0_5,.int .i64 a0_6,.int .i64 a0_7,.string a0_8,.int .i64 a0_9]) (t:=56) ?_;intro n hg iP hbox hb;have a:=zM (hbox);have p:=sG HB hg;have q:=sG HB hg;replace HB:=sB HB hb;clear hb hbox hg)|((with_reducible refine gate_dst (N:=3) rfl ?_);refine sV (N:=3) (cs:= #[.int .i64 a1_0,.int .i64 a1_1,.string a1_2,.int .i64 a1_3,.slice A1_4 l1_4.length c1_4,.slice A1_5 l1_5.length c1_5,.int .i64 a1_6,.int .i64 a1_7,.string a1_8,.int .i64 a1_9]) (t:=56) ?_;intro s hg iQ hbox hb;have b:=zM (hbox);have u:=sG HB hg;have v:=sG HB hg;replace HB:=sB HB hb;have c:=sN a hg;have d:=sM a hg;replace a:=sK a hb;clear hb hbox hg;have iR:=c.out;have iS:=d.out;obtain⟨iT,iU,iV,iW,iX,iY,iZ,i0,i1,i2,i3,i4,i5,i6,i7,i8,i9,ja,jb,jc⟩:=cells10 a.out;obtain⟨jd,je,jf,jg,jh,ji,jj,jk,jl,jm,jn,jo,jp,jq,jr,js,jt,ju,jv,jw⟩:=cells10 b.out))
 go_ret
 exact⟨sq,sb⟩
end Go.Proofs.Ytengilknjiobiaa.PFnExactRefsOf
