/- Printed functions: laws_szValue, laws_szValueS, laws_szObject. -/
import Derived.Test.YtengilknjiobiaaYRoP0
namespace Go.Proofs.Ytengilknjiobiaa.PFnExactRefsOf
open Go.RowKit Go.Proofs.YtengilknjiobiaaG Go.Proofs.YtengilknjiobiaaW.PrintWords Go.Proofs.YtengilknjiobiaaW.PrintLast Go.Proofs.YtengilknjiobiaaW.PrintMore
attribute [local go_sem] max2_int min2_int max_two min_two max_three min_three max_four min_four
set_option linter.unusedVariables false
set_option linter.unusedSimpArgs false
def laws_szValue.f (a0_0:Int) (a0_1:Int) (a0_2:ByteArray) (a0_3:Int) (a1:Int):Option (Int):=if(wrap64 (a1-(a0_2.size:Int)))<0 then(some (-1))else(some (wrap64 (a1-(a0_2.size:Int))))
set_option maxHeartbeats 8000000 in
set_option maxRecDepth 100000 in
theorem laws_szValue.calls (a0_0:Int) (a0_1:Int) (a0_2:ByteArray) (a0_3:Int) (a1:Int) (r:Int) (w:World) (h:laws_szValue.f a0_0 a0_1 a0_2 a0_3 a1=some r):
  Calls Try.prog 10 #[.agg #[.int .i64 a0_0,.int .i64 a0_1,.string a0_2,.int .i64 a0_3],.int .i64 a1] w fun e w'=>e= .returned (.int .i64 r)∧Below w.heap.size w w':=by
 have i:=Try.underlying26
 have HB:=zM (Below.refl w.heap.size w)
 have H:(if(wrap64 (a1-(a0_2.size:Int)))<0 then(some (-1))else(some (wrap64 (a1-(a0_2.size:Int)))))=some r:=h
 clear h
 by_cases a:(wrap64 (a1-(a0_2.size:Int)))<0
 ·(
 rw[if_pos a]at H
 have c3b0:=zT a
 clear a
 obtain rfl:=zI H
 go_enter Try.func10,Try.ntmps10
 go_wp2_with (first|((with_reducible refine gate_dst (N:=2) rfl ?_);refine sV (N:=2) (cs:= #[.int .i64 a0_0,.int .i64 a0_1,.string a0_2,.int .i64 a0_3]) (t:=26) ?_;intro c hg j hbox hb;have b:=zM (hbox);have d:=sG HB hg;have g:=sG HB hg;replace HB:=sB HB hb;clear hb hbox hg;obtain⟨l,m,n,o,p,q,s,u⟩:=cells4 b.out))
 go_ret
 exact⟨sq,sb⟩)
 rw[if_neg a]at H
 have c3b0:=zF a
 clear a
 obtain rfl:=zI H
 go_enter Try.func10,Try.ntmps10
 go_wp2_with (first|((with_reducible refine gate_dst (N:=2) rfl ?_);refine sV (N:=2) (cs:= #[.int .i64 a0_0,.int .i64 a0_1,.string a0_2,.int .i64 a0_3]) (t:=26) ?_;intro c hg v hbox hb;have b:=zM (hbox);have d:=sG HB hg;have g:=sG HB hg;replace HB:=sB HB hb;clear hb hbox hg;obtain⟨x,y,z,A,B,D,E,F⟩:=cells4 b.out))
 go_ret
 exact⟨sq,sb⟩
def laws_szValueS.l0 : Nat → List (S26) → Int → Int → Option (Int)
 |0,_,_,_=>none
 |k+1,x0,x1,x5=>if x5<(x0.length:Int)then(if 0≤x5 then((laws_szValue.f ((rd_T26 x0 x5).f0) ((rd_T26 x0 x5).f1) ((rd_T26 x0 x5).f2) ((rd_T26 x0 x5).f3) x1).bind fun t103=>(if t103<0 then(some (-1))else(laws_szValueS.l0 k x0 t103 (wrap64 (x5+1)))))else(none))else(some x1)
def laws_szValueS.f (k:Nat) (l0:List (S26)) (a1:Int):Option (Int):=if(wrap64 (a1-(l0.length:Int)))<0 then(some (-1))else(laws_szValueS.l0 k l0 (wrap64 (a1-(l0.length:Int))) 0)
set_option maxHeartbeats 8000000 in
set_option maxRecDepth 100000 in
theorem laws_szValueS.calls (k:Nat) (A0:Option Addr) (c0:Nat) (l0:List (S26)) (a1:Int) (r:Int) (w:World) (hr0:Kd.C k26 w A0 l0.length l0) (hc0:l0.length≤c0) (h:laws_szValueS.f k l0 a1=some r):
  Calls Try.prog 34 #[.slice A0 l0.length c0,.int .i64 a1] w fun e w'=>e= .returned (.int .i64 r)∧Below w.heap.size w w':=by
 have B:=Try.underlying26
 have u:=zM hr0
 have D:=zM hc0
 clear hr0 hc0
 have HB:=zM (Below.refl w.heap.size w)
 have H:(if(wrap64 (a1-(l0.length:Int)))<0 then(some (-1))else(laws_szValueS.l0 k l0 (wrap64 (a1-(l0.length:Int))) 0))=some r:=h
 clear h
 by_cases b:(wrap64 (a1-(l0.length:Int)))<0
 ·(
 rw[if_pos b]at H
 have c3b0:=zT b
 clear b
 obtain rfl:=zI H
 go_enter Try.func34,Try.ntmps34
 go_wp2
 go_ret
 exact⟨sq,sb⟩)
 rw[if_neg b]at H
 have c3b0:=zF b
 clear b
 have H':=zM H
 clear H
 go_enter Try.func34,Try.ntmps34
 go_wp2
 go_loopg [1,5] k (fun kq y z w'=>∃(c:Int) (a:Int),y= .int .i64 c∧z= .int .i64 a∧Aside0 (laws_szValueS.l0 kq l0 c a=some r)∧Aside0 (kq≤k)∧Aside0 (Below w.heap.size w w'))
 case atStart=>exact⟨(wrap64 (a1-(l0.length:Int))),(0),sr,sr,H',⟨Nat.le_refl _⟩,⟨sb⟩⟩
 case round=>(
 clear H'
 try clear b
 try clear c3b0
 obtain⟨c,a,rfl,rfl,HA,v,HB⟩:=hrel
 cases gk with
 |zero=>exact absurd HA.out (by simp[laws_szValueS.l0])
 |succ k1=>(
 have H:=HA.out
 clear HA
 simp only[laws_szValueS.l0]at H
 by_cases i:a<(l0.length:Int)
 ·(
 rw[if_pos i]at H
 have c4b0:=zT i
 clear i
 by_cases p:0≤a
 ·(
 rw[if_pos p]at H
 have c5b0:=zT p
 clear p
 obtain⟨q,x,H⟩:=sO H
 by_cases j:q<0
 ·(
 rw[if_pos j]at H
 have c7b0:=zT j
 clear j
 obtain rfl:=zI H
 have d:0≤(a:Int):=zzA
 have g:a<(l0.length:Int):=zzA
 obtain⟨A,s,l,m,n,o⟩:=at_T26 u.out a d g
 cases s
 replace l:=sX HB l
 replace m:=sX HB m
 replace n:=sX HB n
 replace o:=sX HB o
 replace d:=eq_true d
 replace g:=eq_true g
 go_wp2_with (first|((with_reducible refine gate_callee (f:=10) rfl ?_);refine sC (some 23) Try.func10 #[.agg #[.int .i64 ((rd_T26 l0 a).f0),.int .i64 ((rd_T26 l0 a).f1),.string ((rd_T26 l0 a).f2),.int .i64 ((rd_T26 l0 a).f3)],.int .i64 c] (laws_szValue.calls ((rd_T26 l0 a).f0) ((rd_T26 l0 a).f1) ((rd_T26 l0 a).f2) ((rd_T26 l0 a).f3) c q _ x.out) ?_;rintro e E ⟨rfl,hb⟩;refine⟨_,rfl,?_⟩;replace HB:=sB HB hb;(try clear hb)))
 go_ret
 exact⟨sq,sb⟩)
 rw[if_neg j]at H
 have c7b0:=zF j
 clear j
 have H':=zM H
 clear H
 have d:0≤(a:Int):=zzA
 have g:a<(l0.length:Int):=zzA
 obtain⟨A,s,l,m,n,o⟩:=at_T26 u.out a d g
 cases s
 replace l:=sX HB l
 replace m:=sX HB m
 replace n:=sX HB n
 replace o:=sX HB o
 replace d:=eq_true d
 replace g:=eq_true g
 go_wp2_with (first|((with_reducible refine gate_callee (f:=10) rfl ?_);refine sC (some 23) Try.func10 #[.agg #[.int .i64 ((rd_T26 l0 a).f0),.int .i64 ((rd_T26 l0 a).f1),.string ((rd_T26 l0 a).f2),.int .i64 ((rd_T26 l0 a).f3)],.int .i64 c] (laws_szValue.calls ((rd_T26 l0 a).f0) ((rd_T26 l0 a).f1) ((rd_T26 l0 a).f2) ((rd_T26 l0 a).f3) c q _ x.out) ?_;rintro e F ⟨rfl,hb⟩;refine⟨_,rfl,?_⟩;replace HB:=sB HB hb;(try clear hb)))
 go_roundg k1
 case measure=>have:=v.out;omega
 case rel=>exact⟨(q),(wrap64 (a+1)),sr,sr,H',⟨by have:=v.out;omega⟩,⟨sb⟩⟩)
 rw[if_neg p]at H
 exact absurd H (by simp))
 rw[if_neg i]at H
 have c4b0:=zF i
 clear i
 obtain rfl:=zI H
 go_wp2
 go_ret
 exact⟨sq,sb⟩))
def laws_szObject.f (k:Nat) (a0_0:Int) (a0_1:Int) (a0_2:ByteArray) (a0_3:Int) (l0_4:List (S26)) (l0_5:List (S26)) (a0_6:Int) (a0_7:Int) (a0_8:ByteArray) (a0_9:Int) (a1:Int):Option (Int):=if(wrap64 (a1-(a0_2.size:Int)))<0 then(some (-1))else((laws_szValueS.f k l0_4 (wrap64 (a1-(a0_2.size:Int)))).bind fun t105=>(if t105<0 then(some (-1))else((laws_szValueS.f k l0_5 t105).bind fun t106=>(if t106<0 then(some (-1))else((laws_szValue.f a0_6 a0_7 a0_8 a0_9 t106).bind fun t107=>(if t107<0 then(some (-1))else(some t107)))))))
set_option maxHeartbeats 8000000 in
set_option maxRecDepth 100000 in
theorem laws_szObject.calls (k:Nat) (a0_0:Int) (a0_1:Int) (a0_2:ByteArray) (a0_3:Int) (A0_4:Option Addr) (c0_4:Nat) (l0_4:List (S26)) (A0_5:Option Addr) (c0_5:Nat) (l0_5:List (S26)) (a0_6:Int) (a0_7:Int) (a0_8:ByteArray) (a0_9:Int) (a1:Int) (r:Int) (w:World) (hr0_4:Kd.C k26 w A0_4 l0_4.length l0_4) (hc0_4:l0_4.length≤c0_4) (hr0_5:Kd.C k26 w A0_5 l0_5.length l0_5) (hc0_5:l0_5.length≤c0_5) (h:laws_szObject.f k a0_0 a0_1 a0_2 a0_3 l0_4 l0_5 a0_6 a0_7 a0_8 a0_9 a1=some r):
  Calls Try.prog 25 #[.agg #[.int .i64 a0_0,.int .i64 a0_1,.string a0_2,.int .i64 a0_3,.slice A0_4 l0_4.length c0_4,.slice A0_5 l0_5.length c0_5,.int .i64 a0_6,.int .i64 a0_7,.string a0_8,.int .i64 a0_9],.int .i64 a1] w fun e w'=>e= .returned (.int .i64 r)∧Below w.heap.size w w':=by
 have z:=Try.underlying51
 have A:=Try.underlying26
 have m:=zM hr0_4
 have n:=zM hc0_4
 clear hr0_4 hc0_4
 have u:=zM hr0_5
 have v:=zM hc0_5
 clear hr0_5 hc0_5
 have HB:=zM (Below.refl w.heap.size w)
 have H:(if(wrap64 (a1-(a0_2.size:Int)))<0 then(some (-1))else((laws_szValueS.f k l0_4 (wrap64 (a1-(a0_2.size:Int)))).bind fun b=>(if b<0 then(some (-1))else((laws_szValueS.f k l0_5 b).bind fun c=>(if c<0 then(some (-1))else((laws_szValue.f a0_6 a0_7 a0_8 a0_9 c).bind fun d=>(if d<0 then(some (-1))else(some d))))))))=some r:=h
 clear h
 by_cases g:(wrap64 (a1-(a0_2.size:Int)))<0
 ·(
 rw[if_pos g]at H
 have c3b0:=zT g
 clear g
 obtain rfl:=zI H
 go_enter Try.func25,Try.ntmps25
 go_wp2_with (first|((with_reducible refine gate_dst (N:=2) rfl ?_);refine sV (N:=2) (cs:= #[.int .i64 a0_0,.int .i64 a0_1,.string a0_2,.int .i64 a0_3,.slice A0_4 l0_4.length c0_4,.slice A0_5 l0_5.length c0_5,.int .i64 a0_6,.int .i64 a0_7,.string a0_8,.int .i64 a0_9]) (t:=51) ?_;intro o hg B hbox hb;have a:=zM (hbox);have p:=sG HB hg;have q:=sG HB hg;replace HB:=sB HB hb;clear hb hbox hg;obtain⟨D,E,F,G,I,J,K,L,M,O,P,Q,R,S,T,U,V,W,X,Y⟩:=cells10 a.out))
 go_ret
 exact⟨sq,sb⟩)
 rw[if_neg g]at H
 have c3b0:=zF g
 clear g
 obtain⟨b,s,H⟩:=sO H
 by_cases i:b<0
 ·(
 rw[if_pos i]at H
 have c7b0:=zT i
 clear i
 obtain rfl:=zI H
 go_enter Try.func25,Try.ntmps25
 go_wp2_with (first|((with_reducible refine gate_dst (N:=2) rfl ?_);refine sV (N:=2) (cs:= #[.int .i64 a0_0,.int .i64 a0_1,.string a0_2,.int .i64 a0_3,.slice A0_4 l0_4.length c0_4,.slice A0_5 l0_5.length c0_5,.int .i64 a0_6,.int .i64 a0_7,.string a0_8,.int .i64 a0_9]) (t:=51) ?_;intro o hg Z hbox hb;have a:=zM (hbox);have p:=sG HB hg;have q:=sG HB hg;replace HB:=sB HB hb;clear hb hbox hg;obtain⟨aa,ab,ac,ad,ae,af,ag,ah,ai,aj,ak,al,am,an,ao,ap,aq,ar,au,av⟩:=cells10 a.out)|((with_reducible refine gate_callee (f:=34) rfl ?_);refine sC (some 15) Try.func34 #[.slice A0_4 l0_4.length c0_4,.int .i64 (wrap64 (a1-(a0_2.size:Int)))] (laws_szValueS.calls k _ _ l0_4 (wrap64 (a1-(a0_2.size:Int))) b _ ?side1 ?side2 s.out) ?_;(case side1=>exact sD (zC m.out HB.out));(case side2=>exact n.out);rintro e aw ⟨rfl,hb⟩;refine⟨_,rfl,?_⟩;replace a:=sK a hb;replace HB:=sB HB hb;(try clear hb)))
 go_ret
 exact⟨sq,sb⟩)
 rw[if_neg i]at H
 have c7b0:=zF i
 clear i
 obtain⟨c,x,H⟩:=sO H
 by_cases j:c<0
 ·(
 rw[if_pos j]at H
 have c12b0:=zT j
 clear j
 obtain rfl:=zI H
 go_enter Try.func25,Try.ntmps25
 go_wp2_with (first|((with_reducible refine gate_dst (N:=2) rfl ?_);refine sV (N:=2) (cs:= #[.int .i64 a0_0,.int .i64 a0_1,.string a0_2,.int .i64 a0_3,.slice A0_4 l0_4.length c0_4,.slice A0_5 l0_5.length c0_5,.int .i64 a0_6,.int .i64 a0_7,.string a0_8,.int .i64 a0_9]) (t:=51) ?_;intro o hg ax hbox hb;have a:=zM (hbox);have p:=sG HB hg;have q:=sG HB hg;replace HB:=sB HB hb;clear hb hbox hg;obtain⟨ay,az,aA,aB,aC,aD,aE,aF,aG,aH,aI,aJ,aK,aL,aM,aN,aO,aP,aQ,aR⟩:=cells10 a.out)|((with_reducible refine gate_callee (f:=34) rfl ?_);refine sC (some 15) Try.func34 #[.slice A0_4 l0_4.length c0_4,.int .i64 (wrap64 (a1-(a0_2.size:Int)))] (laws_szValueS.calls k _ _ l0_4 (wrap64 (a1-(a0_2.size:Int))) b _ ?side1 ?side2 s.out) ?_;(case side1=>exact sD (zC m.out HB.out));(case side2=>exact n.out);rintro e aS ⟨rfl,hb⟩;refine⟨_,rfl,?_⟩;replace a:=sK a hb;replace HB:=sB HB hb;(try clear hb);obtain⟨aT,aU,aV,aW,aX,aY,aZ,a0,a2,a3,a4,a5,a6,a7,a8,a9,ba,bb,bc,bd⟩:=cells10 a.out)|((with_reducible refine gate_callee (f:=34) rfl ?_);refine sC (some 21) Try.func34 #[.slice A0_5 l0_5.length c0_5,.int .i64 b] (laws_szValueS.calls k _ _ l0_5 b c _ ?side1 ?side2 x.out) ?_;(case side1=>exact sD (zC u.out HB.out));(case side2=>exact v.out);rintro e be ⟨rfl,hb⟩;refine⟨_,rfl,?_⟩;replace a:=sK a hb;replace HB:=sB HB hb;(try clear hb)))
 go_ret
 exact⟨sq,sb⟩)
 rw[if_neg j]at H
 have c12b0:=zF j
 clear j
 obtain⟨d,y,H⟩:=sO H
 by_cases l:d<0
 ·(
 rw[if_pos l]at H
 have c19b0:=zT l
 clear l
 obtain rfl:=zI H
 go_enter Try.func25,Try.ntmps25
 go_wp2_with (first|((with_reducible refine gate_dst (N:=2) rfl ?_);refine sV (N:=2) (cs:= #[.int .i64 a0_0,.int .i64 a0_1,.string a0_2,.int .i64 a0_3,.slice A0_4 l0_4.length c0_4,.slice A0_5 l0_5.length c0_5,.int .i64 a0_6,.int .i64 a0_7,.string a0_8,.int .i64 a0_9]) (t:=51) ?_;intro o hg bf hbox hb;have a:=zM (hbox);have p:=sG HB hg;have q:=sG HB hg;replace HB:=sB HB hb;clear hb hbox hg;obtain⟨bg,bh,bi,bj,bk,bl,bm,bn,bo,bp,bq,br,bs,bt,bu,bv,bw,bx,bz,bA⟩:=cells10 a.out)|((with_reducible refine gate_callee (f:=34) rfl ?_);refine sC (some 15) Try.func34 #[.slice A0_4 l0_4.length c0_4,.int .i64 (wrap64 (a1-(a0_2.size:Int)))] (laws_szValueS.calls k _ _ l0_4 (wrap64 (a1-(a0_2.size:Int))) b _ ?side1 ?side2 s.out) ?_;(case side1=>exact sD (zC m.out HB.out));(case side2=>exact n.out);rintro e bB ⟨rfl,hb⟩;refine⟨_,rfl,?_⟩;replace a:=sK a hb;replace HB:=sB HB hb;(try clear hb);obtain⟨bC,bD,bE,bF,bG,bH,bI,bJ,bK,bL,bM,bN,bO,bP,bQ,bR,bS,bT,bU,bV⟩:=cells10 a.out)|((with_reducible refine gate_callee (f:=34) rfl ?_);refine sC (some 21) Try.func34 #[.slice A0_5 l0_5.length c0_5,.int .i64 b] (laws_szValueS.calls k _ _ l0_5 b c _ ?side1 ?side2 x.out) ?_;(case side1=>exact sD (zC u.out HB.out));(case side2=>exact v.out);rintro e bW ⟨rfl,hb⟩;refine⟨_,rfl,?_⟩;replace a:=sK a hb;replace HB:=sB HB hb;(try clear hb);obtain⟨bX,bY,bZ,b0,b1,b2,b3,b4,b5,b6,b7,b8,b9,ca,cb,cc,cd,ce,cf,cg⟩:=cells10 a.out)|((with_reducible refine gate_callee (f:=10) rfl ?_);refine sC (some 27) Try.func10 #[.agg #[.int .i64 a0_6,.int .i64 a0_7,.string a0_8,.int .i64 a0_9],.int .i64 c] (laws_szValue.calls a0_6 a0_7 a0_8 a0_9 c d _ y.out) ?_;rintro e ch ⟨rfl,hb⟩;refine⟨_,rfl,?_⟩;replace a:=sK a hb;replace HB:=sB HB hb;(try clear hb)))
 go_ret
 exact⟨sq,sb⟩)
 rw[if_neg l]at H
 have c19b0:=zF l
 clear l
 obtain rfl:=zI H
 go_enter Try.func25,Try.ntmps25
 go_wp2_with (first|((with_reducible refine gate_dst (N:=2) rfl ?_);refine sV (N:=2) (cs:= #[.int .i64 a0_0,.int .i64 a0_1,.string a0_2,.int .i64 a0_3,.slice A0_4 l0_4.length c0_4,.slice A0_5 l0_5.length c0_5,.int .i64 a0_6,.int .i64 a0_7,.string a0_8,.int .i64 a0_9]) (t:=51) ?_;intro o hg ci hbox hb;have a:=zM (hbox);have p:=sG HB hg;have q:=sG HB hg;replace HB:=sB HB hb;clear hb hbox hg;obtain⟨cj,ck,cl,cm,cn,co,cp,cq,cr,ct,cu,cv,cw,cx,cy,cz,cA,cB,cC,cD⟩:=cells10 a.out)|((with_reducible refine gate_callee (f:=34) rfl ?_);refine sC (some 15) Try.func34 #[.slice A0_4 l0_4.length c0_4,.int .i64 (wrap64 (a1-(a0_2.size:Int)))] (laws_szValueS.calls k _ _ l0_4 (wrap64 (a1-(a0_2.size:Int))) b _ ?side1 ?side2 s.out) ?_;(case side1=>exact sD (zC m.out HB.out));(case side2=>exact n.out);rintro e cE ⟨rfl,hb⟩;refine⟨_,rfl,?_⟩;replace a:=sK a hb;replace HB:=sB HB hb;(try clear hb);obtain⟨cF,cG,cH,cI,cJ,cK,cL,cM,cN,cO,cP,cQ,cR,cS,cT,cU,cV,cW,cX,cY⟩:=cells10 a.out)|((with_reducible refine gate_callee (f:=34) rfl ?_);refine sC (some 21) Try.func34 #[.slice A0_5 l0_5.length c0_5,.int .i64 b] (laws_szValueS.calls k _ _ l0_5 b c _ ?side1 ?side2 x.out) ?_;(case side1=>exact sD (zC u.out HB.out));(case side2=>exact v.out);rintro e cZ ⟨rfl,hb⟩;refine⟨_,rfl,?_⟩;replace a:=sK a hb;replace HB:=sB HB hb;(try clear hb);obtain⟨c1,c2,c6,c8,c9,da,db,dc,dd,de,df,dg,dh,di,dj,dk,dl,dm,dn,dp⟩:=cells10 a.out)|((with_reducible refine gate_callee (f:=10) rfl ?_);refine sC (some 27) Try.func10 #[.agg #[.int .i64 a0_6,.int .i64 a0_7,.string a0_8,.int .i64 a0_9],.int .i64 c] (laws_szValue.calls a0_6 a0_7 a0_8 a0_9 c d _ y.out) ?_;rintro e dq ⟨rfl,hb⟩;refine⟨_,rfl,?_⟩;replace a:=sK a hb;replace HB:=sB HB hb;(try clear hb)))
 go_ret
 exact⟨sq,sb⟩
end Go.Proofs.Ytengilknjiobiaa.PFnExactRefsOf
