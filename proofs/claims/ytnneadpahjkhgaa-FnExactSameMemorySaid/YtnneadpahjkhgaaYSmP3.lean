/- Printed functions: laws_szScope, laws_szMemory. -/
import Derived.Test.YtnneadpahjkhgaaYSmP0
import Derived.Test.YtnneadpahjkhgaaYSmP1
import Derived.Test.YtnneadpahjkhgaaYSmP2
import Derived.Test.YtnneadpahjkhgaaYSmP4
namespace Go.Proofs.Ytnneadpahjkhgaa.PFnExactSameMemory
open Go.RowKit Go.Proofs.YtnneadpahjkhgaaG Go.Proofs.YtnneadpahjkhgaaW.PrintWords Go.Proofs.YtnneadpahjkhgaaW.PrintLast Go.Proofs.YtnneadpahjkhgaaW.PrintMore
attribute [local go_sem] max2_int min2_int max_two min_two max_three min_three max_four min_four
set_option linter.unusedVariables false
set_option linter.unusedSimpArgs false
def laws_szScope.f (k:Nat) (l0_0:List (S134)) (l0_1:List (S136)) (l0_2:List (S138)) (a1:Int):Option (Int):=(laws_szBindingS.f k l0_0 a1).bind fun t127=>(if t127<0 then(some (-1))else((laws_szFunctionS.f k l0_1 t127).bind fun t128=>(if t128<0 then(some (-1))else((laws_szRecordTypeS.f k l0_2 t128).bind fun t129=>(if t129<0 then(some (-1))else(some t129))))))
set_option maxHeartbeats 8000000 in
set_option maxRecDepth 100000 in
theorem laws_szScope.calls (k:Nat) (A0_0:Option Addr) (c0_0:Nat) (l0_0:List (S134)) (A0_1:Option Addr) (c0_1:Nat) (l0_1:List (S136)) (A0_2:Option Addr) (c0_2:Nat) (l0_2:List (S138)) (a1:Int) (r:Int) (w:World) (hr0_0:Kd.C k134 w A0_0 l0_0.length l0_0) (hc0_0:l0_0.length≤c0_0) (hr0_1:Kd.C k136 w A0_1 l0_1.length l0_1) (hc0_1:l0_1.length≤c0_1) (hr0_2:Kd.C k138 w A0_2 l0_2.length l0_2) (hc0_2:l0_2.length≤c0_2) (h:laws_szScope.f k l0_0 l0_1 l0_2 a1=some r):
  Calls Try.prog 20 #[.agg #[.slice A0_0 l0_0.length c0_0,.slice A0_1 l0_1.length c0_1,.slice A0_2 l0_2.length c0_2],.int .i64 a1] w fun e w'=>e= .returned (.int .i64 r)∧Below w.heap.size w w':=by
 have A:=Try.underlying50
 have l:=zM hr0_0
 have m:=zM hc0_0
 clear hr0_0 hc0_0
 have o:=zM hr0_1
 have p:=zM hc0_1
 clear hr0_1 hc0_1
 have x:=zM hr0_2
 have y:=zM hc0_2
 clear hr0_2 hc0_2
 have HB:=zM (Below.refl w.heap.size w)
 have H:((laws_szBindingS.f k l0_0 a1).bind fun b=>(if b<0 then(some (-1))else((laws_szFunctionS.f k l0_1 b).bind fun c=>(if c<0 then(some (-1))else((laws_szRecordTypeS.f k l0_2 c).bind fun d=>(if d<0 then(some (-1))else(some d)))))))=some r:=h
 clear h
 obtain⟨b,n,H⟩:=sO H
 by_cases g:b<0
 ·(
 rw[if_pos g]at H
 have c4b0:=zT g
 clear g
 obtain rfl:=zI H
 go_enter Try.func20,Try.ntmps20
 go_wp2_with (first|((with_reducible refine gate_dst (N:=2) rfl ?_);refine sV (N:=2) (cs:= #[.slice A0_0 l0_0.length c0_0,.slice A0_1 l0_1.length c0_1,.slice A0_2 l0_2.length c0_2]) (t:=50) ?_;intro q hg B hbox hb;have a:=zM (hbox);have s:=sG HB hg;have u:=sG HB hg;replace HB:=sB HB hb;clear hb hbox hg;obtain⟨D,E,F,G,I,J⟩:=cells3 a.out)|((with_reducible refine gate_callee (f:=59) rfl ?_);refine sC (some 8) Try.func59 #[.slice A0_0 l0_0.length c0_0,.int .i64 a1] (laws_szBindingS.calls k _ _ l0_0 a1 b _ ?side1 ?side2 n.out) ?_;(case side1=>exact sD (zC l.out HB.out));(case side2=>exact m.out);rintro e K ⟨rfl,hb⟩;refine⟨_,rfl,?_⟩;replace a:=sK a hb;replace HB:=sB HB hb;(try clear hb)))
 go_ret
 exact⟨sq,sb⟩)
 rw[if_neg g]at H
 have c4b0:=zF g
 clear g
 obtain⟨c,v,H⟩:=sO H
 by_cases i:c<0
 ·(
 rw[if_pos i]at H
 have c9b0:=zT i
 clear i
 obtain rfl:=zI H
 go_enter Try.func20,Try.ntmps20
 go_wp2_with (first|((with_reducible refine gate_dst (N:=2) rfl ?_);refine sV (N:=2) (cs:= #[.slice A0_0 l0_0.length c0_0,.slice A0_1 l0_1.length c0_1,.slice A0_2 l0_2.length c0_2]) (t:=50) ?_;intro q hg L hbox hb;have a:=zM (hbox);have s:=sG HB hg;have u:=sG HB hg;replace HB:=sB HB hb;clear hb hbox hg;obtain⟨M,O,P,Q,R,S⟩:=cells3 a.out)|((with_reducible refine gate_callee (f:=59) rfl ?_);refine sC (some 8) Try.func59 #[.slice A0_0 l0_0.length c0_0,.int .i64 a1] (laws_szBindingS.calls k _ _ l0_0 a1 b _ ?side1 ?side2 n.out) ?_;(case side1=>exact sD (zC l.out HB.out));(case side2=>exact m.out);rintro e T ⟨rfl,hb⟩;refine⟨_,rfl,?_⟩;replace a:=sK a hb;replace HB:=sB HB hb;(try clear hb);obtain⟨U,V,W,X,Y,Z⟩:=cells3 a.out)|((with_reducible refine gate_callee (f:=60) rfl ?_);refine sC (some 14) Try.func60 #[.slice A0_1 l0_1.length c0_1,.int .i64 b] (laws_szFunctionS.calls k _ _ l0_1 b c _ ?side1 ?side2 v.out) ?_;(case side1=>exact sD (zC o.out HB.out));(case side2=>exact p.out);rintro e aa ⟨rfl,hb⟩;refine⟨_,rfl,?_⟩;replace a:=sK a hb;replace HB:=sB HB hb;(try clear hb)))
 go_ret
 exact⟨sq,sb⟩)
 rw[if_neg i]at H
 have c9b0:=zF i
 clear i
 obtain⟨d,z,H⟩:=sO H
 by_cases j:d<0
 ·(
 rw[if_pos j]at H
 have c16b0:=zT j
 clear j
 obtain rfl:=zI H
 go_enter Try.func20,Try.ntmps20
 go_wp2_with (first|((with_reducible refine gate_dst (N:=2) rfl ?_);refine sV (N:=2) (cs:= #[.slice A0_0 l0_0.length c0_0,.slice A0_1 l0_1.length c0_1,.slice A0_2 l0_2.length c0_2]) (t:=50) ?_;intro q hg ab hbox hb;have a:=zM (hbox);have s:=sG HB hg;have u:=sG HB hg;replace HB:=sB HB hb;clear hb hbox hg;obtain⟨ac,ad,ae,af,ag,ah⟩:=cells3 a.out)|((with_reducible refine gate_callee (f:=59) rfl ?_);refine sC (some 8) Try.func59 #[.slice A0_0 l0_0.length c0_0,.int .i64 a1] (laws_szBindingS.calls k _ _ l0_0 a1 b _ ?side1 ?side2 n.out) ?_;(case side1=>exact sD (zC l.out HB.out));(case side2=>exact m.out);rintro e ai ⟨rfl,hb⟩;refine⟨_,rfl,?_⟩;replace a:=sK a hb;replace HB:=sB HB hb;(try clear hb);obtain⟨aj,ak,al,am,an,ao⟩:=cells3 a.out)|((with_reducible refine gate_callee (f:=60) rfl ?_);refine sC (some 14) Try.func60 #[.slice A0_1 l0_1.length c0_1,.int .i64 b] (laws_szFunctionS.calls k _ _ l0_1 b c _ ?side1 ?side2 v.out) ?_;(case side1=>exact sD (zC o.out HB.out));(case side2=>exact p.out);rintro e ap ⟨rfl,hb⟩;refine⟨_,rfl,?_⟩;replace a:=sK a hb;replace HB:=sB HB hb;(try clear hb);obtain⟨aq,ar,au,av,aw,ax⟩:=cells3 a.out)|((with_reducible refine gate_callee (f:=61) rfl ?_);refine sC (some 20) Try.func61 #[.slice A0_2 l0_2.length c0_2,.int .i64 c] (laws_szRecordTypeS.calls k _ _ l0_2 c d _ ?side1 ?side2 z.out) ?_;(case side1=>exact sD (zC x.out HB.out));(case side2=>exact y.out);rintro e ay ⟨rfl,hb⟩;refine⟨_,rfl,?_⟩;replace a:=sK a hb;replace HB:=sB HB hb;(try clear hb)))
 go_ret
 exact⟨sq,sb⟩)
 rw[if_neg j]at H
 have c16b0:=zF j
 clear j
 obtain rfl:=zI H
 go_enter Try.func20,Try.ntmps20
 go_wp2_with (first|((with_reducible refine gate_dst (N:=2) rfl ?_);refine sV (N:=2) (cs:= #[.slice A0_0 l0_0.length c0_0,.slice A0_1 l0_1.length c0_1,.slice A0_2 l0_2.length c0_2]) (t:=50) ?_;intro q hg az hbox hb;have a:=zM (hbox);have s:=sG HB hg;have u:=sG HB hg;replace HB:=sB HB hb;clear hb hbox hg;obtain⟨aA,aB,aC,aD,aE,aF⟩:=cells3 a.out)|((with_reducible refine gate_callee (f:=59) rfl ?_);refine sC (some 8) Try.func59 #[.slice A0_0 l0_0.length c0_0,.int .i64 a1] (laws_szBindingS.calls k _ _ l0_0 a1 b _ ?side1 ?side2 n.out) ?_;(case side1=>exact sD (zC l.out HB.out));(case side2=>exact m.out);rintro e aG ⟨rfl,hb⟩;refine⟨_,rfl,?_⟩;replace a:=sK a hb;replace HB:=sB HB hb;(try clear hb);obtain⟨aH,aI,aJ,aK,aL,aM⟩:=cells3 a.out)|((with_reducible refine gate_callee (f:=60) rfl ?_);refine sC (some 14) Try.func60 #[.slice A0_1 l0_1.length c0_1,.int .i64 b] (laws_szFunctionS.calls k _ _ l0_1 b c _ ?side1 ?side2 v.out) ?_;(case side1=>exact sD (zC o.out HB.out));(case side2=>exact p.out);rintro e aN ⟨rfl,hb⟩;refine⟨_,rfl,?_⟩;replace a:=sK a hb;replace HB:=sB HB hb;(try clear hb);obtain⟨aO,aP,aQ,aR,aS,aT⟩:=cells3 a.out)|((with_reducible refine gate_callee (f:=61) rfl ?_);refine sC (some 20) Try.func61 #[.slice A0_2 l0_2.length c0_2,.int .i64 c] (laws_szRecordTypeS.calls k _ _ l0_2 c d _ ?side1 ?side2 z.out) ?_;(case side1=>exact sD (zC x.out HB.out));(case side2=>exact y.out);rintro e aU ⟨rfl,hb⟩;refine⟨_,rfl,?_⟩;replace a:=sK a hb;replace HB:=sB HB hb;(try clear hb)))
 go_ret
 exact⟨sq,sb⟩
def laws_szMemory.f (k:Nat) (a0_0:Int) (l0_1:List (S166)) (l0_2:List (S134)) (l0_3:List (S136)) (l0_4:List (S138)) (l0_5:List ByteArray) (a0_6:Int) (l0_7:List ByteArray) (l0_8:List (S127)) (l0_9:List ByteArray) (a1:Int):Option (Int):=(laws_szHeap.f k a0_0 l0_1 a1).bind fun t140=>(if t140<0 then(some (-1))else((laws_szScope.f k l0_2 l0_3 l0_4 t140).bind fun t141=>(if t141<0 then(some (-1))else((laws_szConsole.f k l0_5 a0_6 l0_7 l0_8 l0_9 t141).bind fun t142=>(if t142<0 then(some (-1))else(some t142))))))
set_option maxHeartbeats 8000000 in
set_option maxRecDepth 100000 in
theorem laws_szMemory.calls (k:Nat) (a0_0:Int) (A0_1:Option Addr) (c0_1:Nat) (l0_1:List (S166)) (A0_2:Option Addr) (c0_2:Nat) (l0_2:List (S134)) (A0_3:Option Addr) (c0_3:Nat) (l0_3:List (S136)) (A0_4:Option Addr) (c0_4:Nat) (l0_4:List (S138)) (A0_5:Option Addr) (c0_5:Nat) (l0_5:List ByteArray) (a0_6:Int) (A0_7:Option Addr) (c0_7:Nat) (l0_7:List ByteArray) (A0_8:Option Addr) (c0_8:Nat) (l0_8:List (S127)) (A0_9:Option Addr) (c0_9:Nat) (l0_9:List ByteArray) (a1:Int) (r:Int) (w:World) (hr0_1:Kd.C k166 w A0_1 l0_1.length l0_1) (hc0_1:l0_1.length≤c0_1) (hr0_2:Kd.C k134 w A0_2 l0_2.length l0_2) (hc0_2:l0_2.length≤c0_2) (hr0_3:Kd.C k136 w A0_3 l0_3.length l0_3) (hc0_3:l0_3.length≤c0_3) (hr0_4:Kd.C k138 w A0_4 l0_4.length l0_4) (hc0_4:l0_4.length≤c0_4) (hr0_5:Kd.C Kd.string w A0_5 l0_5.length l0_5) (hc0_5:l0_5.length≤c0_5) (hr0_7:Kd.C Kd.string w A0_7 l0_7.length l0_7) (hc0_7:l0_7.length≤c0_7) (hr0_8:Kd.C k127 w A0_8 l0_8.length l0_8) (hc0_8:l0_8.length≤c0_8) (hr0_9:Kd.C Kd.string w A0_9 l0_9.length l0_9) (hc0_9:l0_9.length≤c0_9) (h:laws_szMemory.f k a0_0 l0_1 l0_2 l0_3 l0_4 l0_5 a0_6 l0_7 l0_8 l0_9 a1=some r):
  Calls Try.prog 25 #[.agg #[.int .i64 a0_0,.slice A0_1 l0_1.length c0_1,.slice A0_2 l0_2.length c0_2,.slice A0_3 l0_3.length c0_3,.slice A0_4 l0_4.length c0_4,.slice A0_5 l0_5.length c0_5,.int .i64 a0_6,.slice A0_7 l0_7.length c0_7,.slice A0_8 l0_8.length c0_8,.slice A0_9 l0_9.length c0_9],.int .i64 a1] w fun e w'=>e= .returned (.int .i64 r)∧Below w.heap.size w w':=by
 have M:=Try.underlying64
 have O:=Try.underlying62
 have P:=Try.underlying50
 have Q:=Try.underlying36
 have l:=zM hr0_1
 have m:=zM hc0_1
 clear hr0_1 hc0_1
 have o:=zM hr0_2
 have p:=zM hc0_2
 clear hr0_2 hc0_2
 have q:=zM hr0_3
 have s:=zM hc0_3
 clear hr0_3 hc0_3
 have u:=zM hr0_4
 have v:=zM hc0_4
 clear hr0_4 hc0_4
 have B:=zM hr0_5
 have D:=zM hc0_5
 clear hr0_5 hc0_5
 have E:=zM hr0_7
 have F:=zM hc0_7
 clear hr0_7 hc0_7
 have G:=zM hr0_8
 have I:=zM hc0_8
 clear hr0_8 hc0_8
 have J:=zM hr0_9
 have K:=zM hc0_9
 clear hr0_9 hc0_9
 have HB:=zM (Below.refl w.heap.size w)
 have H:((laws_szHeap.f k a0_0 l0_1 a1).bind fun b=>(if b<0 then(some (-1))else((laws_szScope.f k l0_2 l0_3 l0_4 b).bind fun c=>(if c<0 then(some (-1))else((laws_szConsole.f k l0_5 a0_6 l0_7 l0_8 l0_9 c).bind fun d=>(if d<0 then(some (-1))else(some d)))))))=some r:=h
 clear h
 obtain⟨b,n,H⟩:=sO H
 by_cases g:b<0
 ·(
 rw[if_pos g]at H
 have c4b0:=zT g
 clear g
 obtain rfl:=zI H
 go_enter Try.func25,Try.ntmps25
 go_wp2_with (first|((with_reducible refine gate_dst (N:=2) rfl ?_);refine sV (N:=2) (cs:= #[.int .i64 a0_0,.slice A0_1 l0_1.length c0_1,.slice A0_2 l0_2.length c0_2,.slice A0_3 l0_3.length c0_3,.slice A0_4 l0_4.length c0_4,.slice A0_5 l0_5.length c0_5,.int .i64 a0_6,.slice A0_7 l0_7.length c0_7,.slice A0_8 l0_8.length c0_8,.slice A0_9 l0_9.length c0_9]) (t:=64) ?_;intro x hg R hbox hb;have a:=zM (hbox);have y:=sG HB hg;have z:=sG HB hg;replace HB:=sB HB hb;clear hb hbox hg;obtain⟨S,T,U,V,W,X,Y,Z,aa,ab,ac,ad,ae,af,ag,ah,ai,aj,ak,al⟩:=cells10 a.out)|((with_reducible refine gate_callee (f:=72) rfl ?_);refine sC (some 8) Try.func72 #[.agg #[.int .i64 a0_0,.slice A0_1 l0_1.length c0_1],.int .i64 a1] (laws_szHeap.calls k a0_0 _ _ l0_1 a1 b _ ?side1 ?side2 n.out) ?_;(case side1=>exact sD (zC l.out HB.out));(case side2=>exact m.out);rintro e w7 ⟨rfl,hb⟩;refine⟨_,rfl,?_⟩;replace a:=sK a hb;replace HB:=sB HB hb;(try clear hb)))
 go_ret
 exact⟨sq,sb⟩)
 rw[if_neg g]at H
 have c4b0:=zF g
 clear g
 obtain⟨c,A,H⟩:=sO H
 by_cases i:c<0
 ·(
 rw[if_pos i]at H
 have c9b0:=zT i
 clear i
 obtain rfl:=zI H
 go_enter Try.func25,Try.ntmps25
 go_wp2_with (first|((with_reducible refine gate_dst (N:=2) rfl ?_);refine sV (N:=2) (cs:= #[.int .i64 a0_0,.slice A0_1 l0_1.length c0_1,.slice A0_2 l0_2.length c0_2,.slice A0_3 l0_3.length c0_3,.slice A0_4 l0_4.length c0_4,.slice A0_5 l0_5.length c0_5,.int .i64 a0_6,.slice A0_7 l0_7.length c0_7,.slice A0_8 l0_8.length c0_8,.slice A0_9 l0_9.length c0_9]) (t:=64) ?_;intro x hg am hbox hb;have a:=zM (hbox);have y:=sG HB hg;have z:=sG HB hg;replace HB:=sB HB hb;clear hb hbox hg;obtain⟨an,ao,ap,aq,ar,au,av,aw,ax,ay,az,aA,aB,aC,aD,aE,aF,aG,aH,aI⟩:=cells10 a.out)|((with_reducible refine gate_callee (f:=72) rfl ?_);refine sC (some 8) Try.func72 #[.agg #[.int .i64 a0_0,.slice A0_1 l0_1.length c0_1],.int .i64 a1] (laws_szHeap.calls k a0_0 _ _ l0_1 a1 b _ ?side1 ?side2 n.out) ?_;(case side1=>exact sD (zC l.out HB.out));(case side2=>exact m.out);rintro e aJ ⟨rfl,hb⟩;refine⟨_,rfl,?_⟩;replace a:=sK a hb;replace HB:=sB HB hb;(try clear hb);obtain⟨aK,aL,aM,aN,aO,aP,aQ,aR,aS,aT,aU,aV,aW,aX,aY,aZ,a0,a2,a3,a4⟩:=cells10 a.out)|((with_reducible refine gate_callee (f:=20) rfl ?_);refine sC (some 14) Try.func20 #[.agg #[.slice A0_2 l0_2.length c0_2,.slice A0_3 l0_3.length c0_3,.slice A0_4 l0_4.length c0_4],.int .i64 b] (laws_szScope.calls k _ _ l0_2 _ _ l0_3 _ _ l0_4 b c _ ?side1 ?side2 ?side3 ?side4 ?side5 ?side6 A.out) ?_;(case side1=>exact sD (zC o.out HB.out));(case side2=>exact p.out);(case side3=>exact sD (zC q.out HB.out));(case side4=>exact s.out);(case side5=>exact sD (zC u.out HB.out));(case side6=>exact v.out);rintro e a5 ⟨rfl,hb⟩;refine⟨_,rfl,?_⟩;replace a:=sK a hb;replace HB:=sB HB hb;(try clear hb)))
 go_ret
 exact⟨sq,sb⟩)
 rw[if_neg i]at H
 have c9b0:=zF i
 clear i
 obtain⟨d,L,H⟩:=sO H
 by_cases j:d<0
 ·(
 rw[if_pos j]at H
 have c16b0:=zT j
 clear j
 obtain rfl:=zI H
 go_enter Try.func25,Try.ntmps25
 go_wp2_with (first|((with_reducible refine gate_dst (N:=2) rfl ?_);refine sV (N:=2) (cs:= #[.int .i64 a0_0,.slice A0_1 l0_1.length c0_1,.slice A0_2 l0_2.length c0_2,.slice A0_3 l0_3.length c0_3,.slice A0_4 l0_4.length c0_4,.slice A0_5 l0_5.length c0_5,.int .i64 a0_6,.slice A0_7 l0_7.length c0_7,.slice A0_8 l0_8.length c0_8,.slice A0_9 l0_9.length c0_9]) (t:=64) ?_;intro x hg a6 hbox hb;have a:=zM (hbox);have y:=sG HB hg;have z:=sG HB hg;replace HB:=sB HB hb;clear hb hbox hg;obtain⟨a7,a8,a9,ba,bb,bc,bd,be,bf,bg,bh,bi,bj,bk,bl,bm,bn,bo,bp,bq⟩:=cells10 a.out)|((with_reducible refine gate_callee (f:=72) rfl ?_);refine sC (some 8) Try.func72 #[.agg #[.int .i64 a0_0,.slice A0_1 l0_1.length c0_1],.int .i64 a1] (laws_szHeap.calls k a0_0 _ _ l0_1 a1 b _ ?side1 ?side2 n.out) ?_;(case side1=>exact sD (zC l.out HB.out));(case side2=>exact m.out);rintro e br ⟨rfl,hb⟩;refine⟨_,rfl,?_⟩;replace a:=sK a hb;replace HB:=sB HB hb;(try clear hb);obtain⟨bs,bt,bu,bv,bw,bx,bz,bA,bB,bC,bD,bE,bF,bG,bH,bI,bJ,bK,bL,bM⟩:=cells10 a.out)|((with_reducible refine gate_callee (f:=20) rfl ?_);refine sC (some 14) Try.func20 #[.agg #[.slice A0_2 l0_2.length c0_2,.slice A0_3 l0_3.length c0_3,.slice A0_4 l0_4.length c0_4],.int .i64 b] (laws_szScope.calls k _ _ l0_2 _ _ l0_3 _ _ l0_4 b c _ ?side1 ?side2 ?side3 ?side4 ?side5 ?side6 A.out) ?_;(case side1=>exact sD (zC o.out HB.out));(case side2=>exact p.out);(case side3=>exact sD (zC q.out HB.out));(case side4=>exact s.out);(case side5=>exact sD (zC u.out HB.out));(case side6=>exact v.out);rintro e bN ⟨rfl,hb⟩;refine⟨_,rfl,?_⟩;replace a:=sK a hb;replace HB:=sB HB hb;(try clear hb);obtain⟨bO,bP,bQ,bR,bS,bT,bU,bV,bW,bX,bY,bZ,b0,b1,b2,b3,b4,b5,b6,b7⟩:=cells10 a.out)|((with_reducible refine gate_callee (f:=13) rfl ?_);refine sC (some 20) Try.func13 #[.agg #[.slice A0_5 l0_5.length c0_5,.int .i64 a0_6,.slice A0_7 l0_7.length c0_7,.slice A0_8 l0_8.length c0_8,.slice A0_9 l0_9.length c0_9],.int .i64 c] (laws_szConsole.calls k _ _ l0_5 a0_6 _ _ l0_7 _ _ l0_8 _ _ l0_9 c d _ ?side1 ?side2 ?side3 ?side4 ?side5 ?side6 ?side7 ?side8 L.out) ?_;(case side1=>exact sD (zC B.out HB.out));(case side2=>exact D.out);(case side3=>exact sD (zC E.out HB.out));(case side4=>exact F.out);(case side5=>exact sD (zC G.out HB.out));(case side6=>exact I.out);(case side7=>exact sD (zC J.out HB.out));(case side8=>exact K.out);rintro e b8 ⟨rfl,hb⟩;refine⟨_,rfl,?_⟩;replace a:=sK a hb;replace HB:=sB HB hb;(try clear hb)))
 go_ret
 exact⟨sq,sb⟩)
 rw[if_neg j]at H
 have c16b0:=zF j
 clear j
 obtain rfl:=zI H
 go_enter Try.func25,Try.ntmps25
 go_wp2_with (first|((with_reducible refine gate_dst (N:=2) rfl ?_);refine sV (N:=2) (cs:= #[.int .i64 a0_0,.slice A0_1 l0_1.length c0_1,.slice A0_2 l0_2.length c0_2,.slice A0_3 l0_3.length c0_3,.slice A0_4 l0_4.length c0_4,.slice A0_5 l0_5.length c0_5,.int .i64 a0_6,.slice A0_7 l0_7.length c0_7,.slice A0_8 l0_8.length c0_8,.slice A0_9 l0_9.length c0_9]) (t:=64) ?_;intro x hg b9 hbox hb;have a:=zM (hbox);have y:=sG HB hg;have z:=sG HB hg;replace HB:=sB HB hb;clear hb hbox hg;obtain⟨ca,cb,cc,cd,ce,cf,cg,ch,ci,cj,ck,cl,cm,cn,co,cp,cq,cr,ct,cu⟩:=cells10 a.out)|((with_reducible refine gate_callee (f:=72) rfl ?_);refine sC (some 8) Try.func72 #[.agg #[.int .i64 a0_0,.slice A0_1 l0_1.length c0_1],.int .i64 a1] (laws_szHeap.calls k a0_0 _ _ l0_1 a1 b _ ?side1 ?side2 n.out) ?_;(case side1=>exact sD (zC l.out HB.out));(case side2=>exact m.out);rintro e cv ⟨rfl,hb⟩;refine⟨_,rfl,?_⟩;replace a:=sK a hb;replace HB:=sB HB hb;(try clear hb);obtain⟨cw,cx,cy,cz,cA,cB,cC,cD,cE,cF,cG,cH,cI,cJ,cK,cL,cM,cN,cO,cP⟩:=cells10 a.out)|((with_reducible refine gate_callee (f:=20) rfl ?_);refine sC (some 14) Try.func20 #[.agg #[.slice A0_2 l0_2.length c0_2,.slice A0_3 l0_3.length c0_3,.slice A0_4 l0_4.length c0_4],.int .i64 b] (laws_szScope.calls k _ _ l0_2 _ _ l0_3 _ _ l0_4 b c _ ?side1 ?side2 ?side3 ?side4 ?side5 ?side6 A.out) ?_;(case side1=>exact sD (zC o.out HB.out));(case side2=>exact p.out);(case side3=>exact sD (zC q.out HB.out));(case side4=>exact s.out);(case side5=>exact sD (zC u.out HB.out));(case side6=>exact v.out);rintro e cQ ⟨rfl,hb⟩;refine⟨_,rfl,?_⟩;replace a:=sK a hb;replace HB:=sB HB hb;(try clear hb);obtain⟨cR,cS,cT,cU,cV,cW,cX,cY,cZ,c0,c1,c2,c3,c5,c6,c7,c8,da,db,dc⟩:=cells10 a.out)|((with_reducible refine gate_callee (f:=13) rfl ?_);refine sC (some 20) Try.func13 #[.agg #[.slice A0_5 l0_5.length c0_5,.int .i64 a0_6,.slice A0_7 l0_7.length c0_7,.slice A0_8 l0_8.length c0_8,.slice A0_9 l0_9.length c0_9],.int .i64 c] (laws_szConsole.calls k _ _ l0_5 a0_6 _ _ l0_7 _ _ l0_8 _ _ l0_9 c d _ ?side1 ?side2 ?side3 ?side4 ?side5 ?side6 ?side7 ?side8 L.out) ?_;(case side1=>exact sD (zC B.out HB.out));(case side2=>exact D.out);(case side3=>exact sD (zC E.out HB.out));(case side4=>exact F.out);(case side5=>exact sD (zC G.out HB.out));(case side6=>exact I.out);(case side7=>exact sD (zC J.out HB.out));(case side8=>exact K.out);rintro e dd ⟨rfl,hb⟩;refine⟨_,rfl,?_⟩;replace a:=sK a hb;replace HB:=sB HB hb;(try clear hb)))
 go_ret
 exact⟨sq,sb⟩
end Go.Proofs.Ytnneadpahjkhgaa.PFnExactSameMemory
