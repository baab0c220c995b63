/- Printed functions: laws_eqConsole. -/
import Derived.Test.YtnneadpahjkhgaaYSmP0
import Derived.Test.YtnneadpahjkhgaaYSmP33
import Derived.Test.YtnneadpahjkhgaaYSmP36
namespace Go.Proofs.Ytnneadpahjkhgaa.PFnExactSameMemory
open Go.RowKit Go.Proofs.YtnneadpahjkhgaaG Go.Proofs.YtnneadpahjkhgaaW.PrintWords Go.Proofs.YtnneadpahjkhgaaW.PrintLast Go.Proofs.YtnneadpahjkhgaaW.PrintMore
attribute [local go_sem] max2_int min2_int max_two min_two max_three min_three max_four min_four
set_option linter.unusedVariables false
set_option linter.unusedSimpArgs false
def laws_eqConsole.f (k:Nat) (l0_0:List ByteArray) (a0_1:Int) (l0_2:List ByteArray) (l0_3:List (S87)) (l0_4:List ByteArray) (l1_0:List ByteArray) (a1_1:Int) (l1_2:List ByteArray) (l1_3:List (S87)) (l1_4:List ByteArray):Option (Bool):=(laws_eqStringS.f k l0_0 l1_0).bind fun t492=>(if t492=true then(if a0_1=a1_1 then((laws_eqStringS.f k l0_2 l1_2).bind fun t493=>(if t493=true then((laws_eqFileS.f k l0_3 l1_3).bind fun t494=>(if t494=true then((laws_eqStringS.f k l0_4 l1_4).bind fun t495=>(if t495=true then(some true)else(some false)))else(some false)))else(some false)))else(some false))else(some false))
set_option maxHeartbeats 8000000 in
set_option maxRecDepth 100000 in
theorem laws_eqConsole.calls (k:Nat) (A0_0:Option Addr) (c0_0:Nat) (l0_0:List ByteArray) (a0_1:Int) (A0_2:Option Addr) (c0_2:Nat) (l0_2:List ByteArray) (A0_3:Option Addr) (c0_3:Nat) (l0_3:List (S87)) (A0_4:Option Addr) (c0_4:Nat) (l0_4:List ByteArray) (A1_0:Option Addr) (c1_0:Nat) (l1_0:List ByteArray) (a1_1:Int) (A1_2:Option Addr) (c1_2:Nat) (l1_2:List ByteArray) (A1_3:Option Addr) (c1_3:Nat) (l1_3:List (S87)) (A1_4:Option Addr) (c1_4:Nat) (l1_4:List ByteArray) (r:Bool) (w:World) (hr0_0:Kd.C Kd.string w A0_0 l0_0.length l0_0) (hc0_0:l0_0.length≤c0_0) (hr0_2:Kd.C Kd.string w A0_2 l0_2.length l0_2) (hc0_2:l0_2.length≤c0_2) (hr0_3:Kd.C k87 w A0_3 l0_3.length l0_3) (hc0_3:l0_3.length≤c0_3) (hr0_4:Kd.C Kd.string w A0_4 l0_4.length l0_4) (hc0_4:l0_4.length≤c0_4) (hr1_0:Kd.C Kd.string w A1_0 l1_0.length l1_0) (hc1_0:l1_0.length≤c1_0) (hr1_2:Kd.C Kd.string w A1_2 l1_2.length l1_2) (hc1_2:l1_2.length≤c1_2) (hr1_3:Kd.C k87 w A1_3 l1_3.length l1_3) (hc1_3:l1_3.length≤c1_3) (hr1_4:Kd.C Kd.string w A1_4 l1_4.length l1_4) (hc1_4:l1_4.length≤c1_4) (h:laws_eqConsole.f k l0_0 a0_1 l0_2 l0_3 l0_4 l1_0 a1_1 l1_2 l1_3 l1_4=some r):
  Calls Try.prog 17 #[.agg #[.slice A0_0 l0_0.length c0_0,.int .i64 a0_1,.slice A0_2 l0_2.length c0_2,.slice A0_3 l0_3.length c0_3,.slice A0_4 l0_4.length c0_4],.agg #[.slice A1_0 l1_0.length c1_0,.int .i64 a1_1,.slice A1_2 l1_2.length c1_2,.slice A1_3 l1_3.length c1_3,.slice A1_4 l1_4.length c1_4]] w fun e w'=>e= .returned (.bool r)∧Below w.heap.size w w':=by
 have X:=Try.underlying41
 have l:=zM hr0_0
 have m:=zM hc0_0
 clear hr0_0 hc0_0
 have x:=zM hr0_2
 have y:=zM hc0_2
 clear hr0_2 hc0_2
 have I:=zM hr0_3
 have J:=zM hc0_3
 clear hr0_3 hc0_3
 have S:=zM hr0_4
 have T:=zM hc0_4
 clear hr0_4 hc0_4
 have n:=zM hr1_0
 have o:=zM hc1_0
 clear hr1_0 hc1_0
 have z:=zM hr1_2
 have A:=zM hc1_2
 clear hr1_2 hc1_2
 have K:=zM hr1_3
 have L:=zM hc1_3
 clear hr1_3 hc1_3
 have U:=zM hr1_4
 have V:=zM hc1_4
 clear hr1_4 hc1_4
 have HB:=zM (Below.refl w.heap.size w)
 have H:((laws_eqStringS.f k l0_0 l1_0).bind fun M=>(if M=true then(if a0_1=a1_1 then((laws_eqStringS.f k l0_2 l1_2).bind fun O=>(if O=true then((laws_eqFileS.f k l0_3 l1_3).bind fun P=>(if P=true then((laws_eqStringS.f k l0_4 l1_4).bind fun Q=>(if Q=true then(some true)else(some false)))else(some false)))else(some false)))else(some false))else(some false)))=some r:=h
 clear h
 obtain⟨M,p,H⟩:=sO H
 by_cases B:M=true
 ·(
 subst B
 rewrite[if_pos rfl]at H
 by_cases j:a0_1=a1_1
 ·(
 rw[if_pos j]at H
 have c5b0:(a0_1==a1_1)=true:=zE j
 have c5b1:(a0_1 !=a1_1)=false:=zY j
 clear j
 obtain⟨O,D,H⟩:=sO H
 by_cases E:O=true
 ·(
 subst E
 rewrite[if_pos rfl]at H
 obtain⟨P,R,H⟩:=sO H
 by_cases F:P=true
 ·(
 subst F
 rewrite[if_pos rfl]at H
 obtain⟨Q,W,H⟩:=sO H
 by_cases G:Q=true
 ·(
 subst G
 rewrite[if_pos rfl]at H
 obtain rfl:=zI H
 go_enter Try.func17,Try.ntmps17
 go_wp2_with (first|((with_reducible refine gate_dst (N:=2) rfl ?_);refine sV (N:=2) (cs:= #[.slice A0_0 l0_0.length c0_0,.int .i64 a0_1,.slice A0_2 l0_2.length c0_2,.slice A0_3 l0_3.length c0_3,.slice A0_4 l0_4.length c0_4]) (t:=41) ?_;intro q hg Y hbox hb;have a:=zM (hbox);have s:=sG HB hg;have b:=sG HB hg;replace HB:=sB HB hb;clear hb hbox hg)|((with_reducible refine gate_dst (N:=3) rfl ?_);refine sV (N:=3) (cs:= #[.slice A1_0 l1_0.length c1_0,.int .i64 a1_1,.slice A1_2 l1_2.length c1_2,.slice A1_3 l1_3.length c1_3,.slice A1_4 l1_4.length c1_4]) (t:=41) ?_;intro u hg Z hbox hb;have c:=zM (hbox);have v:=sG HB hg;have d:=sG HB hg;replace HB:=sB HB hb;have g:=sN a hg;have i:=sM a hg;replace a:=sK a hb;clear hb hbox hg;have aa:=g.out;have ab:=i.out;obtain⟨ac,ad,ae,af,ag,ah,ai,aj,ak,al⟩:=cells5 a.out;obtain⟨am,an,ao,ap,aq,ar,au,av,aw,ax⟩:=cells5 c.out)|((with_reducible refine gate_callee (f:=48) rfl ?_);refine sC (some 9) Try.func48 #[.slice A0_0 l0_0.length c0_0,.slice A1_0 l1_0.length c1_0] (laws_eqStringS.calls k _ _ l0_0 _ _ l1_0 true _ ?side1 ?side2 ?side3 ?side4 p.out) ?_;(case side1=>exact sD (zC l.out HB.out));(case side2=>exact m.out);(case side3=>exact sD (zC n.out HB.out));(case side4=>exact o.out);rintro e w' ⟨rfl,⟨nd,rfl⟩⟩;refine⟨_,rfl,?_⟩)|((with_reducible refine gate_callee (f:=48) rfl ?_);refine sC (some 20) Try.func48 #[.slice A0_2 l0_2.length c0_2,.slice A1_2 l1_2.length c1_2] (laws_eqStringS.calls k _ _ l0_2 _ _ l1_2 true _ ?side1 ?side2 ?side3 ?side4 D.out) ?_;(case side1=>exact sD (zC x.out (by repeat(first|(with_reducible first|exact HB.out|apply below_alloc|apply pw_below_drewN|apply below_drew1|refine below_set ?_ b.out|refine below_set ?_ d.out)|exact HB.out))));(case side2=>exact y.out);(case side3=>exact sD (zC z.out (by repeat(first|(with_reducible first|exact HB.out|apply below_alloc|apply pw_below_drewN|apply below_drew1|refine below_set ?_ b.out|refine below_set ?_ d.out)|exact HB.out))));(case side4=>exact A.out);rintro e w' ⟨rfl,⟨nd,rfl⟩⟩;refine⟨_,rfl,?_⟩)|((with_reducible refine gate_callee (f:=49) rfl ?_);refine sC (some 26) Try.func49 #[.slice A0_3 l0_3.length c0_3,.slice A1_3 l1_3.length c1_3] (laws_eqFileS.calls k _ _ l0_3 _ _ l1_3 true _ ?side1 ?side2 ?side3 ?side4 R.out) ?_;(case side1=>exact sD (zC I.out (by repeat(first|(with_reducible first|exact HB.out|apply below_alloc|apply pw_below_drewN|apply below_drew1|refine below_set ?_ b.out|refine below_set ?_ d.out)|exact HB.out))));(case side2=>exact J.out);(case side3=>exact sD (zC K.out (by repeat(first|(with_reducible first|exact HB.out|apply below_alloc|apply pw_below_drewN|apply below_drew1|refine below_set ?_ b.out|refine below_set ?_ d.out)|exact HB.out))));(case side4=>exact L.out);rintro e ay ⟨rfl,hb⟩;refine⟨_,rfl,?_⟩;replace a:=sK a hb;replace c:=sK c hb;replace HB:=sB HB hb;(try clear hb);obtain⟨az,aA,aB,aC,aD,aE,aF,aG,aH,aI⟩:=cells5 a.out;obtain⟨aJ,aK,aL,aM,aN,aO,aP,aQ,aR,aS⟩:=cells5 c.out)|((with_reducible refine gate_callee (f:=48) rfl ?_);refine sC (some 32) Try.func48 #[.slice A0_4 l0_4.length c0_4,.slice A1_4 l1_4.length c1_4] (laws_eqStringS.calls k _ _ l0_4 _ _ l1_4 true _ ?side1 ?side2 ?side3 ?side4 W.out) ?_;(case side1=>exact sD (zC S.out HB.out));(case side2=>exact T.out);(case side3=>exact sD (zC U.out HB.out));(case side4=>exact V.out);rintro e w' ⟨rfl,⟨nd,rfl⟩⟩;refine⟨_,rfl,?_⟩))
 go_ret
 exact⟨sq,sb⟩)
 replace G:=zB G
 subst G
 rewrite[if_neg zQ]at H
 obtain rfl:=zI H
 go_enter Try.func17,Try.ntmps17
 go_wp2_with (first|((with_reducible refine gate_dst (N:=2) rfl ?_);refine sV (N:=2) (cs:= #[.slice A0_0 l0_0.length c0_0,.int .i64 a0_1,.slice A0_2 l0_2.length c0_2,.slice A0_3 l0_3.length c0_3,.slice A0_4 l0_4.length c0_4]) (t:=41) ?_;intro q hg aT hbox hb;have a:=zM (hbox);have s:=sG HB hg;have b:=sG HB hg;replace HB:=sB HB hb;clear hb hbox hg)|((with_reducible refine gate_dst (N:=3) rfl ?_);refine sV (N:=3) (cs:= #[.slice A1_0 l1_0.length c1_0,.int .i64 a1_1,.slice A1_2 l1_2.length c1_2,.slice A1_3 l1_3.length c1_3,.slice A1_4 l1_4.length c1_4]) (t:=41) ?_;intro u hg aU hbox hb;have c:=zM (hbox);have v:=sG HB hg;have d:=sG HB hg;replace HB:=sB HB hb;have g:=sN a hg;have i:=sM a hg;replace a:=sK a hb;clear hb hbox hg;have aV:=g.out;have aW:=i.out;obtain⟨aX,aY,aZ,a0,a1,a2,a3,a4,a5,a6⟩:=cells5 a.out;obtain⟨a7,a8,a9,ba,bb,bc,bd,be,bf,bg⟩:=cells5 c.out)|((with_reducible refine gate_callee (f:=48) rfl ?_);refine sC (some 9) Try.func48 #[.slice A0_0 l0_0.length c0_0,.slice A1_0 l1_0.length c1_0] (laws_eqStringS.calls k _ _ l0_0 _ _ l1_0 true _ ?side1 ?side2 ?side3 ?side4 p.out) ?_;(case side1=>exact sD (zC l.out HB.out));(case side2=>exact m.out);(case side3=>exact sD (zC n.out HB.out));(case side4=>exact o.out);rintro e w' ⟨rfl,⟨nd,rfl⟩⟩;refine⟨_,rfl,?_⟩)|((with_reducible refine gate_callee (f:=48) rfl ?_);refine sC (some 20) Try.func48 #[.slice A0_2 l0_2.length c0_2,.slice A1_2 l1_2.length c1_2] (laws_eqStringS.calls k _ _ l0_2 _ _ l1_2 true _ ?side1 ?side2 ?side3 ?side4 D.out) ?_;(case side1=>exact sD (zC x.out (by repeat(first|(with_reducible first|exact HB.out|apply below_alloc|apply pw_below_drewN|apply below_drew1|refine below_set ?_ b.out|refine below_set ?_ d.out)|exact HB.out))));(case side2=>exact y.out);(case side3=>exact sD (zC z.out (by repeat(first|(with_reducible first|exact HB.out|apply below_alloc|apply pw_below_drewN|apply below_drew1|refine below_set ?_ b.out|refine below_set ?_ d.out)|exact HB.out))));(case side4=>exact A.out);rintro e w' ⟨rfl,⟨nd,rfl⟩⟩;refine⟨_,rfl,?_⟩)|((with_reducible refine gate_callee (f:=49) rfl ?_);refine sC (some 26) Try.func49 #[.slice A0_3 l0_3.length c0_3,.slice A1_3 l1_3.length c1_3] (laws_eqFileS.calls k _ _ l0_3 _ _ l1_3 true _ ?side1 ?side2 ?side3 ?side4 R.out) ?_;(case side1=>exact sD (zC I.out (by repeat(first|(with_reducible first|exact HB.out|apply below_alloc|apply pw_below_drewN|apply below_drew1|refine below_set ?_ b.out|refine below_set ?_ d.out)|exact HB.out))));(case side2=>exact J.out);(case side3=>exact sD (zC K.out (by repeat(first|(with_reducible first|exact HB.out|apply below_alloc|apply pw_below_drewN|apply below_drew1|refine below_set ?_ b.out|refine below_set ?_ d.out)|exact HB.out))));(case side4=>exact L.out);rintro e bh ⟨rfl,hb⟩;refine⟨_,rfl,?_⟩;replace a:=sK a hb;replace c:=sK c hb;replace HB:=sB HB hb;(try clear hb);obtain⟨bi,bj,bk,bl,bm,bn,bo,bp,bq,br⟩:=cells5 a.out;obtain⟨bs,bt,bu,bv,bw,bx,bz,bA,bB,bC⟩:=cells5 c.out)|((with_reducible refine gate_callee (f:=48) rfl ?_);refine sC (some 32) Try.func48 #[.slice A0_4 l0_4.length c0_4,.slice A1_4 l1_4.length c1_4] (laws_eqStringS.calls k _ _ l0_4 _ _ l1_4 false _ ?side1 ?side2 ?side3 ?side4 W.out) ?_;(case side1=>exact sD (zC S.out HB.out));(case side2=>exact T.out);(case side3=>exact sD (zC U.out HB.out));(case side4=>exact V.out);rintro e w' ⟨rfl,⟨nd,rfl⟩⟩;refine⟨_,rfl,?_⟩))
 go_ret
 exact⟨sq,sb⟩)
 replace F:=zB F
 subst F
 rewrite[if_neg zQ]at H
 obtain rfl:=zI H
 go_enter Try.func17,Try.ntmps17
 go_wp2_with (first|((with_reducible refine gate_dst (N:=2) rfl ?_);refine sV (N:=2) (cs:= #[.slice A0_0 l0_0.length c0_0,.int .i64 a0_1,.slice A0_2 l0_2.length c0_2,.slice A0_3 l0_3.length c0_3,.slice A0_4 l0_4.length c0_4]) (t:=41) ?_;intro q hg bD hbox hb;have a:=zM (hbox);have s:=sG HB hg;have b:=sG HB hg;replace HB:=sB HB hb;clear hb hbox hg)|((with_reducible refine gate_dst (N:=3) rfl ?_);refine sV (N:=3) (cs:= #[.slice A1_0 l1_0.length c1_0,.int .i64 a1_1,.slice A1_2 l1_2.length c1_2,.slice A1_3 l1_3.length c1_3,.slice A1_4 l1_4.length c1_4]) (t:=41) ?_;intro u hg bE hbox hb;have c:=zM (hbox);have v:=sG HB hg;have d:=sG HB hg;replace HB:=sB HB hb;have g:=sN a hg;have i:=sM a hg;replace a:=sK a hb;clear hb hbox hg;have bF:=g.out;have bG:=i.out;obtain⟨bH,bI,bJ,bK,bL,bM,bN,bO,bP,bQ⟩:=cells5 a.out;obtain⟨bR,bS,bT,bU,bV,bW,bX,bY,bZ,b0⟩:=cells5 c.out)|((with_reducible refine gate_callee (f:=48) rfl ?_);refine sC (some 9) Try.func48 #[.slice A0_0 l0_0.length c0_0,.slice A1_0 l1_0.length c1_0] (laws_eqStringS.calls k _ _ l0_0 _ _ l1_0 true _ ?side1 ?side2 ?side3 ?side4 p.out) ?_;(case side1=>exact sD (zC l.out HB.out));(case side2=>exact m.out);(case side3=>exact sD (zC n.out HB.out));(case side4=>exact o.out);rintro e w' ⟨rfl,⟨nd,rfl⟩⟩;refine⟨_,rfl,?_⟩)|((with_reducible refine gate_callee (f:=48) rfl ?_);refine sC (some 20) Try.func48 #[.slice A0_2 l0_2.length c0_2,.slice A1_2 l1_2.length c1_2] (laws_eqStringS.calls k _ _ l0_2 _ _ l1_2 true _ ?side1 ?side2 ?side3 ?side4 D.out) ?_;(case side1=>exact sD (zC x.out (by repeat(first|(with_reducible first|exact HB.out|apply below_alloc|apply pw_below_drewN|apply below_drew1|refine below_set ?_ b.out|refine below_set ?_ d.out)|exact HB.out))));(case side2=>exact y.out);(case side3=>exact sD (zC z.out (by repeat(first|(with_reducible first|exact HB.out|apply below_alloc|apply pw_below_drewN|apply below_drew1|refine below_set ?_ b.out|refine below_set ?_ d.out)|exact HB.out))));(case side4=>exact A.out);rintro e w' ⟨rfl,⟨nd,rfl⟩⟩;refine⟨_,rfl,?_⟩)|((with_reducible refine gate_callee (f:=49) rfl ?_);refine sC (some 26) Try.func49 #[.slice A0_3 l0_3.length c0_3,.slice A1_3 l1_3.length c1_3] (laws_eqFileS.calls k _ _ l0_3 _ _ l1_3 false _ ?side1 ?side2 ?side3 ?side4 R.out) ?_;(case side1=>exact sD (zC I.out (by repeat(first|(with_reducible first|exact HB.out|apply below_alloc|apply pw_below_drewN|apply below_drew1|refine below_set ?_ b.out|refine below_set ?_ d.out)|exact HB.out))));(case side2=>exact J.out);(case side3=>exact sD (zC K.out (by repeat(first|(with_reducible first|exact HB.out|apply below_alloc|apply pw_below_drewN|apply below_drew1|refine below_set ?_ b.out|refine below_set ?_ d.out)|exact HB.out))));(case side4=>exact L.out);rintro e b1 ⟨rfl,hb⟩;refine⟨_,rfl,?_⟩;replace a:=sK a hb;replace c:=sK c hb;replace HB:=sB HB hb;(try clear hb)))
 go_ret
 exact⟨sq,sb⟩)
 replace E:=zB E
 subst E
 rewrite[if_neg zQ]at H
 obtain rfl:=zI H
 go_enter Try.func17,Try.ntmps17
 go_wp2_with (first|((with_reducible refine gate_dst (N:=2) rfl ?_);refine sV (N:=2) (cs:= #[.slice A0_0 l0_0.length c0_0,.int .i64 a0_1,.slice A0_2 l0_2.length c0_2,.slice A0_3 l0_3.length c0_3,.slice A0_4 l0_4.length c0_4]) (t:=41) ?_;intro q hg b2 hbox hb;have a:=zM (hbox);have s:=sG HB hg;have b:=sG HB hg;replace HB:=sB HB hb;clear hb hbox hg)|((with_reducible refine gate_dst (N:=3) rfl ?_);refine sV (N:=3) (cs:= #[.slice A1_0 l1_0.length c1_0,.int .i64 a1_1,.slice A1_2 l1_2.length c1_2,.slice A1_3 l1_3.length c1_3,.slice A1_4 l1_4.length c1_4]) (t:=41) ?_;intro u hg b3 hbox hb;have c:=zM (hbox);have v:=sG HB hg;have d:=sG HB hg;replace HB:=sB HB hb;have g:=sN a hg;have i:=sM a hg;replace a:=sK a hb;clear hb hbox hg;have b4:=g.out;have b5:=i.out;obtain⟨b6,b7,b8,b9,ca,cb,cc,cd,ce,cf⟩:=cells5 a.out;obtain⟨cg,ch,ci,cj,ck,cl,cm,cn,co,cp⟩:=cells5 c.out)|((with_reducible refine gate_callee (f:=48) rfl ?_);refine sC (some 9) Try.func48 #[.slice A0_0 l0_0.length c0_0,.slice A1_0 l1_0.length c1_0] (laws_eqStringS.calls k _ _ l0_0 _ _ l1_0 true _ ?side1 ?side2 ?side3 ?side4 p.out) ?_;(case side1=>exact sD (zC l.out HB.out));(case side2=>exact m.out);(case side3=>exact sD (zC n.out HB.out));(case side4=>exact o.out);rintro e w' ⟨rfl,⟨nd,rfl⟩⟩;refine⟨_,rfl,?_⟩)|((with_reducible refine gate_callee (f:=48) rfl ?_);refine sC (some 20) Try.func48 #[.slice A0_2 l0_2.length c0_2,.slice A1_2 l1_2.length c1_2] (laws_eqStringS.calls k _ _ l0_2 _ _ l1_2 false _ ?side1 ?side2 ?side3 ?side4 D.out) ?_;(case side1=>exact sD (zC x.out (by repeat(first|(with_reducible first|exact HB.out|apply below_alloc|apply pw_below_drewN|apply below_drew1|refine below_set ?_ b.out|refine below_set ?_ d.out)|exact HB.out))));(case side2=>exact y.out);(case side3=>exact sD (zC z.out (by repeat(first|(with_reducible first|exact HB.out|apply below_alloc|apply pw_below_drewN|apply below_drew1|refine below_set ?_ b.out|refine below_set ?_ d.out)|exact HB.out))));(case side4=>exact A.out);rintro e w' ⟨rfl,⟨nd,rfl⟩⟩;refine⟨_,rfl,?_⟩))
 go_ret
 exact⟨sq,sb⟩)
 rw[if_neg j]at H
 have c5b0:(a0_1==a1_1)=false:=zN j
 have c5b1:(a0_1 !=a1_1)=true:=zX j
 obtain rfl:=zI H
 go_enter Try.func17,Try.ntmps17
 go_wp2_with (first|((with_reducible refine gate_dst (N:=2) rfl ?_);refine sV (N:=2) (cs:= #[.slice A0_0 l0_0.length c0_0,.int .i64 a0_1,.slice A0_2 l0_2.length c0_2,.slice A0_3 l0_3.length c0_3,.slice A0_4 l0_4.length c0_4]) (t:=41) ?_;intro q hg cq hbox hb;have a:=zM (hbox);have s:=sG HB hg;have b:=sG HB hg;replace HB:=sB HB hb;clear hb hbox hg)|((with_reducible refine gate_dst (N:=3) rfl ?_);refine sV (N:=3) (cs:= #[.slice A1_0 l1_0.length c1_0,.int .i64 a1_1,.slice A1_2 l1_2.length c1_2,.slice A1_3 l1_3.length c1_3,.slice A1_4 l1_4.length c1_4]) (t:=41) ?_;intro u hg cr hbox hb;have c:=zM (hbox);have v:=sG HB hg;have d:=sG HB hg;replace HB:=sB HB hb;have g:=sN a hg;have i:=sM a hg;replace a:=sK a hb;clear hb hbox hg;have ct:=g.out;have cu:=i.out;obtain⟨cv,cw,cx,cy,cz,cA,cB,cC,cD,cE⟩:=cells5 a.out;obtain⟨cF,cG,cH,cI,cJ,cK,cL,cM,cN,cO⟩:=cells5 c.out)|((with_reducible refine gate_callee (f:=48) rfl ?_);refine sC (some 9) Try.func48 #[.slice A0_0 l0_0.length c0_0,.slice A1_0 l1_0.length c1_0] (laws_eqStringS.calls k _ _ l0_0 _ _ l1_0 true _ ?side1 ?side2 ?side3 ?side4 p.out) ?_;(case side1=>exact sD (zC l.out HB.out));(case side2=>exact m.out);(case side3=>exact sD (zC n.out HB.out));(case side4=>exact o.out);rintro e w' ⟨rfl,⟨nd,rfl⟩⟩;refine⟨_,rfl,?_⟩))
 go_ret
 exact⟨sq,sb⟩)
 replace B:=zB B
 subst B
 rewrite[if_neg zQ]at H
 obtain rfl:=zI H
 go_enter Try.func17,Try.ntmps17
 go_wp2_with (first|((with_reducible refine gate_dst (N:=2) rfl ?_);refine sV (N:=2) (cs:= #[.slice A0_0 l0_0.length c0_0,.int .i64 a0_1,.slice A0_2 l0_2.length c0_2,.slice A0_3 l0_3.length c0_3,.slice A0_4 l0_4.length c0_4]) (t:=41) ?_;intro q hg cP hbox hb;have a:=zM (hbox);have s:=sG HB hg;have b:=sG HB hg;replace HB:=sB HB hb;clear hb hbox hg)|((with_reducible refine gate_dst (N:=3) rfl ?_);refine sV (N:=3) (cs:= #[.slice A1_0 l1_0.length c1_0,.int .i64 a1_1,.slice A1_2 l1_2.length c1_2,.slice A1_3 l1_3.length c1_3,.slice A1_4 l1_4.length c1_4]) (t:=41) ?_;intro u hg cQ hbox hb;have c:=zM (hbox);have v:=sG HB hg;have d:=sG HB hg;replace HB:=sB HB hb;have g:=sN a hg;have i:=sM a hg;replace a:=sK a hb;clear hb hbox hg;have cR:=g.out;have cS:=i.out;obtain⟨cT,cU,cV,cW,cX,cY,cZ,c0,c1,c2⟩:=cells5 a.out;obtain⟨c3,c6,c8,da,db,dc,dd,de,df,dg⟩:=cells5 c.out)|((with_reducible refine gate_callee (f:=48) rfl ?_);refine sC (some 9) Try.func48 #[.slice A0_0 l0_0.length c0_0,.slice A1_0 l1_0.length c1_0] (laws_eqStringS.calls k _ _ l0_0 _ _ l1_0 false _ ?side1 ?side2 ?side3 ?side4 p.out) ?_;(case side1=>exact sD (zC l.out HB.out));(case side2=>exact m.out);(case side3=>exact sD (zC n.out HB.out));(case side4=>exact o.out);rintro e w' ⟨rfl,⟨nd,rfl⟩⟩;refine⟨_,rfl,?_⟩))
 go_ret
 exact⟨sq,sb⟩
end Go.Proofs.Ytnneadpahjkhgaa.PFnExactSameMemory
