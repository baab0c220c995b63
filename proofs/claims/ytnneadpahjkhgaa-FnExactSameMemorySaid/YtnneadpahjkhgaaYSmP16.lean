/- Printed functions: spec_SameHeap, spec_SameMemory. -/
import Derived.Test.YtnneadpahjkhgaaYSmP0
import Derived.Test.YtnneadpahjkhgaaYSmPE
import Derived.Test.YtnneadpahjkhgaaYSmP15
import Derived.Test.YtnneadpahjkhgaaYSmP18
import Derived.Test.YtnneadpahjkhgaaYSmP20
namespace Go.Proofs.Ytnneadpahjkhgaa.PFnExactSameMemory
open Go.RowKit Go.Proofs.YtnneadpahjkhgaaG Go.Proofs.YtnneadpahjkhgaaW.PrintWords Go.Proofs.YtnneadpahjkhgaaW.PrintLast Go.Proofs.YtnneadpahjkhgaaW.PrintMore
attribute [local go_sem] max2_int min2_int max_two min_two max_three min_three max_four min_four
set_option linter.unusedVariables false
set_option linter.unusedSimpArgs false
section
attribute [local go_sem high] eqA116
def spec_SameHeap.f (k:Nat) (a0_0:Int) (l0_1:List (S154)) (a1_0:Int) (l1_1:List (S154)):Option (Bool):=(spec_l07Same.f k [(⟨a0_0,l0_1⟩:S69)] [(⟨a1_0,l1_1⟩:S69)]).bind fun t343=>(some t343)
set_option maxHeartbeats 8000000 in
set_option maxRecDepth 100000 in
theorem spec_SameHeap.calls (k:Nat) (a0_0:Int) (A0_1:Option Addr) (c0_1:Nat) (l0_1:List (S154)) (a1_0:Int) (A1_1:Option Addr) (c1_1:Nat) (l1_1:List (S154)) (r:Bool) (w:World) (hr0_1:Kd.C k154 w A0_1 l0_1.length l0_1) (hc0_1:l0_1.length≤c0_1) (hr1_1:Kd.C k154 w A1_1 l1_1.length l1_1) (hc1_1:l1_1.length≤c1_1) (h:spec_SameHeap.f k a0_0 l0_1 a1_0 l1_1=some r):
  Calls Try.prog 73 #[.agg #[.int .i64 a0_0,.slice A0_1 l0_1.length c0_1],.agg #[.int .i64 a1_0,.slice A1_1 l1_1.length c1_1]] w fun e w'=>e= .returned (.bool r)∧Below w.heap.size w w':=by
 have o:=Try.underlying69
 have d:=zM hr0_1
 have g:=zM hc0_1
 clear hr0_1 hc0_1
 have i:=zM hr1_1
 have j:=zM hc1_1
 clear hr1_1 hc1_1
 have HB:=zM (Below.refl w.heap.size w)
 have H:((spec_l07Same.f k [(⟨a0_0,l0_1⟩:S69)] [(⟨a1_0,l1_1⟩:S69)]).bind fun b=>(some b))=some r:=h
 clear h
 obtain⟨b,l,H⟩:=sO H
 obtain rfl:=zI H
 go_enter Try.func73,Try.ntmps73
 go_wp2_with (first|((with_reducible refine gate_dst (N:=2) rfl ?_);refine sV (N:=2) (cs:= #[.int .i64 a0_0,.slice A0_1 l0_1.length c0_1]) (t:=69) ?_;intro m hg p hbox hb;have a:=zM (hbox);have q:=sG HB hg;have s:=sG HB hg;replace HB:=sB HB hb;clear hb hbox hg)|((with_reducible refine gate_dst (N:=3) rfl ?_);refine sV (N:=3) (cs:= #[.int .i64 a1_0,.slice A1_1 l1_1.length c1_1]) (t:=69) ?_;intro n hg u hbox hb;have c:=zM (hbox);have v:=sG HB hg;have x:=sG HB hg;replace HB:=sB HB hb;have y:=sN a hg;have z:=sM a hg;replace a:=sK a hb;clear hb hbox hg)|((with_reducible refine gate_callee (f:=102) rfl ?_);refine sC (some 5) Try.func102 #[.pointer (some ⟨m,0,none⟩),.pointer (some ⟨n,0,none⟩)] (spec_l07Same.calls k _ [(⟨a0_0,l0_1⟩:S69)] _ [(⟨a1_0,l1_1⟩:S69)] b _ ?side1 ?side2 l.out) ?_;(case side1=>exact C_box (t:=69) (sT a.out) (k69_mk _ (⟨a0_0,l0_1⟩:S69) (by exact g.out) (by exact sD (zC d.out HB.out))));(case side2=>exact C_box (t:=69) (sT c.out) (k69_mk _ (⟨a1_0,l1_1⟩:S69) (by exact j.out) (by exact sD (zC i.out HB.out))));rintro e A ⟨rfl,hb⟩;refine⟨_,rfl,?_⟩;replace a:=sK a hb;replace c:=sK c hb;replace HB:=sB HB hb;(try clear hb)))
 go_ret
 exact⟨sq,sb⟩
end
def spec_SameMemory.f (k:Nat) (a0_0:Int) (l0_1:List (S154)) (l0_2:List (S116)) (l0_3:List (S107)) (l0_4:List (S109)) (l0_5:List ByteArray) (a0_6:Int) (l0_7:List ByteArray) (l0_8:List (S87)) (l0_9:List ByteArray) (a1_0:Int) (l1_1:List (S154)) (l1_2:List (S116)) (l1_3:List (S107)) (l1_4:List (S109)) (l1_5:List ByteArray) (a1_6:Int) (l1_7:List ByteArray) (l1_8:List (S87)) (l1_9:List ByteArray):Option (Bool):=(spec_SameHeap.f k a0_0 l0_1 a1_0 l1_1).bind fun t377=>(if t377=true then((spec_SameScope.f k l0_2 l0_3 l0_4 l1_2 l1_3 l1_4).bind fun t378=>(if t378=true then((spec_SameConsole.f k l0_5 a0_6 l0_7 l0_8 l0_9 l1_5 a1_6 l1_7 l1_8 l1_9).bind fun t379=>(some t379))else(some false)))else(some false))
set_option maxHeartbeats 8000000 in
set_option maxRecDepth 100000 in
theorem spec_SameMemory.calls (k:Nat) (a0_0:Int) (A0_1:Option Addr) (c0_1:Nat) (l0_1:List (S154)) (A0_2:Option Addr) (c0_2:Nat) (l0_2:List (S116)) (A0_3:Option Addr) (c0_3:Nat) (l0_3:List (S107)) (A0_4:Option Addr) (c0_4:Nat) (l0_4:List (S109)) (A0_5:Option Addr) (c0_5:Nat) (l0_5:List ByteArray) (a0_6:Int) (A0_7:Option Addr) (c0_7:Nat) (l0_7:List ByteArray) (A0_8:Option Addr) (c0_8:Nat) (l0_8:List (S87)) (A0_9:Option Addr) (c0_9:Nat) (l0_9:List ByteArray) (a1_0:Int) (A1_1:Option Addr) (c1_1:Nat) (l1_1:List (S154)) (A1_2:Option Addr) (c1_2:Nat) (l1_2:List (S116)) (A1_3:Option Addr) (c1_3:Nat) (l1_3:List (S107)) (A1_4:Option Addr) (c1_4:Nat) (l1_4:List (S109)) (A1_5:Option Addr) (c1_5:Nat) (l1_5:List ByteArray) (a1_6:Int) (A1_7:Option Addr) (c1_7:Nat) (l1_7:List ByteArray) (A1_8:Option Addr) (c1_8:Nat) (l1_8:List (S87)) (A1_9:Option Addr) (c1_9:Nat) (l1_9:List ByteArray) (r:Bool) (w:World) (hr0_1:Kd.C k154 w A0_1 l0_1.length l0_1) (hc0_1:l0_1.length≤c0_1) (hr0_2:Kd.C k116 w A0_2 l0_2.length l0_2) (hc0_2:l0_2.length≤c0_2) (hr0_3:Kd.C k107 w A0_3 l0_3.length l0_3) (hc0_3:l0_3.length≤c0_3) (hr0_4:Kd.C k109 w A0_4 l0_4.length l0_4) (hc0_4:l0_4.length≤c0_4) (hr0_5:Kd.C Kd.string w A0_5 l0_5.length l0_5) (hc0_5:l0_5.length≤c0_5) (hr0_7:Kd.C Kd.string w A0_7 l0_7.length l0_7) (hc0_7:l0_7.length≤c0_7) (hr0_8:Kd.C k87 w A0_8 l0_8.length l0_8) (hc0_8:l0_8.length≤c0_8) (hr0_9:Kd.C Kd.string w A0_9 l0_9.length l0_9) (hc0_9:l0_9.length≤c0_9) (hr1_1:Kd.C k154 w A1_1 l1_1.length l1_1) (hc1_1:l1_1.length≤c1_1) (hr1_2:Kd.C k116 w A1_2 l1_2.length l1_2) (hc1_2:l1_2.length≤c1_2) (hr1_3:Kd.C k107 w A1_3 l1_3.length l1_3) (hc1_3:l1_3.length≤c1_3) (hr1_4:Kd.C k109 w A1_4 l1_4.length l1_4) (hc1_4:l1_4.length≤c1_4) (hr1_5:Kd.C Kd.string w A1_5 l1_5.length l1_5) (hc1_5:l1_5.length≤c1_5) (hr1_7:Kd.C Kd.string w A1_7 l1_7.length l1_7) (hc1_7:l1_7.length≤c1_7) (hr1_8:Kd.C k87 w A1_8 l1_8.length l1_8) (hc1_8:l1_8.length≤c1_8) (hr1_9:Kd.C Kd.string w A1_9 l1_9.length l1_9) (hc1_9:l1_9.length≤c1_9) (h:spec_SameMemory.f k a0_0 l0_1 l0_2 l0_3 l0_4 l0_5 a0_6 l0_7 l0_8 l0_9 a1_0 l1_1 l1_2 l1_3 l1_4 l1_5 a1_6 l1_7 l1_8 l1_9=some r):
  Calls Try.prog 26 #[.agg #[.int .i64 a0_0,.slice A0_1 l0_1.length c0_1,.slice A0_2 l0_2.length c0_2,.slice A0_3 l0_3.length c0_3,.slice A0_4 l0_4.length c0_4,.slice A0_5 l0_5.length c0_5,.int .i64 a0_6,.slice A0_7 l0_7.length c0_7,.slice A0_8 l0_8.length c0_8,.slice A0_9 l0_9.length c0_9],.agg #[.int .i64 a1_0,.slice A1_1 l1_1.length c1_1,.slice A1_2 l1_2.length c1_2,.slice A1_3 l1_3.length c1_3,.slice A1_4 l1_4.length c1_4,.slice A1_5 l1_5.length c1_5,.int .i64 a1_6,.slice A1_7 l1_7.length c1_7,.slice A1_8 l1_8.length c1_8,.slice A1_9 l1_9.length c1_9]] w fun e w'=>e= .returned (.bool r)∧Below w.heap.size w w':=by
 have ah:=Try.underlying71
 have ai:=Try.underlying69
 have aj:=Try.underlying57
 have ak:=Try.underlying41
 have j:=zM hr0_1
 have l:=zM hc0_1
 clear hr0_1 hc0_1
 have u:=zM hr0_2
 have v:=zM hc0_2
 clear hr0_2 hc0_2
 have x:=zM hr0_3
 have y:=zM hc0_3
 clear hr0_3 hc0_3
 have z:=zM hr0_4
 have A:=zM hc0_4
 clear hr0_4 hc0_4
 have R:=zM hr0_5
 have S:=zM hc0_5
 clear hr0_5 hc0_5
 have T:=zM hr0_7
 have U:=zM hc0_7
 clear hr0_7 hc0_7
 have V:=zM hr0_8
 have W:=zM hc0_8
 clear hr0_8 hc0_8
 have X:=zM hr0_9
 have Y:=zM hc0_9
 clear hr0_9 hc0_9
 have m:=zM hr1_1
 have n:=zM hc1_1
 clear hr1_1 hc1_1
 have B:=zM hr1_2
 have D:=zM hc1_2
 clear hr1_2 hc1_2
 have E:=zM hr1_3
 have F:=zM hc1_3
 clear hr1_3 hc1_3
 have G:=zM hr1_4
 have I:=zM hc1_4
 clear hr1_4 hc1_4
 have Z:=zM hr1_5
 have aa:=zM hc1_5
 clear hr1_5 hc1_5
 have ab:=zM hr1_7
 have ac:=zM hc1_7
 clear hr1_7 hc1_7
 have ad:=zM hr1_8
 have ae:=zM hc1_8
 clear hr1_8 hc1_8
 have af:=zM hr1_9
 have ag:=zM hc1_9
 clear hr1_9 hc1_9
 have HB:=zM (Below.refl w.heap.size w)
 have H:((spec_SameHeap.f k a0_0 l0_1 a1_0 l1_1).bind fun o=>(if o=true then((spec_SameScope.f k l0_2 l0_3 l0_4 l1_2 l1_3 l1_4).bind fun p=>(if p=true then((spec_SameConsole.f k l0_5 a0_6 l0_7 l0_8 l0_9 l1_5 a1_6 l1_7 l1_8 l1_9).bind fun q=>(some q))else(some false)))else(some false)))=some r:=h
 clear h
 obtain⟨o,s,H⟩:=sO H
 by_cases g:o=true
 ·(
 subst g
 rewrite[if_pos rfl]at H
 obtain⟨p,J,H⟩:=sO H
 by_cases i:p=true
 ·(
 subst i
 rewrite[if_pos rfl]at H
 obtain⟨q,A7,H⟩:=sO H
 obtain rfl:=zI H
 go_enter Try.func26,Try.ntmps26
 go_wp2_with (first|((with_reducible refine gate_dst (N:=2) rfl ?_);refine sV (N:=2) (cs:= #[.int .i64 a0_0,.slice A0_1 l0_1.length c0_1,.slice A0_2 l0_2.length c0_2,.slice A0_3 l0_3.length c0_3,.slice A0_4 l0_4.length c0_4,.slice A0_5 l0_5.length c0_5,.int .i64 a0_6,.slice A0_7 l0_7.length c0_7,.slice A0_8 l0_8.length c0_8,.slice A0_9 l0_9.length c0_9]) (t:=71) ?_;intro K hg w8 hbox hb;have a:=zM (hbox);have L:=sG HB hg;have M:=sG HB hg;replace HB:=sB HB hb;clear hb hbox hg)|((with_reducible refine gate_dst (N:=3) rfl ?_);refine sV (N:=3) (cs:= #[.int .i64 a1_0,.slice A1_1 l1_1.length c1_1,.slice A1_2 l1_2.length c1_2,.slice A1_3 l1_3.length c1_3,.slice A1_4 l1_4.length c1_4,.slice A1_5 l1_5.length c1_5,.int .i64 a1_6,.slice A1_7 l1_7.length c1_7,.slice A1_8 l1_8.length c1_8,.slice A1_9 l1_9.length c1_9]) (t:=71) ?_;intro O hg w9 hbox hb;have b:=zM (hbox);have P:=sG HB hg;have Q:=sG HB hg;replace HB:=sB HB hb;have c:=sN a hg;have d:=sM a hg;replace a:=sK a hb;clear hb hbox hg;have al:=c.out;have am:=d.out;obtain⟨an,ao,ap,aq,ar,au,av,aw,ax,ay,az,aA,aB,aC,aD,aE,aF,aG,aH,aI⟩:=cells10 a.out;obtain⟨aJ,aK,aL,aM,aN,aO,aP,aQ,aR,aS,aT,aU,aV,aW,aX,aY,aZ,a0,a1,a2⟩:=cells10 b.out)|((with_reducible refine gate_callee (f:=73) rfl ?_);refine sC (some 9) Try.func73 #[.agg #[.int .i64 a0_0,.slice A0_1 l0_1.length c0_1],.agg #[.int .i64 a1_0,.slice A1_1 l1_1.length c1_1]] (spec_SameHeap.calls k a0_0 _ _ l0_1 a1_0 _ _ l1_1 true _ ?side1 ?side2 ?side3 ?side4 s.out) ?_;(case side1=>exact sD (zC j.out HB.out));(case side2=>exact l.out);(case side3=>exact sD (zC m.out HB.out));(case side4=>exact n.out);rintro e a3 ⟨rfl,hb⟩;refine⟨_,rfl,?_⟩;replace a:=sK a hb;replace b:=sK b hb;replace HB:=sB HB hb;(try clear hb);obtain⟨a4,a5,a6,a7,a8,a9,ba,bb,bc,bd,be,bf,bg,bh,bi,bj,bk,bl,bm,bn⟩:=cells10 a.out;obtain⟨bo,bp,bq,br,bs,bt,bu,bv,bw,bx,bz,bA,bB,bC,bD,bE,bF,bG,bH,bI⟩:=cells10 b.out)|(go_at_call 21;(with_reducible refine(spec_SameScope.calls k _ _ l0_2 _ _ l0_3 _ _ l0_4 _ _ l1_2 _ _ l1_3 _ _ l1_4 true _ ?side1 ?side2 ?side3 ?side4 ?side5 ?side6 ?side7 ?side8 ?side9 ?side10 ?side11 ?side12 J.out).mono ?_);(case side1=>exact sD (zC u.out HB.out));(case side2=>exact v.out);(case side3=>exact sD (zC x.out HB.out));(case side4=>exact y.out);(case side5=>exact sD (zC z.out HB.out));(case side6=>exact A.out);(case side7=>exact sD (zC B.out HB.out));(case side8=>exact D.out);(case side9=>exact sD (zC E.out HB.out));(case side10=>exact F.out);(case side11=>exact sD (zC G.out HB.out));(case side12=>exact I.out);rintro e bJ ⟨rfl,hb⟩;replace a:=sK a hb;replace b:=sK b hb;replace HB:=sB HB hb;(try clear hb);obtain⟨bK,bL,bM,bN,bO,bP,bQ,bR,bS,bT,bU,bV,bW,bX,bY,bZ,b0,b1,b2,b3⟩:=cells10 a.out;obtain⟨b4,b5,b6,b7,b8,b9,ca,cb,cc,cd,ce,cf,cg,ch,ci,cj,ck,cl,cm,cn⟩:=cells10 b.out)|(go_at_call 14;(with_reducible refine(spec_SameConsole.calls k _ _ l0_5 a0_6 _ _ l0_7 _ _ l0_8 _ _ l0_9 _ _ l1_5 a1_6 _ _ l1_7 _ _ l1_8 _ _ l1_9 q _ ?side1 ?side2 ?side3 ?side4 ?side5 ?side6 ?side7 ?side8 ?side9 ?side10 ?side11 ?side12 ?side13 ?side14 ?side15 ?side16 A7.out).mono ?_);(case side1=>exact sD (zC R.out HB.out));(case side2=>exact S.out);(case side3=>exact sD (zC T.out HB.out));(case side4=>exact U.out);(case side5=>exact sD (zC V.out HB.out));(case side6=>exact W.out);(case side7=>exact sD (zC X.out HB.out));(case side8=>exact Y.out);(case side9=>exact sD (zC Z.out HB.out));(case side10=>exact aa.out);(case side11=>exact sD (zC ab.out HB.out));(case side12=>exact ac.out);(case side13=>exact sD (zC ad.out HB.out));(case side14=>exact ae.out);(case side15=>exact sD (zC af.out HB.out));(case side16=>exact ag.out);rintro e co ⟨rfl,hb⟩;replace a:=sK a hb;replace b:=sK b hb;replace HB:=sB HB hb;(try clear hb)))
 go_ret
 exact⟨sq,sb⟩)
 replace i:=zB i
 subst i
 rewrite[if_neg zQ]at H
 obtain rfl:=zI H
 go_enter Try.func26,Try.ntmps26
 go_wp2_with (first|((with_reducible refine gate_dst (N:=2) rfl ?_);refine sV (N:=2) (cs:= #[.int .i64 a0_0,.slice A0_1 l0_1.length c0_1,.slice A0_2 l0_2.length c0_2,.slice A0_3 l0_3.length c0_3,.slice A0_4 l0_4.length c0_4,.slice A0_5 l0_5.length c0_5,.int .i64 a0_6,.slice A0_7 l0_7.length c0_7,.slice A0_8 l0_8.length c0_8,.slice A0_9 l0_9.length c0_9]) (t:=71) ?_;intro K hg cp hbox hb;have a:=zM (hbox);have L:=sG HB hg;have M:=sG HB hg;replace HB:=sB HB hb;clear hb hbox hg)|((with_reducible refine gate_dst (N:=3) rfl ?_);refine sV (N:=3) (cs:= #[.int .i64 a1_0,.slice A1_1 l1_1.length c1_1,.slice A1_2 l1_2.length c1_2,.slice A1_3 l1_3.length c1_3,.slice A1_4 l1_4.length c1_4,.slice A1_5 l1_5.length c1_5,.int .i64 a1_6,.slice A1_7 l1_7.length c1_7,.slice A1_8 l1_8.length c1_8,.slice A1_9 l1_9.length c1_9]) (t:=71) ?_;intro O hg cq hbox hb;have b:=zM (hbox);have P:=sG HB hg;have Q:=sG HB hg;replace HB:=sB HB hb;have c:=sN a hg;have d:=sM a hg;replace a:=sK a hb;clear hb hbox hg;have cr:=c.out;have ct:=d.out;obtain⟨cu,cv,cw,cx,cy,cz,cA,cB,cC,cD,cE,cF,cG,cH,cI,cJ,cK,cL,cM,cN⟩:=cells10 a.out;obtain⟨cO,cP,cQ,cR,cS,cT,cU,cV,cW,cX,cY,cZ,c0,c1,c2,c3,c5,c7,c8,c9⟩:=cells10 b.out)|((with_reducible refine gate_callee (f:=73) rfl ?_);refine sC (some 9) Try.func73 #[.agg #[.int .i64 a0_0,.slice A0_1 l0_1.length c0_1],.agg #[.int .i64 a1_0,.slice A1_1 l1_1.length c1_1]] (spec_SameHeap.calls k a0_0 _ _ l0_1 a1_0 _ _ l1_1 true _ ?side1 ?side2 ?side3 ?side4 s.out) ?_;(case side1=>exact sD (zC j.out HB.out));(case side2=>exact l.out);(case side3=>exact sD (zC m.out HB.out));(case side4=>exact n.out);rintro e da ⟨rfl,hb⟩;refine⟨_,rfl,?_⟩;replace a:=sK a hb;replace b:=sK b hb;replace HB:=sB HB hb;(try clear hb);obtain⟨db,dc,dd,de,df,dg,dh,di,dj,dk,dl,dm,dn,dp,dq,dr,ds,dt,du,dv⟩:=cells10 a.out;obtain⟨dw,dx,dy,dz,dA,dB,dC,dD,dE,dF,dG,dH,dI,dJ,dK,dL,dM,dN,dO,dP⟩:=cells10 b.out)|(go_at_call 21;(with_reducible refine(spec_SameScope.calls k _ _ l0_2 _ _ l0_3 _ _ l0_4 _ _ l1_2 _ _ l1_3 _ _ l1_4 false _ ?side1 ?side2 ?side3 ?side4 ?side5 ?side6 ?side7 ?side8 ?side9 ?side10 ?side11 ?side12 J.out).mono ?_);(case side1=>exact sD (zC u.out HB.out));(case side2=>exact v.out);(case side3=>exact sD (zC x.out HB.out));(case side4=>exact y.out);(case side5=>exact sD (zC z.out HB.out));(case side6=>exact A.out);(case side7=>exact sD (zC B.out HB.out));(case side8=>exact D.out);(case side9=>exact sD (zC E.out HB.out));(case side10=>exact F.out);(case side11=>exact sD (zC G.out HB.out));(case side12=>exact I.out);rintro e dQ ⟨rfl,hb⟩;replace a:=sK a hb;replace b:=sK b hb;replace HB:=sB HB hb;(try clear hb)))
 go_ret
 exact⟨sq,sb⟩)
 replace g:=zB g
 subst g
 rewrite[if_neg zQ]at H
 obtain rfl:=zI H
 go_enter Try.func26,Try.ntmps26
 go_wp2_with (first|((with_reducible refine gate_dst (N:=2) rfl ?_);refine sV (N:=2) (cs:= #[.int .i64 a0_0,.slice A0_1 l0_1.length c0_1,.slice A0_2 l0_2.length c0_2,.slice A0_3 l0_3.length c0_3,.slice A0_4 l0_4.length c0_4,.slice A0_5 l0_5.length c0_5,.int .i64 a0_6,.slice A0_7 l0_7.length c0_7,.slice A0_8 l0_8.length c0_8,.slice A0_9 l0_9.length c0_9]) (t:=71) ?_;intro K hg dR hbox hb;have a:=zM (hbox);have L:=sG HB hg;have M:=sG HB hg;replace HB:=sB HB hb;clear hb hbox hg)|((with_reducible refine gate_dst (N:=3) rfl ?_);refine sV (N:=3) (cs:= #[.int .i64 a1_0,.slice A1_1 l1_1.length c1_1,.slice A1_2 l1_2.length c1_2,.slice A1_3 l1_3.length c1_3,.slice A1_4 l1_4.length c1_4,.slice A1_5 l1_5.length c1_5,.int .i64 a1_6,.slice A1_7 l1_7.length c1_7,.slice A1_8 l1_8.length c1_8,.slice A1_9 l1_9.length c1_9]) (t:=71) ?_;intro O hg dS hbox hb;have b:=zM (hbox);have P:=sG HB hg;have Q:=sG HB hg;replace HB:=sB HB hb;have c:=sN a hg;have d:=sM a hg;replace a:=sK a hb;clear hb hbox hg;have dT:=c.out;have dU:=d.out;obtain⟨dV,dW,dX,dY,dZ,d0,d1,d2,d3,d4,d5,d6,d7,d8,d9,ea,eb,ec,ed,ee⟩:=cells10 a.out;obtain⟨ef,eg,eh,ei,ej,ek,el,em,en,eo,ep,er,es,et,eu,ev,ew,ex,ey,ez⟩:=cells10 b.out)|((with_reducible refine gate_callee (f:=73) rfl ?_);refine sC (some 9) Try.func73 #[.agg #[.int .i64 a0_0,.slice A0_1 l0_1.length c0_1],.agg #[.int .i64 a1_0,.slice A1_1 l1_1.length c1_1]] (spec_SameHeap.calls k a0_0 _ _ l0_1 a1_0 _ _ l1_1 false _ ?side1 ?side2 ?side3 ?side4 s.out) ?_;(case side1=>exact sD (zC j.out HB.out));(case side2=>exact l.out);(case side3=>exact sD (zC m.out HB.out));(case side4=>exact n.out);rintro e eA ⟨rfl,hb⟩;refine⟨_,rfl,?_⟩;replace a:=sK a hb;replace b:=sK b hb;replace HB:=sB HB hb;(try clear hb)))
 go_ret
 exact⟨sq,sb⟩
end Go.Proofs.Ytnneadpahjkhgaa.PFnExactSameMemory
