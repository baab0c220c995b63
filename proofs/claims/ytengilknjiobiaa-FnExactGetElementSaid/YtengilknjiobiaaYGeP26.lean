/- Printed functions: impl_isIndex, impl_Object_element. -/
import Derived.Test.YtengilknjiobiaaYGeP0
import Derived.Test.YtengilknjiobiaaYGeP17
namespace Go.Proofs.Ytengilknjiobiaa.PFnExactGetElement
open Go.RowKit Go.Proofs.YtengilknjiobiaaG Go.Proofs.YtengilknjiobiaaW.PrintWords Go.Proofs.YtengilknjiobiaaW.PrintLast Go.Proofs.YtengilknjiobiaaW.PrintMore
attribute [local go_sem] max2_int min2_int max_two min_two max_three min_three max_four min_four
set_option linter.unusedVariables false
set_option linter.unusedSimpArgs false
def impl_isIndex.f (a0:Int) (a1:Int):Option (Bool):=if a0≥0 then(some (decide (a0<a1)))else(some false)
set_option maxHeartbeats 8000000 in
set_option maxRecDepth 100000 in
theorem impl_isIndex.calls (a0:Int) (a1:Int) (r:Bool) (w:World) (h:impl_isIndex.f a0 a1=some r):
  Calls Try.prog 79 #[.int .i64 a0,.int .i64 a1] w fun e w'=>e= .returned (.bool r)∧Drawn0 w w':=by
 have H:(if a0≥0 then(some (decide (a0<a1)))else(some false))=some r:=h
 clear h
 by_cases a:a0≥0
 ·(
 rw[if_pos a]at H
 have c3b0:decide (0≤a0)=true:=zT a
 clear a
 obtain rfl:=zI H
 go_enter Try.func79,Try.ntmps79
 go_wp2
 go_ret
 exact⟨by first|rfl|(simp;done)|(simp[*];done),by repeat(first|exact Drawn0.refl _|apply Drawn0.step)⟩)
 rw[if_neg a]at H
 have c3b0:decide (0≤a0)=false:=zF a
 clear a
 obtain rfl:=zI H
 go_enter Try.func79,Try.ntmps79
 go_wp2
 go_ret
 exact⟨by first|rfl|(simp;done)|(simp[*];done),by repeat(first|exact Drawn0.refl _|apply Drawn0.step)⟩
def impl_Object_element.f (k:Nat) (a0_0:Int) (a0_1:Int) (a0_2:ByteArray) (a0_3:Int) (l0_4:List (S29)) (l0_5:List (S29)) (a0_6:Int) (a0_7:Int) (a0_8:ByteArray) (a0_9:Int) (a1_0:Int) (a1_1:Int) (a1_2:ByteArray) (a1_3:Int):Option (Int):=if a0_1=2 then((impl_Value.f k l0_4 a1_0 a1_1 a1_2 a1_3).bind fun t390=>(some t390))else(if a1_0=2 then((impl_isIndex.f (wrap64 (a1_1-a0_3)) (l0_5.length:Int)).bind fun t391=>(if t391=true then(some (wrap64 (a1_1-a0_3)))else(some (-1))))else(some (-1)))
set_option maxHeartbeats 8000000 in
set_option maxRecDepth 100000 in
theorem impl_Object_element.calls (k:Nat) (a0_0:Int) (a0_1:Int) (a0_2:ByteArray) (a0_3:Int) (A0_4:Option Addr) (c0_4:Nat) (l0_4:List (S29)) (A0_5:Option Addr) (c0_5:Nat) (l0_5:List (S29)) (a0_6:Int) (a0_7:Int) (a0_8:ByteArray) (a0_9:Int) (a1_0:Int) (a1_1:Int) (a1_2:ByteArray) (a1_3:Int) (r:Int) (w:World) (hr0_4:Kd.C k29 w A0_4 l0_4.length l0_4) (hc0_4:l0_4.length≤c0_4) (hr0_5:Kd.C k29 w A0_5 l0_5.length l0_5) (hc0_5:l0_5.length≤c0_5) (h:impl_Object_element.f k a0_0 a0_1 a0_2 a0_3 l0_4 l0_5 a0_6 a0_7 a0_8 a0_9 a1_0 a1_1 a1_2 a1_3=some r):
  Calls Try.prog 54 #[.agg #[.int .i64 a0_0,.int .i64 a0_1,.string a0_2,.int .i64 a0_3,.slice A0_4 l0_4.length c0_4,.slice A0_5 l0_5.length c0_5,.int .i64 a0_6,.int .i64 a0_7,.string a0_8,.int .i64 a0_9],.agg #[.int .i64 a1_0,.int .i64 a1_1,.string a1_2,.int .i64 a1_3]] w fun e w'=>e= .returned (.int .i64 r)∧Below w.heap.size w w':=by
 have A:=Try.underlying56
 have B:=Try.underlying29
 have x:=zM hr0_4
 have y:=zM hc0_4
 clear hr0_4 hc0_4
 have D:=zM hr0_5
 have E:=zM hc0_5
 clear hr0_5 hc0_5
 have HB:=zM (Below.refl w.heap.size w)
 have H:(if a0_1=2 then((impl_Value.f k l0_4 a1_0 a1_1 a1_2 a1_3).bind fun l=>(some l))else(if a1_0=2 then((impl_isIndex.f (wrap64 (a1_1-a0_3)) (l0_5.length:Int)).bind fun m=>(if m=true then(some (wrap64 (a1_1-a0_3)))else(some (-1))))else(some (-1))))=some r:=h
 clear h
 by_cases c:a0_1=2
 ·(
 rw[if_pos c]at H
 have c3b0:(a0_1==2)=true:=zE c
 have c3b1:(a0_1 !=2)=false:=zY c
 clear c
 obtain⟨l,z,H⟩:=sO H
 obtain rfl:=zI H
 go_enter Try.func54,Try.ntmps54
 go_wp2_with (first|((with_reducible refine gate_dst (N:=2) rfl ?_);(try(refine gate_guard (by rfl) ?_;dsimp only));refine sV (N:=2) (cs:= #[.int .i64 a0_0,.int .i64 a0_1,.string a0_2,.int .i64 a0_3,.slice A0_4 l0_4.length c0_4,.slice A0_5 l0_5.length c0_5,.int .i64 a0_6,.int .i64 a0_7,.string a0_8,.int .i64 a0_9]) (t:=56) ?_;intro n hg F hbox hb;have a:=zM (hbox);have o:=sG HB hg;have p:=sG HB hg;replace HB:=sB HB hb;clear hb hbox hg)|((with_reducible refine gate_dst (N:=3) rfl ?_);(try(refine gate_guard (by rfl) ?_;dsimp only));refine sV (N:=3) (cs:= #[.int .i64 a1_0,.int .i64 a1_1,.string a1_2,.int .i64 a1_3]) (t:=29) ?_;intro q hg G hbox hb;have b:=zM (hbox);have s:=sG HB hg;have u:=sG HB hg;replace HB:=sB HB hb;have d:=sN a hg;have g:=sM a hg;replace a:=sK a hb;clear hb hbox hg;have I:=d.out;have J:=g.out;obtain⟨K,L,M,O,P,Q,R,S,T,U,V,W,X,Y,Z,aa,ab,ac,ad,ae⟩:=cells10 a.out;obtain⟨af,ag,ah,ai,aj,ak,al,am⟩:=cells4 b.out)|((with_reducible refine gate_callee (f:=75) rfl ?_);refine sC (some 12) Try.func75 #[.slice A0_4 l0_4.length c0_4,.agg #[.int .i64 a1_0,.int .i64 a1_1,.string a1_2,.int .i64 a1_3]] (impl_Value.calls k _ _ l0_4 a1_0 a1_1 a1_2 a1_3 l _ ?side1 ?side2 z.out) ?_;(case side1=>exact sD (zC x.out HB.out));(case side2=>exact y.out);rintro e an ⟨rfl,hb⟩;refine⟨_,rfl,?_⟩;replace a:=sK a hb;replace b:=sK b hb;replace HB:=sB HB hb;(try clear hb)))
 go_ret
 exact⟨sq,sb⟩)
 rw[if_neg c]at H
 have c3b0:(a0_1==2)=false:=zN c
 have c3b1:(a0_1 !=2)=true:=zX c
 by_cases i:a1_0=2
 ·(
 rw[if_pos i]at H
 have c11b0:(a1_0==2)=true:=zE i
 have c11b1:(a1_0 !=2)=false:=zY i
 clear i
 obtain⟨m,v,H⟩:=sO H
 by_cases j:m=true
 ·(
 subst j
 rewrite[if_pos rfl]at H
 obtain rfl:=zI H
 go_enter Try.func54,Try.ntmps54
 go_wp2_with (first|((with_reducible refine gate_dst (N:=2) rfl ?_);(try(refine gate_guard (by rfl) ?_;dsimp only));refine sV (N:=2) (cs:= #[.int .i64 a0_0,.int .i64 a0_1,.string a0_2,.int .i64 a0_3,.slice A0_4 l0_4.length c0_4,.slice A0_5 l0_5.length c0_5,.int .i64 a0_6,.int .i64 a0_7,.string a0_8,.int .i64 a0_9]) (t:=56) ?_;intro n hg ao hbox hb;have a:=zM (hbox);have o:=sG HB hg;have p:=sG HB hg;replace HB:=sB HB hb;clear hb hbox hg)|((with_reducible refine gate_dst (N:=3) rfl ?_);(try(refine gate_guard (by rfl) ?_;dsimp only));refine sV (N:=3) (cs:= #[.int .i64 a1_0,.int .i64 a1_1,.string a1_2,.int .i64 a1_3]) (t:=29) ?_;intro q hg ap hbox hb;have b:=zM (hbox);have s:=sG HB hg;have u:=sG HB hg;replace HB:=sB HB hb;have d:=sN a hg;have g:=sM a hg;replace a:=sK a hb;clear hb hbox hg;have aq:=d.out;have ar:=g.out;obtain⟨au,av,aw,ax,ay,az,aA,aB,aC,aD,aE,aF,aG,aH,aI,aJ,aK,aL,aM,aN⟩:=cells10 a.out;obtain⟨aO,aP,aQ,aR,aS,aT,aU,aV⟩:=cells4 b.out)|(go_at_call 79;(with_reducible refine(impl_isIndex.calls (wrap64 (a1_1-a0_3)) (l0_5.length:Int) true _ v.out).mono ?_);rintro e w' ⟨rfl,⟨nd,rfl⟩⟩))
 go_ret
 exact⟨sq,sb⟩)
 replace j:=zB j
 subst j
 rewrite[if_neg zQ]at H
 obtain rfl:=zI H
 go_enter Try.func54,Try.ntmps54
 go_wp2_with (first|((with_reducible refine gate_dst (N:=2) rfl ?_);(try(refine gate_guard (by rfl) ?_;dsimp only));refine sV (N:=2) (cs:= #[.int .i64 a0_0,.int .i64 a0_1,.string a0_2,.int .i64 a0_3,.slice A0_4 l0_4.length c0_4,.slice A0_5 l0_5.length c0_5,.int .i64 a0_6,.int .i64 a0_7,.string a0_8,.int .i64 a0_9]) (t:=56) ?_;intro n hg aW hbox hb;have a:=zM (hbox);have o:=sG HB hg;have p:=sG HB hg;replace HB:=sB HB hb;clear hb hbox hg)|((with_reducible refine gate_dst (N:=3) rfl ?_);(try(refine gate_guard (by rfl) ?_;dsimp only));refine sV (N:=3) (cs:= #[.int .i64 a1_0,.int .i64 a1_1,.string a1_2,.int .i64 a1_3]) (t:=29) ?_;intro q hg aX hbox hb;have b:=zM (hbox);have s:=sG HB hg;have u:=sG HB hg;replace HB:=sB HB hb;have d:=sN a hg;have g:=sM a hg;replace a:=sK a hb;clear hb hbox hg;have aY:=d.out;have aZ:=g.out;obtain⟨a2,a3,a4,a5,a6,a7,a8,a9,ba,bb,bc,bd,be,bf,bg,bh,bi,bj,bk,bl⟩:=cells10 a.out;obtain⟨bm,bn,bo,bp,bq,br,bs,bt⟩:=cells4 b.out)|(go_at_call 79;(with_reducible refine(impl_isIndex.calls (wrap64 (a1_1-a0_3)) (l0_5.length:Int) false _ v.out).mono ?_);rintro e w' ⟨rfl,⟨nd,rfl⟩⟩))
 go_ret
 exact⟨sq,sb⟩)
 rw[if_neg i]at H
 have c11b0:(a1_0==2)=false:=zN i
 have c11b1:(a1_0 !=2)=true:=zX i
 obtain rfl:=zI H
 go_enter Try.func54,Try.ntmps54
 go_wp2_with (first|((with_reducible refine gate_dst (N:=2) rfl ?_);(try(refine gate_guard (by rfl) ?_;dsimp only));refine sV (N:=2) (cs:= #[.int .i64 a0_0,.int .i64 a0_1,.string a0_2,.int .i64 a0_3,.slice A0_4 l0_4.length c0_4,.slice A0_5 l0_5.length c0_5,.int .i64 a0_6,.int .i64 a0_7,.string a0_8,.int .i64 a0_9]) (t:=56) ?_;intro n hg bu hbox hb;have a:=zM (hbox);have o:=sG HB hg;have p:=sG HB hg;replace HB:=sB HB hb;clear hb hbox hg)|((with_reducible refine gate_dst (N:=3) rfl ?_);(try(refine gate_guard (by rfl) ?_;dsimp only));refine sV (N:=3) (cs:= #[.int .i64 a1_0,.int .i64 a1_1,.string a1_2,.int .i64 a1_3]) (t:=29) ?_;intro q hg bv hbox hb;have b:=zM (hbox);have s:=sG HB hg;have u:=sG HB hg;replace HB:=sB HB hb;have d:=sN a hg;have g:=sM a hg;replace a:=sK a hb;clear hb hbox hg;have bw:=d.out;have bx:=g.out;obtain⟨bz,bA,bB,bC,bD,bE,bF,bG,bH,bI,bJ,bK,bL,bM,bN,bO,bP,bQ,bR,bS⟩:=cells10 a.out;obtain⟨bT,bU,bV,bW,bX,bY,bZ,b0⟩:=cells4 b.out))
 go_ret
 exact⟨sq,sb⟩
end Go.Proofs.Ytengilknjiobiaa.PFnExactGetElement
