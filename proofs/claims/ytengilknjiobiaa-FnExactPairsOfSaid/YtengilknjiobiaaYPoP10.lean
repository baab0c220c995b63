/- Printed functions: spec_l07Refs. -/
import Derived.Test.YtengilknjiobiaaYPoP0
import Derived.Test.YtengilknjiobiaaYPoP9
namespace Go.Proofs.Ytengilknjiobiaa.PFnExactPairsOf
open Go.RowKit Go.Proofs.YtengilknjiobiaaG Go.Proofs.YtengilknjiobiaaW.PrintWords Go.Proofs.YtengilknjiobiaaW.PrintLast Go.Proofs.YtengilknjiobiaaW.PrintMore
attribute [local go_sem] max2_int min2_int max_two min_two max_three min_three max_four min_four
set_option linter.unusedVariables false
set_option linter.unusedSimpArgs false
def spec_l07Refs.f (k:Nat) (l0:List (S34)) (l1:List (S56)):Option (Bool):=if 0<(l1.length:Int)then((spec_l07FitAll.f k l0 ((rd_T56 l1 0).f4)).bind fun t213=>(if t213=true then((spec_l07FitAll.f k l0 ((rd_T56 l1 0).f5)).bind fun t215=>(if t215=true then(if((rd_T56 l1 0).f1)=2 then((spec_l07Fits.f k l0 ((rd_T56 l1 0).f6.f0) ((rd_T56 l1 0).f6.f1) ((rd_T56 l1 0).f6.f2) ((rd_T56 l1 0).f6.f3)).bind fun t218=>(some t218))else(some true))else(some false)))else(some false)))else(none)
set_option maxHeartbeats 8000000 in
set_option maxRecDepth 100000 in
theorem spec_l07Refs.calls (k:Nat) (A0:Option Addr) (l0:List (S34)) (A1:Option Addr) (l1:List (S56)) (r:Bool) (w:World) (hr0:Kd.C k34 w A0 l0.length l0) (hr1:Kd.C k56 w A1 l1.length l1) (h:spec_l07Refs.f k l0 l1=some r):
  Calls Try.prog 102 #[.pointer A0,.pointer A1] w fun e w'=>e= .returned (.bool r)∧Below w.heap.size w w':=by
 have bb:=Try.underlying29
 have A:=zM hr0
 have bc:=zM (Nat.le_refl l0.length)
 clear hr0
 have y:=zM hr1
 have bd:=zM (Nat.le_refl l1.length)
 clear hr1
 have HB:=zM (Below.refl w.heap.size w)
 have H:(if 0<(l1.length:Int)then((spec_l07FitAll.f k l0 ((rd_T56 l1 0).f4)).bind fun av=>(if av=true then((spec_l07FitAll.f k l0 ((rd_T56 l1 0).f5)).bind fun aw=>(if aw=true then(if((rd_T56 l1 0).f1)=2 then((spec_l07Fits.f k l0 ((rd_T56 l1 0).f6.f0) ((rd_T56 l1 0).f6.f1) ((rd_T56 l1 0).f6.f2) ((rd_T56 l1 0).f6.f3)).bind fun ax=>(some ax))else(some true))else(some false)))else(some false)))else(none))=some r:=h
 clear h
 by_cases c3:0<(l1.length:Int)
 ·(
 rw[if_pos c3]at H
 have c3b0:=zT c3
 have c3b1:decide (0<l1.length)=true:=zT (by omega)
 clear c3
 obtain⟨av,A4,H⟩:=sO H
 by_cases c5:av=true
 ·(
 subst c5
 rewrite[if_pos rfl]at H
 obtain⟨aw,A6,H⟩:=sO H
 by_cases c7:aw=true
 ·(
 subst c7
 rewrite[if_pos rfl]at H
 by_cases J:((rd_T56 l1 0).f1)=2
 ·(
 rw[if_pos J]at H
 have c8b0:(((rd_T56 l1 0).f1)==2)=true:=zE J
 have c8b1:(((rd_T56 l1 0).f1) !=2)=false:=zY J
 clear J
 obtain⟨ax,A9,H⟩:=sO H
 obtain rfl:=zI H
 have a:0≤(0:Int):=(by omega)
 have b:0<(l1.length:Int):=zzA
 obtain⟨z,K,L,ay,az,M,N,O,P,Q,R,S,T,U,V,W,c,d,g,i⟩:=at_T56 y.out 0 a b
 cases M
 have aA:(0<l1.length)=True:=eq_true (by omega)
 (try rw[sZ]at N)
 (try rw[sZ]at O)
 (try rw[sZ]at P)
 (try rw[sZ]at Q)
 (try rw[sZ]at R)
 (try rw[sZ]at S)
 (try rw[sZ]at T)
 (try rw[sZ]at U)
 (try rw[sZ]at V)
 (try rw[sZ]at W)
 have X:=zM d
 have Y:=zM c
 clear d c
 have aB:=zM i
 have aC:=zM g
 clear i g
 replace a:=eq_true a
 replace b:=eq_true b
 go_enter Try.func102,Try.ntmps102
 go_wp2_with (first|((with_reducible refine gate_callee (f:=73) rfl ?_);refine sC (some 10) Try.func73 #[.pointer A0,.slice K ((rd_T56 l1 0).f4).length L] (spec_l07FitAll.calls k _ l0 _ _ ((rd_T56 l1 0).f4) true _ ?side1 ?side2 ?side3 A4.out) ?_;(case side1=>exact sD A.out);(case side2=>exact sD X.out);(case side3=>exact Y.out);rintro e be ⟨rfl,hb⟩;refine⟨_,rfl,?_⟩;replace HB:=sB HB hb;(try clear hb);have j:0≤(0:Int):=(by omega);have l:0<(l1.length:Int):=zzA;obtain⟨ad214,aQ,aR,aS,aT,ak,m,n,o,p,q,s,t,u,v,x,B,D,E,F⟩:=at_T56 y.out 0 j l;obtain rfl:z=ad214:=(by injection ak);have aU:(0<l1.length)=True:=eq_true (by omega);(try rw[sZ]at m);(try rw[sZ]at n);(try rw[sZ]at o);(try rw[sZ]at p);(try rw[sZ]at q);(try rw[sZ]at s);(try rw[sZ]at t);(try rw[sZ]at u);(try rw[sZ]at v);(try rw[sZ]at x);replace m:=sX HB m;replace n:=sX HB n;replace o:=sX HB o;replace p:=sX HB p;replace q:=sX HB q;replace s:=sX HB s;replace t:=sX HB t;replace u:=sX HB u;replace v:=sX HB v;replace x:=sX HB x;have aV:=zM D;have aW:=zM B;clear D B;have al:=zM F;have am:=zM E;clear F E;replace j:=eq_true j;replace l:=eq_true l)|(go_at_call 73;(with_reducible refine(spec_l07FitAll.calls k _ l0 _ _ ((rd_T56 l1 0).f5) true _ ?side1 ?side2 ?side3 A6.out).mono ?_);(case side1=>exact sD (zC A.out HB.out));(case side2=>exact sD (zC al.out HB.out));(case side3=>exact am.out);rintro e bf ⟨rfl,hb⟩;replace HB:=sB HB hb;(try clear hb);have Z:0≤(0:Int):=(by omega);have aa:0<(l1.length:Int):=zzA;obtain⟨ad216,a1,a2,a3,a4,aD,ab,ac,ad,ae,G,I,af,ag,ah,ai,an,ao,ap,aq⟩:=at_T56 y.out 0 Z aa;obtain rfl:z=ad216:=(by injection aD);have a5:(0<l1.length)=True:=eq_true (by omega);(try rw[sZ]at ab);(try rw[sZ]at ac);(try rw[sZ]at ad);(try rw[sZ]at ae);(try rw[sZ]at G);(try rw[sZ]at I);(try rw[sZ]at af);(try rw[sZ]at ag);(try rw[sZ]at ah);(try rw[sZ]at ai);replace ab:=sX HB ab;replace ac:=sX HB ac;replace ad:=sX HB ad;replace ae:=sX HB ae;replace G:=sX HB G;replace I:=sX HB I;replace af:=sX HB af;replace ag:=sX HB ag;replace ah:=sX HB ah;replace ai:=sX HB ai;have a6:=zM ao;have a7:=zM an;clear ao an;have a8:=zM aq;have a9:=zM ap;clear aq ap;replace Z:=eq_true Z;replace aa:=eq_true aa;have aE:0≤(0:Int):=(by omega);have aF:0<(l1.length:Int):=zzA;obtain⟨ad217,bg,bh,bi,bj,ba,aG,aH,aI,aJ,ar,au,aK,aL,aM,aN,aX,aY,aZ,a0⟩:=at_T56 y.out 0 aE aF;obtain rfl:z=ad217:=(by injection ba);have bk:(0<l1.length)=True:=eq_true (by omega);(try rw[sZ]at aG);(try rw[sZ]at aH);(try rw[sZ]at aI);(try rw[sZ]at aJ);(try rw[sZ]at ar);(try rw[sZ]at au);(try rw[sZ]at aK);(try rw[sZ]at aL);(try rw[sZ]at aM);(try rw[sZ]at aN);replace aG:=sX HB aG;replace aH:=sX HB aH;replace aI:=sX HB aI;replace aJ:=sX HB aJ;replace ar:=sX HB ar;replace au:=sX HB au;replace aK:=sX HB aK;replace aL:=sX HB aL;replace aM:=sX HB aM;replace aN:=sX HB aN;have bl:=zM aY;have bm:=zM aX;clear aY aX;have bn:=zM a0;have bo:=zM aZ;clear a0 aZ;replace aE:=eq_true aE;replace aF:=eq_true aF;have aj:=zI (G.symm.trans ar);injection aj with aj aO aP;subst aj;subst aP;clear aO;have aj:=zI (I.symm.trans au);injection aj with aj aO aP;subst aj;subst aP;clear aO)|(go_at_call 103;(with_reducible refine(spec_l07Fits.calls k _ l0 ((rd_T56 l1 0).f6.f0) ((rd_T56 l1 0).f6.f1) ((rd_T56 l1 0).f6.f2) ((rd_T56 l1 0).f6.f3) ax _ ?side1 A9.out).mono ?_);(case side1=>exact sD (zC A.out HB.out));rintro e bp ⟨rfl,hb⟩;replace HB:=sB HB hb;(try clear hb)))
 go_ret
 exact⟨sq,sb⟩)
 rw[if_neg J]at H
 have c8b0:(((rd_T56 l1 0).f1)==2)=false:=zN J
 have c8b1:(((rd_T56 l1 0).f1) !=2)=true:=zX J
 obtain rfl:=zI H
 have a:0≤(0:Int):=(by omega)
 have b:0<(l1.length:Int):=zzA
 obtain⟨z,K,L,ay,az,M,N,O,P,Q,R,S,T,U,V,W,c,d,g,i⟩:=at_T56 y.out 0 a b
 cases M
 have aA:(0<l1.length)=True:=eq_true (by omega)
 (try rw[sZ]at N)
 (try rw[sZ]at O)
 (try rw[sZ]at P)
 (try rw[sZ]at Q)
 (try rw[sZ]at R)
 (try rw[sZ]at S)
 (try rw[sZ]at T)
 (try rw[sZ]at U)
 (try rw[sZ]at V)
 (try rw[sZ]at W)
 have X:=zM d
 have Y:=zM c
 clear d c
 have aB:=zM i
 have aC:=zM g
 clear i g
 replace a:=eq_true a
 replace b:=eq_true b
 go_enter Try.func102,Try.ntmps102
 go_wp2_with (first|((with_reducible refine gate_callee (f:=73) rfl ?_);refine sC (some 10) Try.func73 #[.pointer A0,.slice K ((rd_T56 l1 0).f4).length L] (spec_l07FitAll.calls k _ l0 _ _ ((rd_T56 l1 0).f4) true _ ?side1 ?side2 ?side3 A4.out) ?_;(case side1=>exact sD A.out);(case side2=>exact sD X.out);(case side3=>exact Y.out);rintro e bq ⟨rfl,hb⟩;refine⟨_,rfl,?_⟩;replace HB:=sB HB hb;(try clear hb);have j:0≤(0:Int):=(by omega);have l:0<(l1.length:Int):=zzA;obtain⟨ad214,aQ,aR,aS,aT,ak,m,n,o,p,q,s,t,u,v,x,B,D,E,F⟩:=at_T56 y.out 0 j l;obtain rfl:z=ad214:=(by injection ak);have aU:(0<l1.length)=True:=eq_true (by omega);(try rw[sZ]at m);(try rw[sZ]at n);(try rw[sZ]at o);(try rw[sZ]at p);(try rw[sZ]at q);(try rw[sZ]at s);(try rw[sZ]at t);(try rw[sZ]at u);(try rw[sZ]at v);(try rw[sZ]at x);replace m:=sX HB m;replace n:=sX HB n;replace o:=sX HB o;replace p:=sX HB p;replace q:=sX HB q;replace s:=sX HB s;replace t:=sX HB t;replace u:=sX HB u;replace v:=sX HB v;replace x:=sX HB x;have aV:=zM D;have aW:=zM B;clear D B;have al:=zM F;have am:=zM E;clear F E;replace j:=eq_true j;replace l:=eq_true l)|(go_at_call 73;(with_reducible refine(spec_l07FitAll.calls k _ l0 _ _ ((rd_T56 l1 0).f5) true _ ?side1 ?side2 ?side3 A6.out).mono ?_);(case side1=>exact sD (zC A.out HB.out));(case side2=>exact sD (zC al.out HB.out));(case side3=>exact am.out);rintro e br ⟨rfl,hb⟩;replace HB:=sB HB hb;(try clear hb);have Z:0≤(0:Int):=(by omega);have aa:0<(l1.length:Int):=zzA;obtain⟨ad216,a1,a2,a3,a4,aD,ab,ac,ad,ae,G,I,af,ag,ah,ai,an,ao,ap,aq⟩:=at_T56 y.out 0 Z aa;obtain rfl:z=ad216:=(by injection aD);have a5:(0<l1.length)=True:=eq_true (by omega);(try rw[sZ]at ab);(try rw[sZ]at ac);(try rw[sZ]at ad);(try rw[sZ]at ae);(try rw[sZ]at G);(try rw[sZ]at I);(try rw[sZ]at af);(try rw[sZ]at ag);(try rw[sZ]at ah);(try rw[sZ]at ai);replace ab:=sX HB ab;replace ac:=sX HB ac;replace ad:=sX HB ad;replace ae:=sX HB ae;replace G:=sX HB G;replace I:=sX HB I;replace af:=sX HB af;replace ag:=sX HB ag;replace ah:=sX HB ah;replace ai:=sX HB ai;have a6:=zM ao;have a7:=zM an;clear ao an;have a8:=zM aq;have a9:=zM ap;clear aq ap;replace Z:=eq_true Z;replace aa:=eq_true aa))
 go_ret
 exact⟨sq,sb⟩)
 replace c7:=zB c7
 subst c7
 rewrite[if_neg zQ]at H
 obtain rfl:=zI H
 have a:0≤(0:Int):=(by omega)
 have b:0<(l1.length:Int):=zzA
 obtain⟨z,K,L,ay,az,M,N,O,P,Q,R,S,T,U,V,W,c,d,g,i⟩:=at_T56 y.out 0 a b
 cases M
 have aA:(0<l1.length)=True:=eq_true (by omega)
 (try rw[sZ]at N)
 (try rw[sZ]at O)
 (try rw[sZ]at P)
 (try rw[sZ]at Q)
 (try rw[sZ]at R)
 (try rw[sZ]at S)
 (try rw[sZ]at T)
 (try rw[sZ]at U)
 (try rw[sZ]at V)
 (try rw[sZ]at W)
 have X:=zM d
 have Y:=zM c
 clear d c
 have aB:=zM i
 have aC:=zM g
 clear i g
 replace a:=eq_true a
 replace b:=eq_true b
 go_enter Try.func102,Try.ntmps102
 go_wp2_with (first|((with_reducible refine gate_callee (f:=73) rfl ?_);refine sC (some 10) Try.func73 #[.pointer A0,.slice K ((rd_T56 l1 0).f4).length L] (spec_l07FitAll.calls k _ l0 _ _ ((rd_T56 l1 0).f4) true _ ?side1 ?side2 ?side3 A4.out) ?_;(case side1=>exact sD A.out);(case side2=>exact sD X.out);(case side3=>exact Y.out);rintro e bs ⟨rfl,hb⟩;refine⟨_,rfl,?_⟩;replace HB:=sB HB hb;(try clear hb);have j:0≤(0:Int):=(by omega);have l:0<(l1.length:Int):=zzA;obtain⟨ad214,aQ,aR,aS,aT,ak,m,n,o,p,q,s,t,u,v,x,B,D,E,F⟩:=at_T56 y.out 0 j l;obtain rfl:z=ad214:=(by injection ak);have aU:(0<l1.length)=True:=eq_true (by omega);(try rw[sZ]at m);(try rw[sZ]at n);(try rw[sZ]at o);(try rw[sZ]at p);(try rw[sZ]at q);(try rw[sZ]at s);(try rw[sZ]at t);(try rw[sZ]at u);(try rw[sZ]at v);(try rw[sZ]at x);replace m:=sX HB m;replace n:=sX HB n;replace o:=sX HB o;replace p:=sX HB p;replace q:=sX HB q;replace s:=sX HB s;replace t:=sX HB t;replace u:=sX HB u;replace v:=sX HB v;replace x:=sX HB x;have aV:=zM D;have aW:=zM B;clear D B;have al:=zM F;have am:=zM E;clear F E;replace j:=eq_true j;replace l:=eq_true l)|(go_at_call 73;(with_reducible refine(spec_l07FitAll.calls k _ l0 _ _ ((rd_T56 l1 0).f5) false _ ?side1 ?side2 ?side3 A6.out).mono ?_);(case side1=>exact sD (zC A.out HB.out));(case side2=>exact sD (zC al.out HB.out));(case side3=>exact am.out);rintro e bt ⟨rfl,hb⟩;replace HB:=sB HB hb;(try clear hb)))
 go_ret
 exact⟨sq,sb⟩)
 replace c5:=zB c5
 subst c5
 rewrite[if_neg zQ]at H
 obtain rfl:=zI H
 have a:0≤(0:Int):=(by omega)
 have b:0<(l1.length:Int):=zzA
 obtain⟨z,K,L,ay,az,M,N,O,P,Q,R,S,T,U,V,W,c,d,g,i⟩:=at_T56 y.out 0 a b
 cases M
 have aA:(0<l1.length)=True:=eq_true (by omega)
 (try rw[sZ]at N)
 (try rw[sZ]at O)
 (try rw[sZ]at P)
 (try rw[sZ]at Q)
 (try rw[sZ]at R)
 (try rw[sZ]at S)
 (try rw[sZ]at T)
 (try rw[sZ]at U)
 (try rw[sZ]at V)
 (try rw[sZ]at W)
 have X:=zM d
 have Y:=zM c
 clear d c
 have aB:=zM i
 have aC:=zM g
 clear i g
 replace a:=eq_true a
 replace b:=eq_true b
 go_enter Try.func102,Try.ntmps102
 go_wp2_with (first|((with_reducible refine gate_callee (f:=73) rfl ?_);refine sC (some 10) Try.func73 #[.pointer A0,.slice K ((rd_T56 l1 0).f4).length L] (spec_l07FitAll.calls k _ l0 _ _ ((rd_T56 l1 0).f4) false _ ?side1 ?side2 ?side3 A4.out) ?_;(case side1=>exact sD A.out);(case side2=>exact sD X.out);(case side3=>exact Y.out);rintro e bu ⟨rfl,hb⟩;refine⟨_,rfl,?_⟩;replace HB:=sB HB hb;(try clear hb)))
 go_ret
 exact⟨sq,sb⟩)
 rw[if_neg c3]at H
 exact absurd H (by simp)
end Go.Proofs.Ytengilknjiobiaa.PFnExactPairsOf
