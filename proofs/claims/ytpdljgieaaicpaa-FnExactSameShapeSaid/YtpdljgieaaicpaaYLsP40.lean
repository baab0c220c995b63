/- Printed functions: laws_FnExactSameShape. -/
import Derived.Test.YtpdljgieaaicpaaYLsP0
import Derived.Test.YtpdljgieaaicpaaYLsP1
import Derived.Test.YtpdljgieaaicpaaYLsP2
import Derived.Test.YtpdljgieaaicpaaYLsP3
import Derived.Test.YtpdljgieaaicpaaYLsP31
import Derived.Test.YtpdljgieaaicpaaYLsP33
import Derived.Test.YtpdljgieaaicpaaYLsP36
import Derived.Test.YtpdljgieaaicpaaYLsP39
namespace Go.Proofs.Ytpdljgieaaicpaa.PFnExactLiveSize
open Go.RowKit Go.Proofs.YtpdljgieaaicpaaG Go.Proofs.YtpdljgieaaicpaaW.PrintWords Go.Proofs.YtpdljgieaaicpaaW.PrintLast Go.Proofs.YtpdljgieaaicpaaW.PrintMore
attribute [local go_sem] max2_int min2_int max_two min_two max_three min_three max_four min_four
set_option linter.unusedVariables false
set_option linter.unusedSimpArgs false
def laws_FnExactSameShape.f (k:Nat) (a0_0:Int) (l0_1:List (S86)) (l1:List (S57)) (a2_0:Int) (l2_1:List (S86)) (l3:List (S57)):Option (Bool):=(laws_szHeap.f k a0_0 l0_1 1048576).bind fun t623=>(if t623<0 then(some true)else((laws_szValueS.f k l1 t623).bind fun t624=>(if t624<0 then(some true)else((laws_szHeap.f k a2_0 l2_1 t624).bind fun t625=>(if t625<0 then(some true)else((laws_szValueS.f k l3 t625).bind fun t626=>(if t626<0 then(some true)else((laws_toHeap.f k a0_0 l0_1).bind fun bt627=>((laws_toValueS.f k l1).bind fun t631=>((laws_toHeap.f k a2_0 l2_1).bind fun bt634=>((laws_toValueS.f k l3).bind fun t638=>((spec_SameShape.f k bt627.1 bt627.2 t631 bt634.1 bt634.2 t638).bind fun t641=>((laws_toHeap.f k a0_0 l0_1).bind fun bt642=>((laws_toValueS.f k l1).bind fun t647=>((laws_toHeap.f k a2_0 l2_1).bind fun bt650=>((laws_toValueS.f k l3).bind fun t655=>((impl_SameShape.f k bt642.1 bt642.2 t647 bt650.1 bt650.2 t655).bind fun t658=>(if(t658 !=t641)=true then(some false)else((laws_toHeap.f k a0_0 l0_1).bind fun bt659=>((laws_eqHeap.f k bt642.1 bt642.2 bt659.1 bt659.2).bind fun t663=>(if t663=true then((laws_toValueS.f k l1).bind fun t664=>((laws_eqValueS.f k t647 t664).bind fun t667=>(if t667=true then((laws_toHeap.f k a2_0 l2_1).bind fun bt668=>((laws_eqHeap.f k bt650.1 bt650.2 bt668.1 bt668.2).bind fun t672=>(if t672=true then((laws_toValueS.f k l3).bind fun t673=>((laws_eqValueS.f k t655 t673).bind fun t676=>(if t676=true then(some true)else(some false))))else(some false))))else(some false))))else(some false))))))))))))))))))))))
def laws_FnExactSameShape.T14:Bool×List (List Nat×List Nat):=(true,[([],[]),([0],[0]),([],[]),([2,1],[2]),([],[]),([4,3],[4]),([],[]),([6,5],[6]),([1,3,5,7,7],[1,3,5,7]),([8,8,0,1,2,3,4,5,6,7,8],[8])])
def laws_FnExactSameShape.B14:List Nat:=[0,1,0,7,0,31,0,127,255,511]
theorem laws_FnExactSameShape.tab14:rtab .any (opsOf Try.f6 14)=laws_FnExactSameShape.T14:=by kernel_rfl
theorem laws_FnExactSameShape.bits14:waitsOk laws_FnExactSameShape.T14.2 laws_FnExactSameShape.B14=true:=by kernel_rfl
set_option maxHeartbeats 8000000 in
set_option maxRecDepth 100000 in
theorem laws_FnExactSameShape.calls (k:Nat) (a0_0:Int) (A0_1:Option Addr) (c0_1:Nat) (l0_1:List (S86)) (A1:Option Addr) (c1:Nat) (l1:List (S57)) (a2_0:Int) (A2_1:Option Addr) (c2_1:Nat) (l2_1:List (S86)) (A3:Option Addr) (c3:Nat) (l3:List (S57)) (w:World) (hr0_1:Kd.C k86 w A0_1 l0_1.length l0_1) (hc0_1:l0_1.length≤c0_1) (hr1:Kd.C k57 w A1 l1.length l1) (hc1:l1.length≤c1) (hr2_1:Kd.C k86 w A2_1 l2_1.length l2_1) (hc2_1:l2_1.length≤c2_1) (hr3:Kd.C k57 w A3 l3.length l3) (hc3:l3.length≤c3) (h:laws_FnExactSameShape.f k a0_0 l0_1 l1 a2_0 l2_1 l3=some true):
  Calls Try.prog 6 #[.agg #[.int .i64 a0_0,.slice A0_1 l0_1.length c0_1],.slice A1 l1.length c1,.agg #[.int .i64 a2_0,.slice A2_1 l2_1.length c2_1],.slice A3 l3.length c3] w fun e w'=>e= .returned (.bool true)∧Below w.heap.size w w':=by
 have cv:=Try.underlying24
 have cw:=Try.underlying32
 have av:=zM hr0_1
 have aw:=zM hc0_1
 clear hr0_1 hc0_1
 have ay:=zM hr1
 have az:=zM hc1
 clear hr1 hc1
 have aA:=zM hr2_1
 have aB:=zM hc2_1
 clear hr2_1 hc2_1
 have aG:=zM hr3
 have aH:=zM hc3
 clear hr3 hc3
 have HB:=zM (Below.refl w.heap.size w)
 have H:((laws_szHeap.f k a0_0 l0_1 1048576).bind fun J=>(if J<0 then(some true)else((laws_szValueS.f k l1 J).bind fun V=>(if V<0 then(some true)else((laws_szHeap.f k a2_0 l2_1 V).bind fun ad=>(if ad<0 then(some true)else((laws_szValueS.f k l3 ad).bind fun aI=>(if aI<0 then(some true)else((laws_toHeap.f k a0_0 l0_1).bind fun bk=>((laws_toValueS.f k l1).bind fun ax=>((laws_toHeap.f k a2_0 l2_1).bind fun aJ=>((laws_toValueS.f k l3).bind fun ao=>((spec_SameShape.f k bk.1 bk.2 ax aJ.1 aJ.2 ao).bind fun L=>((laws_toHeap.f k a0_0 l0_1).bind fun W=>((laws_toValueS.f k l1).bind fun B=>((laws_toHeap.f k a2_0 l2_1).bind fun D=>((laws_toValueS.f k l3).bind fun z=>((impl_SameShape.f k W.1 W.2 B D.1 D.2 z).bind fun E=>(if(E !=L)=true then(some false)else((laws_toHeap.f k a0_0 l0_1).bind fun X=>((laws_eqHeap.f k W.1 W.2 X.1 X.2).bind fun Y=>(if Y=true then((laws_toValueS.f k l1).bind fun R=>((laws_eqValueS.f k B R).bind fun Z=>(if Z=true then((laws_toHeap.f k a2_0 l2_1).bind fun M=>((laws_eqHeap.f k D.1 D.2 M.1 M.2).bind fun T=>(if T=true then((laws_toValueS.f k l3).bind fun O=>((laws_eqValueS.f k z O).bind fun U=>(if U=true then(some true)else(some false))))else(some false))))else(some false))))else(some false)))))))))))))))))))))))=some true:=h
 clear h
 obtain⟨J,A5,H⟩:=sO H
 by_cases c6:J<0
 ·(
 rw[if_pos c6]at H
 have c6b0:=zT c6
 clear c6
 clear H
 go_enter Try.func6,Try.ntmps6
 go_wp2_with (first|((with_reducible refine gate_dst (N:=4) rfl ?_);refine sV (N:=4) (cs:= #[.int .i64 a0_0,.slice A0_1 l0_1.length c0_1]) (t:=24) ?_;intro am hg w7 hbox hb;have a:=zM (hbox);have aZ:=sG HB hg;have F:=sG HB hg;replace HB:=sB HB hb;clear hb hbox hg)|((with_reducible refine gate_dst (N:=6) rfl ?_);refine sV (N:=6) (cs:= #[.int .i64 a2_0,.slice A2_1 l2_1.length c2_1]) (t:=24) ?_;intro an hg w8 hbox hb;have b:=zM (hbox);have a0:=sG HB hg;have G:=sG HB hg;replace HB:=sB HB hb;have ap:=sN a hg;have aq:=sM a hg;replace a:=sK a hb;clear hb hbox hg;have cx:=ap.out;have cy:=aq.out;obtain⟨cz,cA,cB,cC⟩:=cells2 a.out)|((with_reducible refine gate_callee (f:=8) rfl ?_);refine sC (some 18) Try.func8 #[.agg #[.int .i64 a0_0,.slice A0_1 l0_1.length c0_1],.int .i64 1048576] (laws_szHeap.calls k a0_0 _ _ l0_1 1048576 J _ ?side1 ?side2 A5.out) ?_;(case side1=>exact sD (zC av.out HB.out));(case side2=>exact aw.out);rintro e cD ⟨rfl,hb⟩;refine⟨_,rfl,?_⟩;replace a:=sK a hb;replace b:=sK b hb;replace HB:=sB HB hb;(try clear hb)))
 go_ret
 exact⟨sq,sb⟩)
 rw[if_neg c6]at H
 have c6b0:=zF c6
 clear c6
 obtain⟨V,a1,H⟩:=sO H
 by_cases aC:V<0
 ·(
 rw[if_pos aC]at H
 have c13b0:=zT aC
 clear aC
 clear H
 go_enter Try.func6,Try.ntmps6
 go_wp2_with (first|((with_reducible refine gate_dst (N:=4) rfl ?_);refine sV (N:=4) (cs:= #[.int .i64 a0_0,.slice A0_1 l0_1.length c0_1]) (t:=24) ?_;intro am hg cE hbox hb;have a:=zM (hbox);have aZ:=sG HB hg;have F:=sG HB hg;replace HB:=sB HB hb;clear hb hbox hg)|((with_reducible refine gate_dst (N:=6) rfl ?_);refine sV (N:=6) (cs:= #[.int .i64 a2_0,.slice A2_1 l2_1.length c2_1]) (t:=24) ?_;intro an hg cF hbox hb;have b:=zM (hbox);have a0:=sG HB hg;have G:=sG HB hg;replace HB:=sB HB hb;have ap:=sN a hg;have aq:=sM a hg;replace a:=sK a hb;clear hb hbox hg;have cG:=ap.out;have cH:=aq.out;obtain⟨cI,cJ,cK,cL⟩:=cells2 a.out)|((with_reducible refine gate_callee (f:=8) rfl ?_);refine sC (some 18) Try.func8 #[.agg #[.int .i64 a0_0,.slice A0_1 l0_1.length c0_1],.int .i64 1048576] (laws_szHeap.calls k a0_0 _ _ l0_1 1048576 J _ ?side1 ?side2 A5.out) ?_;(case side1=>exact sD (zC av.out HB.out));(case side2=>exact aw.out);rintro e cM ⟨rfl,hb⟩;refine⟨_,rfl,?_⟩;replace a:=sK a hb;replace b:=sK b hb;replace HB:=sB HB hb;(try clear hb))|((with_reducible refine gate_callee (f:=9) rfl ?_);refine sC (some 23) Try.func9 #[.slice A1 l1.length c1,.int .i64 J] (laws_szValueS.calls k _ _ l1 J V _ ?side1 ?side2 a1.out) ?_;(case side1=>exact sD (zC ay.out HB.out));(case side2=>exact az.out);rintro e cN ⟨rfl,hb⟩;refine⟨_,rfl,?_⟩;replace a:=sK a hb;replace b:=sK b hb;replace HB:=sB HB hb;(try clear hb)))
 go_ret
 exact⟨sq,sb⟩)
 rw[if_neg aC]at H
 have c13b0:=zF aC
 clear aC
 obtain⟨ad,be,H⟩:=sO H
 by_cases aD:ad<0
 ·(
 rw[if_pos aD]at H
 have c21b0:=zT aD
 clear aD
 clear H
 go_enter Try.func6,Try.ntmps6
 go_wp2_with (first|((with_reducible refine gate_dst (N:=4) rfl ?_);refine sV (N:=4) (cs:= #[.int .i64 a0_0,.slice A0_1 l0_1.length c0_1]) (t:=24) ?_;intro am hg cO hbox hb;have a:=zM (hbox);have aZ:=sG HB hg;have F:=sG HB hg;replace HB:=sB HB hb;clear hb hbox hg)|((with_reducible refine gate_dst (N:=6) rfl ?_);refine sV (N:=6) (cs:= #[.int .i64 a2_0,.slice A2_1 l2_1.length c2_1]) (t:=24) ?_;intro an hg cP hbox hb;have b:=zM (hbox);have a0:=sG HB hg;have G:=sG HB hg;replace HB:=sB HB hb;have ap:=sN a hg;have aq:=sM a hg;replace a:=sK a hb;clear hb hbox hg;have cQ:=ap.out;have cR:=aq.out;obtain⟨cS,cT,cU,cV⟩:=cells2 a.out)|((with_reducible refine gate_callee (f:=8) rfl ?_);refine sC (some 18) Try.func8 #[.agg #[.int .i64 a0_0,.slice A0_1 l0_1.length c0_1],.int .i64 1048576] (laws_szHeap.calls k a0_0 _ _ l0_1 1048576 J _ ?side1 ?side2 A5.out) ?_;(case side1=>exact sD (zC av.out HB.out));(case side2=>exact aw.out);rintro e cW ⟨rfl,hb⟩;refine⟨_,rfl,?_⟩;replace a:=sK a hb;replace b:=sK b hb;replace HB:=sB HB hb;(try clear hb))|((with_reducible refine gate_callee (f:=9) rfl ?_);refine sC (some 23) Try.func9 #[.slice A1 l1.length c1,.int .i64 J] (laws_szValueS.calls k _ _ l1 J V _ ?side1 ?side2 a1.out) ?_;(case side1=>exact sD (zC ay.out HB.out));(case side2=>exact az.out);rintro e cX ⟨rfl,hb⟩;refine⟨_,rfl,?_⟩;replace a:=sK a hb;replace b:=sK b hb;replace HB:=sB HB hb;(try clear hb);obtain⟨cY,cZ,c0,c2⟩:=cells2 b.out)|((with_reducible refine gate_callee (f:=8) rfl ?_);refine sC (some 28) Try.func8 #[.agg #[.int .i64 a2_0,.slice A2_1 l2_1.length c2_1],.int .i64 V] (laws_szHeap.calls k a2_0 _ _ l2_1 V ad _ ?side1 ?side2 be.out) ?_;(case side1=>exact sD (zC aA.out HB.out));(case side2=>exact aB.out);rintro e c4 ⟨rfl,hb⟩;refine⟨_,rfl,?_⟩;replace a:=sK a hb;replace b:=sK b hb;replace HB:=sB HB hb;(try clear hb)))
 go_ret
 exact⟨sq,sb⟩)
 rw[if_neg aD]at H
 have c21b0:=zF aD
 clear aD
 obtain⟨aI,bl,H⟩:=sO H
 by_cases aE:aI<0
 ·(
 rw[if_pos aE]at H
 have c31b0:=zT aE
 clear aE
 clear H
 go_enter Try.func6,Try.ntmps6
 go_wp2_with (first|((with_reducible refine gate_dst (N:=4) rfl ?_);refine sV (N:=4) (cs:= #[.int .i64 a0_0,.slice A0_1 l0_1.length c0_1]) (t:=24) ?_;intro am hg c5 hbox hb;have a:=zM (hbox);have aZ:=sG HB hg;have F:=sG HB hg;replace HB:=sB HB hb;clear hb hbox hg)|((with_reducible refine gate_dst (N:=6) rfl ?_);refine sV (N:=6) (cs:= #[.int .i64 a2_0,.slice A2_1 l2_1.length c2_1]) (t:=24) ?_;intro an hg c7 hbox hb;have b:=zM (hbox);have a0:=sG HB hg;have G:=sG HB hg;replace HB:=sB HB hb;have ap:=sN a hg;have aq:=sM a hg;replace a:=sK a hb;clear hb hbox hg;have c8:=ap.out;have c9:=aq.out;obtain⟨da,db,dc,dd⟩:=cells2 a.out)|((with_reducible refine gate_callee (f:=8) rfl ?_);refine sC (some 18) Try.func8 #[.agg #[.int .i64 a0_0,.slice A0_1 l0_1.length c0_1],.int .i64 1048576] (laws_szHeap.calls k a0_0 _ _ l0_1 1048576 J _ ?side1 ?side2 A5.out) ?_;(case side1=>exact sD (zC av.out HB.out));(case side2=>exact aw.out);rintro e de ⟨rfl,hb⟩;refine⟨_,rfl,?_⟩;replace a:=sK a hb;replace b:=sK b hb;replace HB:=sB HB hb;(try clear hb))|((with_reducible refine gate_callee (f:=9) rfl ?_);refine sC (some 23) Try.func9 #[.slice A1 l1.length c1,.int .i64 J] (laws_szValueS.calls k _ _ l1 J V _ ?side1 ?side2 a1.out) ?_;(case side1=>exact sD (zC ay.out HB.out));(case side2=>exact az.out);rintro e df ⟨rfl,hb⟩;refine⟨_,rfl,?_⟩;replace a:=sK a hb;replace b:=sK b hb;replace HB:=sB HB hb;(try clear hb);obtain⟨dg,dh,di,dj⟩:=cells2 b.out)|((with_reducible refine gate_callee (f:=8) rfl ?_);refine sC (some 28) Try.func8 #[.agg #[.int .i64 a2_0,.slice A2_1 l2_1.length c2_1],.int .i64 V] (laws_szHeap.calls k a2_0 _ _ l2_1 V ad _ ?side1 ?side2 be.out) ?_;(case side1=>exact sD (zC aA.out HB.out));(case side2=>exact aB.out);rintro e dk ⟨rfl,hb⟩;refine⟨_,rfl,?_⟩;replace a:=sK a hb;replace b:=sK b hb;replace HB:=sB HB hb;(try clear hb))|((with_reducible refine gate_callee (f:=9) rfl ?_);refine sC (some 33) Try.func9 #[.slice A3 l3.length c3,.int .i64 ad] (laws_szValueS.calls k _ _ l3 ad aI _ ?side1 ?side2 bl.out) ?_;(case side1=>exact sD (zC aG.out HB.out));(case side2=>exact aH.out);rintro e dl ⟨rfl,hb⟩;refine⟨_,rfl,?_⟩;replace a:=sK a hb;replace b:=sK b hb;replace HB:=sB HB hb;(try clear hb)))
 go_ret
 exact⟨sq,sb⟩)
 rw[if_neg aE]at H
 have c31b0:=zF aE
 clear aE
 replace H:=Option.bind_eq_some_iff.mp H
 obtain⟨⟨aK,aL⟩,bm,H⟩:=H
 replace H:((laws_toValueS.f k l1).bind fun ax=>((laws_toHeap.f k a2_0 l2_1).bind fun aJ=>((laws_toValueS.f k l3).bind fun ao=>((spec_SameShape.f k aK aL ax aJ.1 aJ.2 ao).bind fun L=>((laws_toHeap.f k a0_0 l0_1).bind fun W=>((laws_toValueS.f k l1).bind fun B=>((laws_toHeap.f k a2_0 l2_1).bind fun D=>((laws_toValueS.f k l3).bind fun z=>((impl_SameShape.f k W.1 W.2 B D.1 D.2 z).bind fun E=>(if(E !=L)=true then(some false)else((laws_toHeap.f k a0_0 l0_1).bind fun X=>((laws_eqHeap.f k W.1 W.2 X.1 X.2).bind fun Y=>(if Y=true then((laws_toValueS.f k l1).bind fun R=>((laws_eqValueS.f k B R).bind fun Z=>(if Z=true then((laws_toHeap.f k a2_0 l2_1).bind fun M=>((laws_eqHeap.f k D.1 D.2 M.1 M.2).bind fun T=>(if T=true then((laws_toValueS.f k l3).bind fun O=>((laws_eqValueS.f k z O).bind fun U=>(if U=true then(some true)else(some false))))else(some false))))else(some false))))else(some false))))))))))))))=some true:=H
 have bH:=zM bm
 clear bm
 obtain⟨ax,bI,H⟩:=sO H
 replace H:=Option.bind_eq_some_iff.mp H
 obtain⟨⟨a2,a3⟩,bn,H⟩:=H
 replace H:((laws_toValueS.f k l3).bind fun ao=>((spec_SameShape.f k aK aL ax a2 a3 ao).bind fun L=>((laws_toHeap.f k a0_0 l0_1).bind fun W=>((laws_toValueS.f k l1).bind fun B=>((laws_toHeap.f k a2_0 l2_1).bind fun D=>((laws_toValueS.f k l3).bind fun z=>((impl_SameShape.f k W.1 W.2 B D.1 D.2 z).bind fun E=>(if(E !=L)=true then(some false)else((laws_toHeap.f k a0_0 l0_1).bind fun X=>((laws_eqHeap.f k W.1 W.2 X.1 X.2).bind fun Y=>(if Y=true then((laws_toValueS.f k l1).bind fun R=>((laws_eqValueS.f k B R).bind fun Z=>(if Z=true then((laws_toHeap.f k a2_0 l2_1).bind fun M=>((laws_eqHeap.f k D.1 D.2 M.1 M.2).bind fun T=>(if T=true then((laws_toValueS.f k l3).bind fun O=>((laws_eqValueS.f k z O).bind fun U=>(if U=true then(some true)else(some false))))else(some false))))else(some false))))else(some false))))))))))))=some true:=H
 have bJ:=zM bn
 clear bn
 obtain⟨ao,bK,H⟩:=sO H
 obtain⟨L,bL,H⟩:=sO H
 replace H:=Option.bind_eq_some_iff.mp H
 obtain⟨⟨aa,ab⟩,bo,H⟩:=H
 replace H:((laws_toValueS.f k l1).bind fun B=>((laws_toHeap.f k a2_0 l2_1).bind fun D=>((laws_toValueS.f k l3).bind fun z=>((impl_SameShape.f k aa ab B D.1 D.2 z).bind fun E=>(if(E !=L)=true then(some false)else((laws_toHeap.f k a0_0 l0_1).bind fun X=>((laws_eqHeap.f k aa ab X.1 X.2).bind fun Y=>(if Y=true then((laws_toValueS.f k l1).bind fun R=>((laws_eqValueS.f k B R).bind fun Z=>(if Z=true then((laws_toHeap.f k a2_0 l2_1).bind fun M=>((laws_eqHeap.f k D.1 D.2 M.1 M.2).bind fun T=>(if T=true then((laws_toValueS.f k l3).bind fun O=>((laws_eqValueS.f k z O).bind fun U=>(if U=true then(some true)else(some false))))else(some false))))else(some false))))else(some false)))))))))=some true:=H
 have bM:=zM bo
 clear bo
 obtain⟨B,bO,H⟩:=sO H
 replace H:=Option.bind_eq_some_iff.mp H
 obtain⟨⟨ae,af⟩,bp,H⟩:=H
 replace H:((laws_toValueS.f k l3).bind fun z=>((impl_SameShape.f k aa ab B ae af z).bind fun E=>(if(E !=L)=true then(some false)else((laws_toHeap.f k a0_0 l0_1).bind fun X=>((laws_eqHeap.f k aa ab X.1 X.2).bind fun Y=>(if Y=true then((laws_toValueS.f k l1).bind fun R=>((laws_eqValueS.f k B R).bind fun Z=>(if Z=true then((laws_toHeap.f k a2_0 l2_1).bind fun M=>((laws_eqHeap.f k ae af M.1 M.2).bind fun T=>(if T=true then((laws_toValueS.f k l3).bind fun O=>((laws_eqValueS.f k z O).bind fun U=>(if U=true then(some true)else(some false))))else(some false))))else(some false))))else(some false)))))))=some true:=H
 have bP:=zM bp
 clear bp
 obtain⟨z,bQ,H⟩:=sO H
 obtain⟨E,bR,H⟩:=sO H
 by_cases ag:(E !=L)=true
 ·(
 rw[if_pos ag]at H
 have c51b0:(E !=L)=true:=ag
 (try(have c51b1:decide (E=L)=false:=by simpa using ag))
 (try(have c51b2:(E==L)=false:=by simpa using ag))
 (try(have c51b3:¬(E=L):=by simpa using ag))
 clear ag
 exact absurd H (by simp))
 rw[if_neg ag]at H
 have c51b0:(E !=L)=false:=by simpa using ag
 (try(have c51b1:decide (E=L)=true:=by simpa using ag))
 (try(have c51b2:(E==L)=true:=by simpa using ag))
 clear ag
 replace H:=Option.bind_eq_some_iff.mp H
 obtain⟨⟨a4,a5⟩,bq,H⟩:=H
 replace H:((laws_eqHeap.f k aa ab a4 a5).bind fun Y=>(if Y=true then((laws_toValueS.f k l1).bind fun R=>((laws_eqValueS.f k B R).bind fun Z=>(if Z=true then((laws_toHeap.f k a2_0 l2_1).bind fun M=>((laws_eqHeap.f k ae af M.1 M.2).bind fun T=>(if T=true then((laws_toValueS.f k l3).bind fun O=>((laws_eqValueS.f k z O).bind fun U=>(if U=true then(some true)else(some false))))else(some false))))else(some false))))else(some false)))=some true:=H
 have bS:=zM bq
 clear bq
 obtain⟨Y,bT,H⟩:=sO H
 by_cases a6:Y=true
 ·(
 subst a6
 rewrite[if_pos rfl]at H
 obtain⟨R,bU,H⟩:=sO H
 obtain⟨Z,bV,H⟩:=sO H
 by_cases a7:Z=true
 ·(
 subst a7
 rewrite[if_pos rfl]at H
 replace H:=Option.bind_eq_some_iff.mp H
 obtain⟨⟨a8,a9⟩,br,H⟩:=H
 replace H:((laws_eqHeap.f k ae af a8 a9).bind fun T=>(if T=true then((laws_toValueS.f k l3).bind fun O=>((laws_eqValueS.f k z O).bind fun U=>(if U=true then(some true)else(some false))))else(some false)))=some true:=H
 have bW:=zM br
 clear br
 obtain⟨T,bX,H⟩:=sO H
 by_cases ba:T=true
 ·(
 subst ba
 rewrite[if_pos rfl]at H
 obtain⟨O,bY,H⟩:=sO H
 obtain⟨U,bZ,H⟩:=sO H
 by_cases bb:U=true
 ·(
 subst bb
 have H1:(some true)=some true:=rfl
 clear H
 have H:=H1
 clear H1
 clear H
 go_enter Try.func6,Try.ntmps6
 try go_wp2_with (first|((with_reducible refine gate_dst (N:=4) rfl ?_);refine sV (N:=4) (cs:= #[.int .i64 a0_0,.slice A0_1 l0_1.length c0_1]) (t:=24) ?_;intro am hg dm hbox hb;have a:=zM (hbox);have aZ:=sG HB hg;have F:=sG HB hg;replace HB:=sB HB hb;clear hb hbox hg)|((with_reducible refine gate_dst (N:=6) rfl ?_);refine sV (N:=6) (cs:= #[.int .i64 a2_0,.slice A2_1 l2_1.length c2_1]) (t:=24) ?_;intro an hg dn hbox hb;have b:=zM (hbox);have a0:=sG HB hg;have G:=sG HB hg;replace HB:=sB HB hb;have ap:=sN a hg;have aq:=sM a hg;replace a:=sK a hb;clear hb hbox hg;have dp:=ap.out;have dq:=aq.out;obtain⟨dr,dt,du,dv⟩:=cells2 a.out)|((with_reducible refine gate_callee (f:=8) rfl ?_);refine sC (some 18) Try.func8 #[.agg #[.int .i64 a0_0,.slice A0_1 l0_1.length c0_1],.int .i64 1048576] (laws_szHeap.calls k a0_0 _ _ l0_1 1048576 J _ ?side1 ?side2 A5.out) ?_;(case side1=>exact sD (zC av.out HB.out));(case side2=>exact aw.out);rintro e dw ⟨rfl,hb⟩;refine⟨_,rfl,?_⟩;replace a:=sK a hb;replace b:=sK b hb;replace HB:=sB HB hb;(try clear hb))|((with_reducible refine gate_callee (f:=9) rfl ?_);refine sC (some 23) Try.func9 #[.slice A1 l1.length c1,.int .i64 J] (laws_szValueS.calls k _ _ l1 J V _ ?side1 ?side2 a1.out) ?_;(case side1=>exact sD (zC ay.out HB.out));(case side2=>exact az.out);rintro e dx ⟨rfl,hb⟩;refine⟨_,rfl,?_⟩;replace a:=sK a hb;replace b:=sK b hb;replace HB:=sB HB hb;(try clear hb);obtain⟨dy,dz,dA,dB⟩:=cells2 b.out)|((with_reducible refine gate_callee (f:=8) rfl ?_);refine sC (some 28) Try.func8 #[.agg #[.int .i64 a2_0,.slice A2_1 l2_1.length c2_1],.int .i64 V] (laws_szHeap.calls k a2_0 _ _ l2_1 V ad _ ?side1 ?side2 be.out) ?_;(case side1=>exact sD (zC aA.out HB.out));(case side2=>exact aB.out);rintro e dC ⟨rfl,hb⟩;refine⟨_,rfl,?_⟩;replace a:=sK a hb;replace b:=sK b hb;replace HB:=sB HB hb;(try clear hb))|((with_reducible refine gate_callee (f:=9) rfl ?_);refine sC (some 33) Try.func9 #[.slice A3 l3.length c3,.int .i64 ad] (laws_szValueS.calls k _ _ l3 ad aI _ ?side1 ?side2 bl.out) ?_;(case side1=>exact sD (zC aG.out HB.out));(case side2=>exact aH.out);rintro e b0 ⟨rfl,hb⟩;refine⟨_,rfl,?_⟩;replace a:=sK a hb;replace b:=sK b hb;replace HB:=sB HB hb;(try clear hb)))
 replace a:=zM (blk_drew a.out)
 replace b:=zM (blk_drew b.out)
 replace HB:=zM (below_drew1 HB.out)
 refine start_ (n:=10) (S:=fun w'=>w'.cell? ⟨am,0,none⟩=some (.int .i64 a0_0)∧w'.cell? ⟨am,1,none⟩=some (.slice A0_1 l0_1.length c0_1)∧w'.cell? ⟨an,0,none⟩=some (.int .i64 a2_0)∧w'.cell? ⟨an,1,none⟩=some (.slice A2_1 l2_1.length c2_1)) (ds:=[]) #[false,false,false,false,false,false,false,false,false,false] (by kernel_rfl) rfl rfl ⟨(blk_cell a.out 0).trans rfl,(blk_cell a.out 1).trans rfl,(blk_cell b.out 0).trans rfl,(blk_cell b.out 1).trans rfl⟩ (fun hHeld=>?_);refine with_tabW laws_FnExactSameShape.tab14 laws_FnExactSameShape.bits14 (fun ah bs=>?_)
 generalize b0.drew=w73 at a b HB hHeld ⊢
 refine pure_ (i:=2) (N:=some 38) (v:=?_) (a':=?_) (bN 10 4) rfl rfl (any_of ah.out (by kernel_rfl)) (fun _ _ _ h=>h) (Or.inl ⟨by rfl,?_⟩) ?_ ?_
 rotate_left
 ·(
 intro w'
 go_simp
 with_reducible rfl)
 rotate_left
 ·(
 simp only[zP,i64_w,i32_w]
 rfl)
 refine pure_ (i:=6) (N:=some 42) (v:=?_) (a':=?_) (bN 10 68) rfl rfl (any_of ah.out (by kernel_rfl)) (fun _ _ _ h=>h) (Or.inl ⟨by rfl,?_⟩) ?_ ?_
 rotate_left
 ·(
 intro w'
 go_simp
 with_reducible rfl)
 rotate_left
 ·(
 simp only[zP,i64_w,i32_w]
 rfl)
 refine take_ (i:=0) (N:=some 36) (v:=?_) (a':=?_) (bN 10 69) rfl rfl (take_ofW ah.out bs.out (by kernel_rfl)) (fun _ _ _ h=>h) (Or.inl ⟨by rfl,?_⟩) hHeld ?_ ?_
 rotate_left
 ·(
 rintro w' ⟨s0,s1,s2,s3⟩
 go_simp
 with_reducible rfl)
 rotate_left
 ·(
 simp only[zP,i64_w,i32_w]
 rfl)
 refine take_ (i:=4) (N:=some 40) (v:=?_) (a':=?_) (bN 10 85) rfl rfl (take_ofW ah.out bs.out (by kernel_rfl)) (fun _ _ _ h=>h) (Or.inl ⟨by rfl,?_⟩) hHeld ?_ ?_
 rotate_left
 ·(
 rintro w' ⟨s0,s1,s2,s3⟩
 go_simp
 with_reducible rfl)
 rotate_left
 ·(
 simp only[zP,i64_w,i32_w]
 rfl)
 refine one_ (i:=1) (N:=some 37) (bN 10 87) rfl rfl (one_of ah.out (by kernel_rfl)) (by decide) (fun K hK=>?_)
 refine goes_ Try.func11 (by kernel_rfl) rfl #[.agg #[.int .i64 a0_0,.slice A0_1 l0_1.length c0_1]] (by rfl) rfl rfl (by(try simp only[List.map_toArray,List.map_cons,List.map_nil]);first|done|rfl|(simp only[List.length_drop,List.length_take];rfl)) ?_
 with_reducible refine(laws_toHeap.calls k a0_0 _ _ l0_1 aK aL _ ?side1 ?side2 bH.out).mono ?_
 (case side1=>exact sD (zC av.out HB.out))
 (case side2=>exact aw.out)
 rintro e dD ⟨dE,rfl,c,hb⟩
 refine⟨_,rfl,?_⟩
 have j:=zM (Kd.S_lower c (below_size zzR))
 replace a:=sK a hb
 replace b:=sK b hb
 replace HB:=sB HB hb
 (try clear hb)
 (try clear hb2)
 (try clear hk)
 (try clear hi)
 (try clear c)
 refine hK.out _ _ ⟨(blk_cell a.out 0).trans rfl,(blk_cell a.out 1).trans rfl,(blk_cell b.out 0).trans rfl,(blk_cell b.out 1).trans rfl⟩ (fun hHeld=>?_)
 clear hK K
 refine norm_ (a':=?_) ?_ ?_
 rotate_left
 ·(
 show Act.put _ (some 37) _=_
 simp only[zP,i64_w,i32_w]
 rfl)
 refine one_ (i:=3) (N:=some 39) (bN 10 95) rfl rfl (one_of ah.out (by kernel_rfl)) (by decide) (fun K hK=>?_)
 refine goes_ Try.func12 (by kernel_rfl) rfl #[.slice A1 l1.length c1] (by rfl) rfl rfl (by(try simp only[List.map_toArray,List.map_cons,List.map_nil]);first|done|rfl|(simp only[List.length_drop,List.length_take];rfl)) ?_
 with_reducible refine(laws_toValueS.calls k _ _ l1 ax _ ?side1 ?side2 bI.out).mono ?_
 (case side1=>exact sD (zC ay.out HB.out))
 (case side2=>exact az.out)
 rintro e dF ⟨dG,rfl,c,hb⟩
 refine⟨_,rfl,?_⟩
 replace j:=zM (Kd.S_elder' (sI j.out) (Kd.R_base c) hb)
 have d:=zM (Kd.R_lower c (below_size zzR))
 replace a:=sK a hb
 replace b:=sK b hb
 replace HB:=sB HB hb
 (try clear hb)
 (try clear hb2)
 (try clear hk)
 (try clear hi)
 (try clear c)
 refine hK.out _ _ ⟨(blk_cell a.out 0).trans rfl,(blk_cell a.out 1).trans rfl,(blk_cell b.out 0).trans rfl,(blk_cell b.out 1).trans rfl⟩ (fun hHeld=>?_)
 clear hK K
 refine norm_ (a':=?_) ?_ ?_
 rotate_left
 ·(
 show Act.put _ (some 39) _=_
 simp only[zP,i64_w,i32_w]
 rfl)
 refine one_ (i:=5) (N:=some 41) (bN 10 127) rfl rfl (one_of ah.out (by kernel_rfl)) (by decide) (fun K hK=>?_)
 refine goes_ Try.func11 (by kernel_rfl) rfl #[.agg #[.int .i64 a2_0,.slice A2_1 l2_1.length c2_1]] (by rfl) rfl rfl (by(try simp only[List.map_toArray,List.map_cons,List.map_nil]);first|done|rfl|(simp only[List.length_drop,List.length_take];rfl)) ?_
 with_reducible refine(laws_toHeap.calls k a2_0 _ _ l2_1 a2 a3 _ ?side1 ?side2 bJ.out).mono ?_
 (case side1=>exact sD (zC aA.out HB.out))
 (case side2=>exact aB.out)
 rintro e dH ⟨dI,rfl,c,hb⟩
 refine⟨_,rfl,?_⟩
 have p:=zM (Kd.S_lower (Kd.S_new' (Kd.S_new' c (Kd.S_lt (sI j.out))) (Kd.R_lt (sE d.out))) (below_size zzR))
 replace j:=zM (Kd.S_elder' (sI j.out) (Kd.S_base c) hb)
 replace d:=zM (Kd.R_below (sE d.out) hb)
 replace a:=sK a hb
 replace b:=sK b hb
 replace HB:=sB HB hb
 (try clear hb)
 (try clear hb2)
 (try clear hk)
 (try clear hi)
 (try clear c)
 refine hK.out _ _ ⟨(blk_cell a.out 0).trans rfl,(blk_cell a.out 1).trans rfl,(blk_cell b.out 0).trans rfl,(blk_cell b.out 1).trans rfl⟩ (fun hHeld=>?_)
 clear hK K
 refine norm_ (a':=?_) ?_ ?_
 rotate_left
 ·(
 show Act.put _ (some 41) _=_
 simp only[zP,i64_w,i32_w]
 rfl)
 refine one_ (i:=7) (N:=some 43) (bN 10 255) rfl rfl (one_of ah.out (by kernel_rfl)) (by decide) (fun K hK=>?_)
 refine goes_ Try.func12 (by kernel_rfl) rfl #[.slice A3 l3.length c3] (by rfl) rfl rfl (by(try simp only[List.map_toArray,List.map_cons,List.map_nil]);first|done|rfl|(simp only[List.length_drop,List.length_take];rfl)) ?_
 with_reducible refine(laws_toValueS.calls k _ _ l3 ao _ ?side1 ?side2 bK.out).mono ?_
 (case side1=>exact sD (zC aG.out HB.out))
 (case side2=>exact aH.out)
 rintro e dJ ⟨dK,rfl,c,hb⟩
 refine⟨_,rfl,?_⟩
 replace j:=zM (Kd.S_elder' (sI j.out) (Kd.R_base c) hb)
 replace p:=zM (Kd.S_elder' (sI p.out) (Kd.R_base c) hb)
 have l:=zM (Kd.R_lower (Kd.R_new' c (Kd.R_lt (sE d.out))) (below_size zzR))
 replace d:=zM (Kd.R_elder' (sE d.out) (Kd.R_base c) hb)
 replace a:=sK a hb
 replace b:=sK b hb
 replace HB:=sB HB hb
 (try clear hb)
 (try clear hb2)
 (try clear hk)
 (try clear hi)
 (try clear c)
 obtain⟨b1,b2,bt⟩:=Kd.S_slice j.out
 (first|subst bt|(injection bt with P ai Q;have aj:=P.symm;have ak:=Q.symm;clear P ai Q;subst aj;subst ak))
 obtain⟨b3,b4,bu⟩:=Kd.R_slice d.out
 (first|subst bu|(injection bu with P ai Q;have aj:=P.symm;have ak:=Q.symm;clear P ai Q;subst aj;subst ak))
 obtain⟨b5,b6,bv⟩:=Kd.S_slice p.out
 (first|subst bv|(injection bv with P ai Q;have aj:=P.symm;have ak:=Q.symm;clear P ai Q;subst aj;subst ak))
 obtain⟨b7,b8,bw⟩:=Kd.R_slice l.out
 (first|subst bw|(injection bw with P ai Q;have aj:=P.symm;have ak:=Q.symm;clear P ai Q;subst aj;subst ak))
 refine hK.out _ _ ⟨(blk_cell a.out 0).trans rfl,(blk_cell a.out 1).trans rfl,(blk_cell b.out 0).trans rfl,(blk_cell b.out 1).trans rfl⟩ (fun hHeld=>?_)
 clear hK K
 refine norm_ (a':=?_) ?_ ?_
 rotate_left
 ·(
 show Act.put _ (some 43) _=_
 simp only[zP,i64_w,i32_w]
 rfl)
 refine one_ (i:=8) (N:=some 44) (bN 10 511) rfl rfl (one_of ah.out (by kernel_rfl)) (by decide) (fun K hK=>?_)
 refine goes_ Try.func32 (by kernel_rfl) rfl #[.agg #[.int .i64 aK,.slice b1 aL.length b2],.slice b3 ax.length b4,.agg #[.int .i64 a2,.slice b5 a3.length b6],.slice b7 ao.length b8] (by rfl) rfl rfl (by(try simp only[List.map_toArray,List.map_cons,List.map_nil]);first|done|rfl|(simp only[List.length_drop,List.length_take];rfl)) ?_
 with_reducible refine(spec_SameShape.calls k aK _ _ aL _ _ ax a2 _ _ a3 _ _ ao L _ ?side1 ?side2 ?side3 ?side4 ?side5 ?side6 ?side7 ?side8 bL.out).mono ?_
 (case side1=>exact sD ((Kd.S_reads' j.out).2.2))
 (case side2=>exact(Kd.S_reads' j.out).2.1)
 (case side3=>exact sD ((Kd.R_reads' d.out).2.2))
 (case side4=>exact(Kd.R_reads' d.out).2.1)
 (case side5=>exact sD ((Kd.S_reads' p.out).2.2))
 (case side6=>exact(Kd.S_reads' p.out).2.1)
 (case side7=>exact sD ((Kd.R_reads' l.out).2.2))
 (case side8=>exact(Kd.R_reads' l.out).2.1)
 rintro e dL ⟨rfl,hb⟩
 refine⟨_,rfl,?_⟩
 replace j:=zM (Kd.S_below (sI j.out) hb)
 replace d:=zM (Kd.R_below (sE d.out) hb)
 replace p:=zM (Kd.S_below (sI p.out) hb)
 replace l:=zM (Kd.R_below (sE l.out) hb)
 replace a:=sK a hb
 replace b:=sK b hb
 replace HB:=sB HB hb
 (try clear hb)
 (try clear hb2)
 (try clear hk)
 (try clear hi)
 refine hK.out _ _ ⟨(blk_cell a.out 0).trans rfl,(blk_cell a.out 1).trans rfl,(blk_cell b.out 0).trans rfl,(blk_cell b.out 1).trans rfl⟩ (fun hHeld=>?_)
 clear hK K
 refine norm_ (a':=?_) ?_ ?_
 rotate_left
 ·(
 show Act.put _ (some 44) _=_
 simp only[zP,i64_w,i32_w]
 rfl)
 refine pure_ (i:=9) (N:=some 10) (v:=?_) (a':=?_) (bN 10 1023) rfl rfl (any_of ah.out (by kernel_rfl)) (fun _ _ _ h=>h) (Or.inl ⟨by rfl,?_⟩) ?_ ?_
 rotate_left
 ·(
 intro w'
 go_simp
 with_reducible rfl)
 rotate_left
 ·(
 simp only[zP,i64_w,i32_w]
 rfl)
 refine done_ (done_of ah.out (by kernel_rfl)) ?_
 obtain⟨dM,dN,dO,dP⟩:=cells2 a.out
 try go_wp2_with (first|((with_reducible refine gate_callee (f:=11) rfl ?_);refine sC (some 46) Try.func11 #[.agg #[.int .i64 a0_0,.slice A0_1 l0_1.length c0_1]] (laws_toHeap.calls k a0_0 _ _ l0_1 aa ab _ ?side1 ?side2 bM.out) ?_;(case side1=>exact sD (zC av.out HB.out));(case side2=>exact aw.out);rintro e dQ ⟨dR,rfl,c,hb⟩;refine⟨_,rfl,?_⟩;have r:=zM (Kd.S_lower (Kd.S_new' (Kd.S_new' (Kd.S_new' (Kd.S_new' c (Kd.S_lt (sI j.out))) (Kd.R_lt (sE d.out))) (Kd.S_lt (sI p.out))) (Kd.R_lt (sE l.out))) (below_size zzR));replace j:=zM (Kd.S_elder' (sI j.out) (Kd.S_base c) hb);replace d:=zM (Kd.R_below (sE d.out) hb);replace p:=zM (Kd.S_elder' (sI p.out) (Kd.S_base c) hb);replace l:=zM (Kd.R_below (sE l.out) hb);replace a:=sK a hb;replace b:=sK b hb;replace HB:=sB HB hb;(try clear hb);(try clear c))|((with_reducible refine gate_dst (N:=11) rfl ?_);refine sV (N:=11) (cs:= #[.int .i64 0,.slice none 0 0]) (t:=32) ?_;intro al hg dS hbox hb;replace j:=zM (Kd.S_below (sI j.out) hb);replace d:=zM (Kd.R_below (sE d.out) hb);replace p:=zM (Kd.S_below (sI p.out) hb);replace l:=zM (Kd.R_below (sE l.out) hb);replace r:=zM (Kd.S_below (sI r.out) hb);have m:=zM (hbox);have dT:=sG HB hg;have ar:=sG HB hg;replace HB:=sB HB hb;have bf:=sN a hg;have b9:=sM a hg;replace a:=sK a hb;have bg:=sN b hg;have ca:=sM b hg;replace b:=sK b hb;clear hb hbox hg;have dU:=b9.out;have dV:=bf.out;have dW:=ca.out;have dX:=bg.out;obtain⟨dY,dZ,d0,d1⟩:=cells2 m.out;obtain⟨aM,aN,cb⟩:=Kd.S_slice r.out;subst cb)|((with_reducible refine gate_callee (f:=12) rfl ?_);refine sC (some 48) Try.func12 #[.slice A1 l1.length c1] (laws_toValueS.calls k _ _ l1 B _ ?side1 ?side2 bO.out) ?_;(case side1=>exact zC ay.out zzR);(case side2=>exact az.out);rintro e d2 ⟨d3,rfl,c,hb⟩;refine⟨_,rfl,?_⟩;have aO:=zM (Kd.S_elder' (by(with_reducible repeat(first|apply Kd.S_alloc|apply Kd.S_drewN|apply Kd.S_drew));exact(Kd.S_mono (sSF2 (g:=al) (Kd.S_types j.out m.out (by decide)) (fun _ hk=>hk.2)) (fun _ x=>x.1))) (Kd.R_base c) hb);have aP:=zM (Kd.R_elder' (by(with_reducible repeat(first|apply Kd.R_alloc|apply Kd.R_drewN|apply Kd.R_drew));exact(Kd.R_mono (sRF2 (g:=al) (Kd.R_types d.out m.out (by decide)) (fun _ hk=>hk.2)) (fun _ x=>x.1))) (Kd.R_base c) hb);have aQ:=zM (Kd.S_elder' (by(with_reducible repeat(first|apply Kd.S_alloc|apply Kd.S_drewN|apply Kd.S_drew));exact(Kd.S_mono (sSF2 (g:=al) (Kd.S_types p.out m.out (by decide)) (fun _ hk=>hk.2)) (fun _ x=>x.1))) (Kd.R_base c) hb);have aR:=zM (Kd.R_elder' (by(with_reducible repeat(first|apply Kd.R_alloc|apply Kd.R_drewN|apply Kd.R_drew));exact(Kd.R_mono (sRF2 (g:=al) (Kd.R_types l.out m.out (by decide)) (fun _ hk=>hk.2)) (fun _ x=>x.1))) (Kd.R_base c) hb);have aS:=zM (Kd.S_elder' (by(with_reducible repeat(first|apply Kd.S_alloc|apply Kd.S_drewN|apply Kd.S_drew));exact(Kd.S_mono (sSF2 (g:=al) (Kd.S_types r.out m.out (by decide)) (fun _ hk=>hk.2)) (fun _ x=>x.1))) (Kd.R_base c) hb);have aT:=zM (Kd.R_lower (Kd.R_new' (Kd.R_new' c (Kd.R_lt (by(with_reducible repeat(first|apply Kd.R_alloc|apply Kd.R_drewN|apply Kd.R_drew));exact(Kd.R_mono (sRF2 (g:=al) (Kd.R_types d.out m.out (by decide)) (fun _ hk=>hk.2)) (fun _ x=>x.1))))) (Kd.R_lt (by(with_reducible repeat(first|apply Kd.R_alloc|apply Kd.R_drewN|apply Kd.R_drew));exact(Kd.R_mono (sRF2 (g:=al) (Kd.R_types l.out m.out (by decide)) (fun _ hk=>hk.2)) (fun _ x=>x.1))))) (below_size zzR));have aU:=zM (blk_below (g:=am) (o:= .cells #[.int .i64 a0_0,.slice A0_1 l0_1.length c0_1] 24 (0,0)) (by(with_reducible repeat(first|refine blk_drewN ?_ _|refine blk_drew ?_|refine blk_alloc ?_ _));refine blk_far ?_ bf.out _;(with_reducible repeat(first|refine blk_drewN ?_ _|refine blk_drew ?_|refine blk_alloc ?_ _));refine blk_far ?_ bf.out _;exact sT a.out) hb);have aV:=zM (blk_below (g:=an) (o:= .cells #[.int .i64 a2_0,.slice A2_1 l2_1.length c2_1] 24 (0,0)) (by(with_reducible repeat(first|refine blk_drewN ?_ _|refine blk_drew ?_|refine blk_alloc ?_ _));refine blk_far ?_ bg.out _;(with_reducible repeat(first|refine blk_drewN ?_ _|refine blk_drew ?_|refine blk_alloc ?_ _));refine blk_far ?_ bg.out _;exact sT b.out) hb);have aW:=zM (blk_below (g:=al) (o:= .cells #[.int .i64 aa,.slice aM ab.length aN] 32 (0,0)) (by exact sP2 (sT m.out)) hb);have aX:=sB HB hb;clear j;clear d;clear p;clear l;clear r;clear a;clear b;clear m;clear HB;have j:=aO;have d:=aP;have p:=aQ;have l:=aR;have r:=aS;have s:=aT;have a:=aU;have b:=aV;have m:=aW;have HB:=aX;clear aO aP aQ aR aS aT aU aV aW aX;(try clear hb);(try clear hk);(try clear c);obtain⟨d4,d5,d6,d7⟩:=cells2 b.out)|((with_reducible refine gate_callee (f:=11) rfl ?_);refine sC (some 50) Try.func11 #[.agg #[.int .i64 a2_0,.slice A2_1 l2_1.length c2_1]] (laws_toHeap.calls k a2_0 _ _ l2_1 ae af _ ?side1 ?side2 bP.out) ?_;(case side1=>exact sD (zC aA.out HB.out));(case side2=>exact aB.out);rintro e d8 ⟨d9,rfl,c,hb⟩;refine⟨_,rfl,?_⟩;have u:=zM (Kd.S_lower (Kd.S_new' (Kd.S_new' (Kd.S_new' (Kd.S_new' (Kd.S_new' (Kd.S_new' c (Kd.S_lt (sI j.out))) (Kd.R_lt (sE d.out))) (Kd.S_lt (sI p.out))) (Kd.R_lt (sE l.out))) (Kd.S_lt (sI r.out))) (Kd.R_lt (sE s.out))) (below_size zzR));replace j:=zM (Kd.S_elder' (sI j.out) (Kd.S_base c) hb);replace d:=zM (Kd.R_below (sE d.out) hb);replace p:=zM (Kd.S_elder' (sI p.out) (Kd.S_base c) hb);replace l:=zM (Kd.R_below (sE l.out) hb);replace r:=zM (Kd.S_elder' (sI r.out) (Kd.S_base c) hb);replace s:=zM (Kd.R_below (sE s.out) hb);replace a:=sK a hb;replace b:=sK b hb;replace m:=sK m hb;replace HB:=sB HB hb;(try clear hb);(try clear hk);(try clear c))|((with_reducible refine gate_dst (N:=13) rfl ?_);refine sV (N:=13) (cs:= #[.int .i64 0,.slice none 0 0]) (t:=32) ?_;intro ac hg ea hbox hb;replace j:=zM (Kd.S_below (sI j.out) hb);replace d:=zM (Kd.R_below (sE d.out) hb);replace p:=zM (Kd.S_below (sI p.out) hb);replace l:=zM (Kd.R_below (sE l.out) hb);replace r:=zM (Kd.S_below (sI r.out) hb);replace s:=zM (Kd.R_below (sE s.out) hb);replace u:=zM (Kd.S_below (sI u.out) hb);have q:=zM (hbox);have eb:=sG HB hg;have aF:=sG HB hg;replace HB:=sB HB hb;have bh:=sN a hg;have cc:=sM a hg;replace a:=sK a hb;have bi:=sN b hg;have cd:=sM b hg;replace b:=sK b hb;have bj:=sN m hg;have ce:=sM m hg;replace m:=sK m hb;clear hb hbox hg;have ec:=cc.out;have ed:=bh.out;have ee:=cd.out;have ef:=bi.out;have eg:=ce.out;have eh:=bj.out;obtain⟨ei,ej,ek,el⟩:=cells2 q.out;obtain⟨bc,bd,cf⟩:=Kd.S_slice u.out;subst cf)|((with_reducible refine gate_callee (f:=12) rfl ?_);refine sC (some 52) Try.func12 #[.slice A3 l3.length c3] (laws_toValueS.calls k _ _ l3 z _ ?side1 ?side2 bQ.out) ?_;(case side1=>exact zC aG.out zzR);(case side2=>exact aH.out);rintro e em ⟨en,rfl,c,hb⟩;refine⟨_,rfl,?_⟩;have aO:=zM (Kd.S_elder' (by(with_reducible repeat(first|apply Kd.S_alloc|apply Kd.S_drewN|apply Kd.S_drew));exact(Kd.S_mono (sSF2 (g:=ac) (Kd.S_types j.out q.out (by decide)) (fun _ hk=>hk.2)) (fun _ x=>x.1))) (Kd.R_base c) hb);have aP:=zM (Kd.R_elder' (by(with_reducible repeat(first|apply Kd.R_alloc|apply Kd.R_drewN|apply Kd.R_drew));exact(Kd.R_mono (sRF2 (g:=ac) (Kd.R_types d.out q.out (by decide)) (fun _ hk=>hk.2)) (fun _ x=>x.1))) (Kd.R_base c) hb);have aQ:=zM (Kd.S_elder' (by(with_reducible repeat(first|apply Kd.S_alloc|apply Kd.S_drewN|apply Kd.S_drew));exact(Kd.S_mono (sSF2 (g:=ac) (Kd.S_types p.out q.out (by decide)) (fun _ hk=>hk.2)) (fun _ x=>x.1))) (Kd.R_base c) hb);have aR:=zM (Kd.R_elder' (by(with_reducible repeat(first|apply Kd.R_alloc|apply Kd.R_drewN|apply Kd.R_drew));exact(Kd.R_mono (sRF2 (g:=ac) (Kd.R_types l.out q.out (by decide)) (fun _ hk=>hk.2)) (fun _ x=>x.1))) (Kd.R_base c) hb);have aS:=zM (Kd.S_elder' (by(with_reducible repeat(first|apply Kd.S_alloc|apply Kd.S_drewN|apply Kd.S_drew));exact(Kd.S_mono (sSF2 (g:=ac) (Kd.S_types r.out q.out (by decide)) (fun _ hk=>hk.2)) (fun _ x=>x.1))) (Kd.R_base c) hb);have aT:=zM (Kd.R_elder' (by(with_reducible repeat(first|apply Kd.R_alloc|apply Kd.R_drewN|apply Kd.R_drew));exact(Kd.R_mono (sRF2 (g:=ac) (Kd.R_types s.out q.out (by decide)) (fun _ hk=>hk.2)) (fun _ x=>x.1))) (Kd.R_base c) hb);have aU:=zM (Kd.S_elder' (by(with_reducible repeat(first|apply Kd.S_alloc|apply Kd.S_drewN|apply Kd.S_drew));exact(Kd.S_mono (sSF2 (g:=ac) (Kd.S_types u.out q.out (by decide)) (fun _ hk=>hk.2)) (fun _ x=>x.1))) (Kd.R_base c) hb);have aV:=zM (Kd.R_lower (Kd.R_new' (Kd.R_new' (Kd.R_new' c (Kd.R_lt (by(with_reducible repeat(first|apply Kd.R_alloc|apply Kd.R_drewN|apply Kd.R_drew));exact(Kd.R_mono (sRF2 (g:=ac) (Kd.R_types d.out q.out (by decide)) (fun _ hk=>hk.2)) (fun _ x=>x.1))))) (Kd.R_lt (by(with_reducible repeat(first|apply Kd.R_alloc|apply Kd.R_drewN|apply Kd.R_drew));exact(Kd.R_mono (sRF2 (g:=ac) (Kd.R_types l.out q.out (by decide)) (fun _ hk=>hk.2)) (fun _ x=>x.1))))) (Kd.R_lt (by(with_reducible repeat(first|apply Kd.R_alloc|apply Kd.R_drewN|apply Kd.R_drew));exact(Kd.R_mono (sRF2 (g:=ac) (Kd.R_types s.out q.out (by decide)) (fun _ hk=>hk.2)) (fun _ x=>x.1))))) (below_size zzR));have aW:=zM (blk_below (g:=am) (o:= .cells #[.int .i64 a0_0,.slice A0_1 l0_1.length c0_1] 24 (0,0)) (by(with_reducible repeat(first|refine blk_drewN ?_ _|refine blk_drew ?_|refine blk_alloc ?_ _));refine blk_far ?_ bh.out _;(with_reducible repeat(first|refine blk_drewN ?_ _|refine blk_drew ?_|refine blk_alloc ?_ _));refine blk_far ?_ bh.out _;exact sT a.out) hb);have aX:=zM (blk_below (g:=an) (o:= .cells #[.int .i64 a2_0,.slice A2_1 l2_1.length c2_1] 24 (0,0)) (by(with_reducible repeat(first|refine blk_drewN ?_ _|refine blk_drew ?_|refine blk_alloc ?_ _));refine blk_far ?_ bi.out _;(with_reducible repeat(first|refine blk_drewN ?_ _|refine blk_drew ?_|refine blk_alloc ?_ _));refine blk_far ?_ bi.out _;exact sT b.out) hb);have bx:=zM (blk_below (g:=al) (o:= .cells #[.int .i64 aa,.slice aM ab.length aN] 32 (0,0)) (by(with_reducible repeat(first|refine blk_drewN ?_ _|refine blk_drew ?_|refine blk_alloc ?_ _));refine blk_far ?_ bj.out _;(with_reducible repeat(first|refine blk_drewN ?_ _|refine blk_drew ?_|refine blk_alloc ?_ _));refine blk_far ?_ bj.out _;exact sT m.out) hb);have bz:=zM (blk_below (g:=ac) (o:= .cells #[.int .i64 ae,.slice bc af.length bd] 32 (0,0)) (by exact sP2 (sT q.out)) hb);have bA:=sB HB hb;clear j;clear d;clear p;clear l;clear r;clear s;clear u;clear a;clear b;clear m;clear q;clear HB;have j:=aO;have d:=aP;have p:=aQ;have l:=aR;have r:=aS;have s:=aT;have u:=aU;have y:=aV;have a:=aW;have b:=aX;have m:=bx;have q:=bz;have HB:=bA;clear aO aP aQ aR aS aT aU aV aW aX bx bz bA;(try clear hb);(try clear hk);(try clear c);obtain⟨eo,ep,er,es⟩:=cells2 m.out;obtain⟨et,eu,ev,ew⟩:=cells2 q.out;obtain⟨bB,bC,cg⟩:=Kd.R_slice s.out;subst cg;obtain⟨bD,bE,ch⟩:=Kd.R_slice y.out;subst ch)|((with_reducible refine gate_callee (f:=31) rfl ?_);refine sC (some 57) Try.func31 #[.agg #[.int .i64 aa,.slice aM ab.length aN],.slice bB B.length bC,.agg #[.int .i64 ae,.slice bc af.length bd],.slice bD z.length bE] (impl_SameShape.calls k aa _ _ ab _ _ B ae _ _ af _ _ z E _ ?side1 ?side2 ?side3 ?side4 ?side5 ?side6 ?side7 ?side8 bR.out) ?_;(case side1=>exact sD ((Kd.S_reads' r.out).2.2));(case side2=>exact(Kd.S_reads' r.out).2.1);(case side3=>exact sD ((Kd.R_reads' s.out).2.2));(case side4=>exact(Kd.R_reads' s.out).2.1);(case side5=>exact sD ((Kd.S_reads' u.out).2.2));(case side6=>exact(Kd.S_reads' u.out).2.1);(case side7=>exact sD ((Kd.R_reads' y.out).2.2));(case side8=>exact(Kd.R_reads' y.out).2.1);rintro e ci ⟨rfl,hb⟩;refine⟨_,rfl,?_⟩;replace j:=zM (Kd.S_below (sI j.out) hb);replace d:=zM (Kd.R_below (sE d.out) hb);replace p:=zM (Kd.S_below (sI p.out) hb);replace l:=zM (Kd.R_below (sE l.out) hb);replace r:=zM (Kd.S_below (sI r.out) hb);replace s:=zM (Kd.R_below (sE s.out) hb);replace u:=zM (Kd.S_below (sI u.out) hb);replace y:=zM (Kd.R_below (sE y.out) hb);replace a:=sK a hb;replace b:=sK b hb;replace m:=sK m hb;replace q:=sK q hb;replace HB:=sB HB hb;(try clear hb);(try clear hk)))
 replace j:=zM (Kd.S_drew j.out)
 replace d:=zM (Kd.R_drew d.out)
 replace p:=zM (Kd.S_drew p.out)
 replace l:=zM (Kd.R_drew l.out)
 replace r:=zM (Kd.S_drew r.out)
 replace s:=zM (Kd.R_drew s.out)
 replace u:=zM (Kd.S_drew u.out)
 replace y:=zM (Kd.R_drew y.out)
 replace a:=zM (blk_drew a.out)
 replace b:=zM (blk_drew b.out)
 replace m:=zM (blk_drew m.out)
 replace q:=zM (blk_drew q.out)
 replace HB:=zM (below_drew1 HB.out)
 refine start_ (n:=5) (S:=fun w'=>w'.cell? ⟨al,0,none⟩=some (.int .i64 aa)∧w'.cell? ⟨al,1,none⟩=some (.slice aM ab.length aN)∧w'.cell? ⟨am,0,none⟩=some (.int .i64 a0_0)∧w'.cell? ⟨am,1,none⟩=some (.slice A0_1 l0_1.length c0_1)) (ds:=[]) #[false,false,false,false,false] (by kernel_rfl) rfl rfl ⟨(blk_cell m.out 0).trans rfl,(blk_cell m.out 1).trans rfl,(blk_cell a.out 0).trans rfl,(blk_cell a.out 1).trans rfl⟩ (fun hHeld=>?_)
 generalize ci.drew=w105 at j d p l r s u y a b m q HB hHeld ⊢
 refine take_ (i:=0) (N:=some 61) (v:=?_) (a':=?_) #[true,false,false,false,false] rfl rfl (by kernel_rfl) (fun _ _ _ h=>h) (Or.inl ⟨by rfl,?_⟩) hHeld ?_ ?_
 rotate_left
 ·(
 rintro w' ⟨s0,s1,s2,s3⟩
 go_simp
 with_reducible rfl)
 rotate_left
 ·(
 simp only[zP,i64_w,i32_w]
 rfl)
 refine take_ (i:=1) (N:=some 62) (v:=?_) (a':=?_) #[true,true,false,false,false] rfl rfl (by kernel_rfl) (fun _ _ _ h=>h) (Or.inl ⟨by rfl,?_⟩) hHeld ?_ ?_
 rotate_left
 ·(
 rintro w' ⟨s0,s1,s2,s3⟩
 go_simp
 with_reducible rfl)
 rotate_left
 ·(
 simp only[zP,i64_w,i32_w]
 rfl)
 refine one_ (i:=2) (N:=some 63) #[true,true,true,false,false] rfl rfl (by kernel_rfl) (by decide) (fun K hK=>?_)
 refine goes_ Try.func11 (by kernel_rfl) rfl #[.agg #[.int .i64 a0_0,.slice A0_1 l0_1.length c0_1]] (by rfl) rfl rfl (by(try simp only[List.map_toArray,List.map_cons,List.map_nil]);first|done|rfl|(simp only[List.length_drop,List.length_take];rfl)) ?_
 with_reducible refine(laws_toHeap.calls k a0_0 _ _ l0_1 a4 a5 _ ?side1 ?side2 bS.out).mono ?_
 (case side1=>exact sD (zC av.out HB.out))
 (case side2=>exact aw.out)
 rintro e ex ⟨ey,rfl,c,hb⟩
 refine⟨_,rfl,?_⟩
 have A:=zM (Kd.S_lower (Kd.S_new' (Kd.S_new' (Kd.S_new' (Kd.S_new' (Kd.S_new' (Kd.S_new' (Kd.S_new' (Kd.S_new' c (Kd.S_lt (sI j.out))) (Kd.R_lt (sE d.out))) (Kd.S_lt (sI p.out))) (Kd.R_lt (sE l.out))) (Kd.S_lt (sI r.out))) (Kd.R_lt (sE s.out))) (Kd.S_lt (sI u.out))) (Kd.R_lt (sE y.out))) (below_size zzR))
 replace j:=zM (Kd.S_elder' (sI j.out) (Kd.S_base c) hb)
 replace d:=zM (Kd.R_below (sE d.out) hb)
 replace p:=zM (Kd.S_elder' (sI p.out) (Kd.S_base c) hb)
 replace l:=zM (Kd.R_below (sE l.out) hb)
 replace r:=zM (Kd.S_elder' (sI r.out) (Kd.S_base c) hb)
 replace s:=zM (Kd.R_below (sE s.out) hb)
 replace u:=zM (Kd.S_elder' (sI u.out) (Kd.S_base c) hb)
 replace y:=zM (Kd.R_below (sE y.out) hb)
 replace a:=sK a hb
 replace b:=sK b hb
 replace m:=sK m hb
 replace q:=sK q hb
 replace HB:=sB HB hb
 (try clear hb)
 (try clear hb2)
 (try clear hk)
 (try clear hi)
 (try clear c)
 obtain⟨cj,ck,bF⟩:=Kd.S_slice A.out
 (first|subst bF|(injection bF with P ai Q;have aj:=P.symm;have ak:=Q.symm;clear P ai Q;subst aj;subst ak))
 refine hK.out _ _ ⟨(blk_cell m.out 0).trans rfl,(blk_cell m.out 1).trans rfl,(blk_cell a.out 0).trans rfl,(blk_cell a.out 1).trans rfl⟩ (fun hHeld=>?_)
 clear hK K
 refine norm_ (a':=?_) ?_ ?_
 rotate_left
 ·(
 show Act.put _ (some 63) _=_
 simp only[zP,i64_w,i32_w]
 rfl)
 refine one_ (i:=3) (N:=some 64) #[true,true,true,true,false] rfl rfl (by kernel_rfl) (by decide) (fun K hK=>?_)
 refine goes_ Try.func15 (by kernel_rfl) rfl #[.agg #[.int .i64 aa,.slice aM ab.length aN],.agg #[.int .i64 a4,.slice cj a5.length ck]] (by rfl) rfl rfl (by(try simp only[List.map_toArray,List.map_cons,List.map_nil]);first|done|rfl|(simp only[List.length_drop,List.length_take];rfl)) ?_
 with_reducible refine(laws_eqHeap.calls k aa _ _ ab a4 _ _ a5 true _ ?side1 ?side2 ?side3 ?side4 bT.out).mono ?_
 (case side1=>exact sD ((Kd.S_reads' r.out).2.2))
 (case side2=>exact(Kd.S_reads' r.out).2.1)
 (case side3=>exact sD ((Kd.S_reads' A.out).2.2))
 (case side4=>exact(Kd.S_reads' A.out).2.1)
 rintro e ez ⟨rfl,hb⟩
 refine⟨_,rfl,?_⟩
 replace j:=zM (Kd.S_below (sI j.out) hb)
 replace d:=zM (Kd.R_below (sE d.out) hb)
 replace p:=zM (Kd.S_below (sI p.out) hb)
 replace l:=zM (Kd.R_below (sE l.out) hb)
 replace r:=zM (Kd.S_below (sI r.out) hb)
 replace s:=zM (Kd.R_below (sE s.out) hb)
 replace u:=zM (Kd.S_below (sI u.out) hb)
 replace y:=zM (Kd.R_below (sE y.out) hb)
 replace A:=zM (Kd.S_below (sI A.out) hb)
 replace a:=sK a hb
 replace b:=sK b hb
 replace m:=sK m hb
 replace q:=sK q hb
 replace HB:=sB HB hb
 (try clear hb)
 (try clear hb2)
 (try clear hk)
 (try clear hi)
 refine hK.out _ _ ⟨(blk_cell m.out 0).trans rfl,(blk_cell m.out 1).trans rfl,(blk_cell a.out 0).trans rfl,(blk_cell a.out 1).trans rfl⟩ (fun hHeld=>?_)
 clear hK K
 refine norm_ (a':=?_) ?_ ?_
 rotate_left
 ·(
 show Act.put _ (some 64) _=_
 simp only[zP,i64_w,i32_w]
 rfl)
 refine pure_ (i:=4) (N:=some 65) (v:=?_) (a':=?_) #[true,true,true,true,true] rfl rfl (by kernel_rfl) (fun _ _ _ h=>h) (Or.inl ⟨by rfl,?_⟩) ?_ ?_
 rotate_left
 ·(
 intro w'
 go_simp
 with_reducible rfl)
 rotate_left
 ·(
 simp only[zP,i64_w,i32_w]
 rfl)
 refine done_ (by kernel_rfl) ?_
 try go_wp2_with (first|((with_reducible refine gate_callee (f:=12) rfl ?_);refine sC (some 68) Try.func12 #[.slice A1 l1.length c1] (laws_toValueS.calls k _ _ l1 R _ ?side1 ?side2 bU.out) ?_;(case side1=>exact sD (zC ay.out HB.out));(case side2=>exact az.out);rintro e eA ⟨eB,rfl,c,hb⟩;refine⟨_,rfl,?_⟩;replace j:=zM (Kd.S_elder' (sI j.out) (Kd.R_base c) hb);replace p:=zM (Kd.S_elder' (sI p.out) (Kd.R_base c) hb);replace r:=zM (Kd.S_elder' (sI r.out) (Kd.R_base c) hb);replace u:=zM (Kd.S_elder' (sI u.out) (Kd.R_base c) hb);replace A:=zM (Kd.S_elder' (sI A.out) (Kd.R_base c) hb);have I:=zM (Kd.R_lower (Kd.R_new' (Kd.R_new' (Kd.R_new' (Kd.R_new' c (Kd.R_lt (sE d.out))) (Kd.R_lt (sE l.out))) (Kd.R_lt (sE s.out))) (Kd.R_lt (sE y.out))) (below_size zzR));replace d:=zM (Kd.R_elder' (sE d.out) (Kd.R_base c) hb);replace l:=zM (Kd.R_elder' (sE l.out) (Kd.R_base c) hb);replace s:=zM (Kd.R_elder' (sE s.out) (Kd.R_base c) hb);replace y:=zM (Kd.R_elder' (sE y.out) (Kd.R_base c) hb);replace a:=sK a hb;replace b:=sK b hb;replace m:=sK m hb;replace q:=sK q hb;replace HB:=sB HB hb;(try clear hb);(try clear c);obtain⟨cl,cm,cn⟩:=Kd.R_slice I.out;subst cn)|((with_reducible refine gate_callee (f:=16) rfl ?_);refine sC (some 69) Try.func16 #[.slice bB B.length bC,.slice cl R.length cm] (laws_eqValueS.calls k _ _ B _ _ R true _ ?side1 ?side2 ?side3 ?side4 bV.out) ?_;(case side1=>exact sD ((Kd.R_reads' s.out).2.2));(case side2=>exact(Kd.R_reads' s.out).2.1);(case side3=>exact sD ((Kd.R_reads' I.out).2.2));(case side4=>exact(Kd.R_reads' I.out).2.1);rintro e co ⟨rfl,hb⟩;refine⟨_,rfl,?_⟩;replace j:=zM (Kd.S_below (sI j.out) hb);replace d:=zM (Kd.R_below (sE d.out) hb);replace p:=zM (Kd.S_below (sI p.out) hb);replace l:=zM (Kd.R_below (sE l.out) hb);replace r:=zM (Kd.S_below (sI r.out) hb);replace s:=zM (Kd.R_below (sE s.out) hb);replace u:=zM (Kd.S_below (sI u.out) hb);replace y:=zM (Kd.R_below (sE y.out) hb);replace A:=zM (Kd.S_below (sI A.out) hb);replace I:=zM (Kd.R_below (sE I.out) hb);replace a:=sK a hb;replace b:=sK b hb;replace m:=sK m hb;replace q:=sK q hb;replace HB:=sB HB hb;(try clear hb)))
 replace j:=zM (Kd.S_drew j.out)
 replace d:=zM (Kd.R_drew d.out)
 replace p:=zM (Kd.S_drew p.out)
 replace l:=zM (Kd.R_drew l.out)
 replace r:=zM (Kd.S_drew r.out)
 replace s:=zM (Kd.R_drew s.out)
 replace u:=zM (Kd.S_drew u.out)
 replace y:=zM (Kd.R_drew y.out)
 replace A:=zM (Kd.S_drew A.out)
 replace I:=zM (Kd.R_drew I.out)
 replace a:=zM (blk_drew a.out)
 replace b:=zM (blk_drew b.out)
 replace m:=zM (blk_drew m.out)
 replace q:=zM (blk_drew q.out)
 replace HB:=zM (below_drew1 HB.out)
 refine start_ (n:=5) (S:=fun w'=>w'.cell? ⟨ac,0,none⟩=some (.int .i64 ae)∧w'.cell? ⟨ac,1,none⟩=some (.slice bc af.length bd)∧w'.cell? ⟨an,0,none⟩=some (.int .i64 a2_0)∧w'.cell? ⟨an,1,none⟩=some (.slice A2_1 l2_1.length c2_1)) (ds:=[]) #[false,false,false,false,false] (by kernel_rfl) rfl rfl ⟨(blk_cell q.out 0).trans rfl,(blk_cell q.out 1).trans rfl,(blk_cell b.out 0).trans rfl,(blk_cell b.out 1).trans rfl⟩ (fun hHeld=>?_)
 generalize co.drew=w112 at j d p l r s u y A I a b m q HB hHeld ⊢
 refine take_ (i:=0) (N:=some 71) (v:=?_) (a':=?_) #[true,false,false,false,false] rfl rfl (by kernel_rfl) (fun _ _ _ h=>h) (Or.inl ⟨by rfl,?_⟩) hHeld ?_ ?_
 rotate_left
 ·(
 rintro w' ⟨s0,s1,s2,s3⟩
 go_simp
 with_reducible rfl)
 rotate_left
 ·(
 simp only[zP,i64_w,i32_w]
 rfl)
 refine take_ (i:=1) (N:=some 72) (v:=?_) (a':=?_) #[true,true,false,false,false] rfl rfl (by kernel_rfl) (fun _ _ _ h=>h) (Or.inl ⟨by rfl,?_⟩) hHeld ?_ ?_
 rotate_left
 ·(
 rintro w' ⟨s0,s1,s2,s3⟩
 go_simp
 with_reducible rfl)
 rotate_left
 ·(
 simp only[zP,i64_w,i32_w]
 rfl)
 refine one_ (i:=2) (N:=some 73) #[true,true,true,false,false] rfl rfl (by kernel_rfl) (by decide) (fun K hK=>?_)
 refine goes_ Try.func11 (by kernel_rfl) rfl #[.agg #[.int .i64 a2_0,.slice A2_1 l2_1.length c2_1]] (by rfl) rfl rfl (by(try simp only[List.map_toArray,List.map_cons,List.map_nil]);first|done|rfl|(simp only[List.length_drop,List.length_take];rfl)) ?_
 with_reducible refine(laws_toHeap.calls k a2_0 _ _ l2_1 a8 a9 _ ?side1 ?side2 bW.out).mono ?_
 (case side1=>exact sD (zC aA.out HB.out))
 (case side2=>exact aB.out)
 rintro e eC ⟨eD,rfl,c,hb⟩
 refine⟨_,rfl,?_⟩
 have au:=zM (Kd.S_lower (Kd.S_new' (Kd.S_new' (Kd.S_new' (Kd.S_new' (Kd.S_new' (Kd.S_new' (Kd.S_new' (Kd.S_new' (Kd.S_new' (Kd.S_new' c (Kd.S_lt (sI j.out))) (Kd.R_lt (sE d.out))) (Kd.S_lt (sI p.out))) (Kd.R_lt (sE l.out))) (Kd.S_lt (sI r.out))) (Kd.R_lt (sE s.out))) (Kd.S_lt (sI u.out))) (Kd.R_lt (sE y.out))) (Kd.S_lt (sI A.out))) (Kd.R_lt (sE I.out))) (below_size zzR))
 replace j:=zM (Kd.S_elder' (sI j.out) (Kd.S_base c) hb)
 replace d:=zM (Kd.R_below (sE d.out) hb)
 replace p:=zM (Kd.S_elder' (sI p.out) (Kd.S_base c) hb)
 replace l:=zM (Kd.R_below (sE l.out) hb)
 replace r:=zM (Kd.S_elder' (sI r.out) (Kd.S_base c) hb)
 replace s:=zM (Kd.R_below (sE s.out) hb)
 replace u:=zM (Kd.S_elder' (sI u.out) (Kd.S_base c) hb)
 replace y:=zM (Kd.R_below (sE y.out) hb)
 replace A:=zM (Kd.S_elder' (sI A.out) (Kd.S_base c) hb)
 replace I:=zM (Kd.R_below (sE I.out) hb)
 replace a:=sK a hb
 replace b:=sK b hb
 replace m:=sK m hb
 replace q:=sK q hb
 replace HB:=sB HB hb
 (try clear hb)
 (try clear hb2)
 (try clear hk)
 (try clear hi)
 (try clear c)
 obtain⟨cp,cq,bG⟩:=Kd.S_slice au.out
 (first|subst bG|(injection bG with P ai Q;have aj:=P.symm;have ak:=Q.symm;clear P ai Q;subst aj;subst ak))
 refine hK.out _ _ ⟨(blk_cell q.out 0).trans rfl,(blk_cell q.out 1).trans rfl,(blk_cell b.out 0).trans rfl,(blk_cell b.out 1).trans rfl⟩ (fun hHeld=>?_)
 clear hK K
 refine norm_ (a':=?_) ?_ ?_
 rotate_left
 ·(
 show Act.put _ (some 73) _=_
 simp only[zP,i64_w,i32_w]
 rfl)
 refine one_ (i:=3) (N:=some 74) #[true,true,true,true,false] rfl rfl (by kernel_rfl) (by decide) (fun K hK=>?_)
 refine goes_ Try.func15 (by kernel_rfl) rfl #[.agg #[.int .i64 ae,.slice bc af.length bd],.agg #[.int .i64 a8,.slice cp a9.length cq]] (by rfl) rfl rfl (by(try simp only[List.map_toArray,List.map_cons,List.map_nil]);first|done|rfl|(simp only[List.length_drop,List.length_take];rfl)) ?_
 with_reducible refine(laws_eqHeap.calls k ae _ _ af a8 _ _ a9 true _ ?side1 ?side2 ?side3 ?side4 bX.out).mono ?_
 (case side1=>exact sD ((Kd.S_reads' u.out).2.2))
 (case side2=>exact(Kd.S_reads' u.out).2.1)
 (case side3=>exact sD ((Kd.S_reads' au.out).2.2))
 (case side4=>exact(Kd.S_reads' au.out).2.1)
 rintro e eE ⟨rfl,hb⟩
 refine⟨_,rfl,?_⟩
 replace j:=zM (Kd.S_below (sI j.out) hb)
 replace d:=zM (Kd.R_below (sE d.out) hb)
 replace p:=zM (Kd.S_below (sI p.out) hb)
 replace l:=zM (Kd.R_below (sE l.out) hb)
 replace r:=zM (Kd.S_below (sI r.out) hb)
 replace s:=zM (Kd.R_below (sE s.out) hb)
 replace u:=zM (Kd.S_below (sI u.out) hb)
 replace y:=zM (Kd.R_below (sE y.out) hb)
 replace A:=zM (Kd.S_below (sI A.out) hb)
 replace I:=zM (Kd.R_below (sE I.out) hb)
 replace au:=zM (Kd.S_below (sI au.out) hb)
 replace a:=sK a hb
 replace b:=sK b hb
 replace m:=sK m hb
 replace q:=sK q hb
 replace HB:=sB HB hb
 (try clear hb)
 (try clear hb2)
 (try clear hk)
 (try clear hi)
 refine hK.out _ _ ⟨(blk_cell q.out 0).trans rfl,(blk_cell q.out 1).trans rfl,(blk_cell b.out 0).trans rfl,(blk_cell b.out 1).trans rfl⟩ (fun hHeld=>?_)
 clear hK K
 refine norm_ (a':=?_) ?_ ?_
 rotate_left
 ·(
 show Act.put _ (some 74) _=_
 simp only[zP,i64_w,i32_w]
 rfl)
 refine pure_ (i:=4) (N:=some 75) (v:=?_) (a':=?_) #[true,true,true,true,true] rfl rfl (by kernel_rfl) (fun _ _ _ h=>h) (Or.inl ⟨by rfl,?_⟩) ?_ ?_
 rotate_left
 ·(
 intro w'
 go_simp
 with_reducible rfl)
 rotate_left
 ·(
 simp only[zP,i64_w,i32_w]
 rfl)
 refine done_ (by kernel_rfl) ?_
 try go_wp2_with (first|((with_reducible refine gate_callee (f:=12) rfl ?_);refine sC (some 78) Try.func12 #[.slice A3 l3.length c3] (laws_toValueS.calls k _ _ l3 O _ ?side1 ?side2 bY.out) ?_;(case side1=>exact sD (zC aG.out HB.out));(case side2=>exact aH.out);rintro e eF ⟨eG,rfl,c,hb⟩;refine⟨_,rfl,?_⟩;replace j:=zM (Kd.S_elder' (sI j.out) (Kd.R_base c) hb);replace p:=zM (Kd.S_elder' (sI p.out) (Kd.R_base c) hb);replace r:=zM (Kd.S_elder' (sI r.out) (Kd.R_base c) hb);replace u:=zM (Kd.S_elder' (sI u.out) (Kd.R_base c) hb);replace A:=zM (Kd.S_elder' (sI A.out) (Kd.R_base c) hb);replace au:=zM (Kd.S_elder' (sI au.out) (Kd.R_base c) hb);have aY:=zM (Kd.R_lower (Kd.R_new' (Kd.R_new' (Kd.R_new' (Kd.R_new' (Kd.R_new' c (Kd.R_lt (sE d.out))) (Kd.R_lt (sE l.out))) (Kd.R_lt (sE s.out))) (Kd.R_lt (sE y.out))) (Kd.R_lt (sE I.out))) (below_size zzR));replace d:=zM (Kd.R_elder' (sE d.out) (Kd.R_base c) hb);replace l:=zM (Kd.R_elder' (sE l.out) (Kd.R_base c) hb);replace s:=zM (Kd.R_elder' (sE s.out) (Kd.R_base c) hb);replace y:=zM (Kd.R_elder' (sE y.out) (Kd.R_base c) hb);replace I:=zM (Kd.R_elder' (sE I.out) (Kd.R_base c) hb);replace a:=sK a hb;replace b:=sK b hb;replace m:=sK m hb;replace q:=sK q hb;replace HB:=sB HB hb;(try clear hb);(try clear c);obtain⟨cr,ct,cu⟩:=Kd.R_slice aY.out;subst cu)|((with_reducible refine gate_callee (f:=16) rfl ?_);refine sC (some 79) Try.func16 #[.slice bD z.length bE,.slice cr O.length ct] (laws_eqValueS.calls k _ _ z _ _ O true _ ?side1 ?side2 ?side3 ?side4 bZ.out) ?_;(case side1=>exact sD ((Kd.R_reads' y.out).2.2));(case side2=>exact(Kd.R_reads' y.out).2.1);(case side3=>exact sD ((Kd.R_reads' aY.out).2.2));(case side4=>exact(Kd.R_reads' aY.out).2.1);rintro e eH ⟨rfl,hb⟩;refine⟨_,rfl,?_⟩;replace j:=zM (Kd.S_below (sI j.out) hb);replace d:=zM (Kd.R_below (sE d.out) hb);replace p:=zM (Kd.S_below (sI p.out) hb);replace l:=zM (Kd.R_below (sE l.out) hb);replace r:=zM (Kd.S_below (sI r.out) hb);replace s:=zM (Kd.R_below (sE s.out) hb);replace u:=zM (Kd.S_below (sI u.out) hb);replace y:=zM (Kd.R_below (sE y.out) hb);replace A:=zM (Kd.S_below (sI A.out) hb);replace I:=zM (Kd.R_below (sE I.out) hb);replace au:=zM (Kd.S_below (sI au.out) hb);replace aY:=zM (Kd.R_below (sE aY.out) hb);replace a:=sK a hb;replace b:=sK b hb;replace m:=sK m hb;replace q:=sK q hb;replace HB:=sB HB hb;(try clear hb)))
 go_ret
 exact⟨sq,sb⟩)
 replace bb:=zB bb
 subst bb
 rewrite[if_neg zQ]at H
 exact absurd H (by simp))
 replace ba:=zB ba
 subst ba
 rewrite[if_neg zQ]at H
 exact absurd H (by simp))
 replace a7:=zB a7
 subst a7
 rewrite[if_neg zQ]at H
 exact absurd H (by simp))
 replace a6:=zB a6
 subst a6
 rewrite[if_neg zQ]at H
 exact absurd H (by simp)
end Go.Proofs.Ytpdljgieaaicpaa.PFnExactLiveSize
