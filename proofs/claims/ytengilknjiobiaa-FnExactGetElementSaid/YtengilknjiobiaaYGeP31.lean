/- Printed functions: laws_FnExactGetElement. -/
import Derived.Test.YtengilknjiobiaaYGeP0
import Derived.Test.YtengilknjiobiaaYGeP1
import Derived.Test.YtengilknjiobiaaYGeP2
import Derived.Test.YtengilknjiobiaaYGeP3
import Derived.Test.YtengilknjiobiaaYGeP15
import Derived.Test.YtengilknjiobiaaYGeP27
import Derived.Test.YtengilknjiobiaaYGeP28
import Derived.Test.YtengilknjiobiaaYGeP30
namespace Go.Proofs.Ytengilknjiobiaa.PFnExactGetElement
open Go.RowKit Go.Proofs.YtengilknjiobiaaG Go.Proofs.YtengilknjiobiaaW.PrintWords Go.Proofs.YtengilknjiobiaaW.PrintLast Go.Proofs.YtengilknjiobiaaW.PrintMore
attribute [local go_sem] max2_int min2_int max_two min_two max_three min_three max_four min_four
set_option linter.unusedVariables false
set_option linter.unusedSimpArgs false
def laws_FnExactGetElement.j0 : Nat → Bool → Int → List (S51) → Int → List (S56) → Option (Bool)
 |0,_,_,_,_,_=>none
 |k+1,x66,x428000,x428001,x457000,x457001=>if x66=true then(some false)else((laws_toHeap.f k x428000 x428001).bind fun bt473=>((laws_eqHeap.f k x457000 x457001 bt473.1 bt473.2).bind fun t477=>(if t477=true then(some true)else(some false))))
def laws_FnExactGetElement.f (k:Nat) (a0_0:Int) (l0_1:List (S51)) (a1_0:Int) (a1_1:Int) (a1_2:ByteArray) (a1_3:Int) (a2_0:Int) (a2_1:Int) (a2_2:ByteArray) (a2_3:Int):Option (Bool):=(laws_szHeap.f k a0_0 l0_1 1048576).bind fun t430=>(if t430<0 then(some true)else((laws_szValue.f a1_0 a1_1 a1_2 a1_3 t430).bind fun t431=>(if t431<0 then(some true)else((laws_szValue.f a2_0 a2_1 a2_2 a2_3 t431).bind fun t432=>(if t432<0 then(some true)else((laws_toHeap.f k a0_0 l0_1).bind fun bt433=>((laws_toValue.f a1_0 a1_1 a1_2 a1_3).bind fun bt437=>((laws_toValue.f a2_0 a2_1 a2_2 a2_3).bind fun bt441=>((spec_GetElement.f k bt433.1 bt433.2 bt437.1 bt437.2.1 bt437.2.2.1 bt437.2.2.2 bt441.1 bt441.2.1 bt441.2.2.1 bt441.2.2.2).bind fun bt445=>((laws_toHeap.f k a0_0 l0_1).bind fun bt452=>((laws_toValue.f a1_0 a1_1 a1_2 a1_3).bind fun bt457=>((laws_toValue.f a2_0 a2_1 a2_2 a2_3).bind fun bt461=>((impl_GetElement.f k bt452.1 bt452.2 bt457.1 bt457.2.1 bt457.2.2.1 bt457.2.2.2 bt461.1 bt461.2.1 bt461.2.2.1 bt461.2.2.2).bind fun bt465=>((laws_eqValue.f bt465.1 bt465.2.1 bt465.2.2.1 bt465.2.2.2.1 bt445.1 bt445.2.1 bt445.2.2.1 bt445.2.2.2.1).bind fun t472=>(if t472=true then(if(bt465.2.2.2.2.1 !=bt445.2.2.2.2.1)=true then(laws_FnExactGetElement.j0 k true a0_0 l0_1 bt452.1 bt452.2)else(laws_FnExactGetElement.j0 k (bt465.2.2.2.2.2 !=bt445.2.2.2.2.2) a0_0 l0_1 bt452.1 bt452.2))else(laws_FnExactGetElement.j0 k true a0_0 l0_1 bt452.1 bt452.2))))))))))))))))
def laws_FnExactGetElement.T11:Bool×List (List Nat×List Nat):=(true,[([],[]),([0],[0]),([],[]),([2,1],[2]),([],[]),([4,3],[4]),([1,3,5,5],[1,3,5]),([6],[6]),([7],[7]),([7],[7]),([7],[7]),([],[]),([11,8,6,0,1,2,3,4,5,6,7,8,11],[8,11]),([9,12,0,1,2,3,4,5,6,7,8,9,11,12],[9]),([10,13,0,1,2,3,4,5,6,7,8,9,10,11,12,13],[10])])
def laws_FnExactGetElement.B11:List Nat:=[0,1,0,7,0,31,63,127,255,255,255,0,2559,7167,16383]
theorem laws_FnExactGetElement.tab11:rtab .any (opsOf Try.f4 11)=laws_FnExactGetElement.T11:=by kernel_rfl
theorem laws_FnExactGetElement.bits11:waitsOk laws_FnExactGetElement.T11.2 laws_FnExactGetElement.B11=true:=by kernel_rfl
def laws_FnExactGetElement.T13:Bool×List (List Nat×List Nat):=(true,[([],[]),([],[]),([1],[1]),([],[]),([3,2],[3]),([0,2,4,4],[0,2,4]),([5],[5]),([6],[6]),([6],[6]),([6],[6]),([],[]),([10,7,5,0,1,2,3,4,5,6,7,10],[7,10]),([8,11,0,1,2,3,4,5,6,7,8,10,11],[8]),([9,12,0,1,2,3,4,5,6,7,8,9,10,11,12],[9])])
def laws_FnExactGetElement.B13:List Nat:=[0,0,2,0,14,31,63,127,127,127,0,1279,3583,8191]
theorem laws_FnExactGetElement.tab13:rtab .any (opsOf Try.f4 13)=laws_FnExactGetElement.T13:=by kernel_rfl
theorem laws_FnExactGetElement.bits13:waitsOk laws_FnExactGetElement.T13.2 laws_FnExactGetElement.B13=true:=by kernel_rfl
set_option maxHeartbeats 8000000 in
set_option maxRecDepth 100000 in
theorem laws_FnExactGetElement.calls (k:Nat) (a0_0:Int) (A0_1:Option Addr) (c0_1:Nat) (l0_1:List (S51)) (a1_0:Int) (a1_1:Int) (a1_2:ByteArray) (a1_3:Int) (a2_0:Int) (a2_1:Int) (a2_2:ByteArray) (a2_3:Int) (w:World) (hr0_1:Kd.C k51 w A0_1 l0_1.length l0_1) (hc0_1:l0_1.length≤c0_1) (h:laws_FnExactGetElement.f k a0_0 l0_1 a1_0 a1_1 a1_2 a1_3 a2_0 a2_1 a2_2 a2_3=some true):
  Calls Try.prog 4 #[.agg #[.int .i64 a0_0,.slice A0_1 l0_1.length c0_1],.agg #[.int .i64 a1_0,.int .i64 a1_1,.string a1_2,.int .i64 a1_3],.agg #[.int .i64 a2_0,.int .i64 a2_1,.string a2_2,.int .i64 a2_3]] w fun e w'=>e= .returned (.bool true)∧Below w.heap.size w w':=by
 have da:=Try.underlying24
 have db:=Try.underlying26
 have dc:=Try.underlying29
 have dd:=Try.underlying34
 have bz:=zM hr0_1
 have bA:=zM hc0_1
 clear hr0_1 hc0_1
 have HB:=zM (Below.refl w.heap.size w)
 have H:((laws_szHeap.f k a0_0 l0_1 1048576).bind fun a5=>(if a5<0 then(some true)else((laws_szValue.f a1_0 a1_1 a1_2 a1_3 a5).bind fun bo=>(if bo<0 then(some true)else((laws_szValue.f a2_0 a2_1 a2_2 a2_3 bo).bind fun bQ=>(if bQ<0 then(some true)else((laws_toHeap.f k a0_0 l0_1).bind fun cj=>((laws_toValue.f a1_0 a1_1 a1_2 a1_3).bind fun bv=>((laws_toValue.f a2_0 a2_1 a2_2 a2_3).bind fun a6=>((spec_GetElement.f k cj.1 cj.2 bv.1 bv.2.1 bv.2.2.1 bv.2.2.2 a6.1 a6.2.1 a6.2.2.1 a6.2.2.2).bind fun am=>((laws_toHeap.f k a0_0 l0_1).bind fun I=>((laws_toValue.f a1_0 a1_1 a1_2 a1_3).bind fun af=>((laws_toValue.f a2_0 a2_1 a2_2 a2_3).bind fun P=>((impl_GetElement.f k I.1 I.2 af.1 af.2.1 af.2.2.1 af.2.2.2 P.1 P.2.1 P.2.2.1 P.2.2.2).bind fun E=>((laws_eqValue.f E.1 E.2.1 E.2.2.1 E.2.2.2.1 am.1 am.2.1 am.2.2.1 am.2.2.2.1).bind fun aE=>(if aE=true then(if(E.2.2.2.2.1 !=am.2.2.2.2.1)=true then(laws_FnExactGetElement.j0 k true a0_0 l0_1 I.1 I.2)else(laws_FnExactGetElement.j0 k (E.2.2.2.2.2 !=am.2.2.2.2.2) a0_0 l0_1 I.1 I.2))else(laws_FnExactGetElement.j0 k true a0_0 l0_1 I.1 I.2)))))))))))))))))=some true:=h
 clear h
 obtain⟨a5,A4,H⟩:=sO H
 by_cases c5:a5<0
 ·(
 rw[if_pos c5]at H
 have c5b0:=zT c5
 clear c5
 clear H
 go_enter Try.func4,Try.ntmps4
 go_wp2_with (first|((with_reducible refine gate_dst (N:=3) rfl ?_);refine sV (N:=3) (cs:= #[.int .i64 a0_0,.slice A0_1 l0_1.length c0_1]) (t:=24) ?_;intro x hg w6 hbox hb;have c:=zM (hbox);have b4:=sG HB hg;have aq:=sG HB hg;replace HB:=sB HB hb;clear hb hbox hg)|((with_reducible refine gate_dst (N:=4) rfl ?_);refine sV (N:=4) (cs:= #[.int .i64 a1_0,.int .i64 a1_1,.string a1_2,.int .i64 a1_3]) (t:=26) ?_;intro d hg w7 hbox hb;have a:=zM (hbox);have b5:=sG HB hg;have ar:=sG HB hg;replace HB:=sB HB hb;have bF:=sN c hg;have bG:=sM c hg;replace c:=sK c hb;clear hb hbox hg)|((with_reducible refine gate_dst (N:=5) rfl ?_);refine sV (N:=5) (cs:= #[.int .i64 a2_0,.int .i64 a2_1,.string a2_2,.int .i64 a2_3]) (t:=26) ?_;intro l hg w8 hbox hb;have b:=zM (hbox);have b6:=sG HB hg;have au:=sG HB hg;replace HB:=sB HB hb;have bH:=sN c hg;have bI:=sM c hg;replace c:=sK c hb;have bK:=sN a hg;have bL:=sM a hg;replace a:=sK a hb;clear hb hbox hg;have de:=bF.out;have df:=bG.out;have dg:=bH.out;have dh:=bI.out;obtain⟨di,dj,dk,dl⟩:=cells2 c.out)|((with_reducible refine gate_callee (f:=9) rfl ?_);refine sC (some 17) Try.func9 #[.agg #[.int .i64 a0_0,.slice A0_1 l0_1.length c0_1],.int .i64 1048576] (laws_szHeap.calls k a0_0 _ _ l0_1 1048576 a5 _ ?side1 ?side2 A4.out) ?_;(case side1=>exact sD (zC bz.out HB.out));(case side2=>exact bA.out);rintro e dm ⟨rfl,hb⟩;refine⟨_,rfl,?_⟩;replace c:=sK c hb;replace a:=sK a hb;replace b:=sK b hb;replace HB:=sB HB hb;(try clear hb)))
 go_ret
 exact⟨sq,sb⟩)
 rw[if_neg c5]at H
 have c5b0:=zF c5
 clear c5
 obtain⟨bo,b7,H⟩:=sO H
 by_cases bM:bo<0
 ·(
 rw[if_pos bM]at H
 have c14b0:=zT bM
 clear bM
 clear H
 go_enter Try.func4,Try.ntmps4
 go_wp2_with (first|((with_reducible refine gate_dst (N:=3) rfl ?_);refine sV (N:=3) (cs:= #[.int .i64 a0_0,.slice A0_1 l0_1.length c0_1]) (t:=24) ?_;intro x hg dn hbox hb;have c:=zM (hbox);have b4:=sG HB hg;have aq:=sG HB hg;replace HB:=sB HB hb;clear hb hbox hg)|((with_reducible refine gate_dst (N:=4) rfl ?_);refine sV (N:=4) (cs:= #[.int .i64 a1_0,.int .i64 a1_1,.string a1_2,.int .i64 a1_3]) (t:=26) ?_;intro d hg dp hbox hb;have a:=zM (hbox);have b5:=sG HB hg;have ar:=sG HB hg;replace HB:=sB HB hb;have bF:=sN c hg;have bG:=sM c hg;replace c:=sK c hb;clear hb hbox hg)|((with_reducible refine gate_dst (N:=5) rfl ?_);refine sV (N:=5) (cs:= #[.int .i64 a2_0,.int .i64 a2_1,.string a2_2,.int .i64 a2_3]) (t:=26) ?_;intro l hg dq hbox hb;have b:=zM (hbox);have b6:=sG HB hg;have au:=sG HB hg;replace HB:=sB HB hb;have bH:=sN c hg;have bI:=sM c hg;replace c:=sK c hb;have bK:=sN a hg;have bL:=sM a hg;replace a:=sK a hb;clear hb hbox hg;have dr:=bF.out;have dt:=bG.out;have du:=bH.out;have dv:=bI.out;obtain⟨dw,dx,dy,dz⟩:=cells2 c.out)|((with_reducible refine gate_callee (f:=9) rfl ?_);refine sC (some 17) Try.func9 #[.agg #[.int .i64 a0_0,.slice A0_1 l0_1.length c0_1],.int .i64 1048576] (laws_szHeap.calls k a0_0 _ _ l0_1 1048576 a5 _ ?side1 ?side2 A4.out) ?_;(case side1=>exact sD (zC bz.out HB.out));(case side2=>exact bA.out);rintro e dA ⟨rfl,hb⟩;refine⟨_,rfl,?_⟩;replace c:=sK c hb;replace a:=sK a hb;replace b:=sK b hb;replace HB:=sB HB hb;(try clear hb);have dB:=bK.out;have dC:=bL.out;obtain⟨dD,dE,dF,dG,dH,dI,dJ,dK⟩:=cells4 a.out)|((with_reducible refine gate_callee (f:=10) rfl ?_);refine sC (some 22) Try.func10 #[.agg #[.int .i64 a1_0,.int .i64 a1_1,.string a1_2,.int .i64 a1_3],.int .i64 a5] (laws_szValue.calls a1_0 a1_1 a1_2 a1_3 a5 bo _ b7.out) ?_;rintro e dL ⟨rfl,hb⟩;refine⟨_,rfl,?_⟩;replace c:=sK c hb;replace a:=sK a hb;replace b:=sK b hb;replace HB:=sB HB hb;(try clear hb)))
 go_ret
 exact⟨sq,sb⟩)
 rw[if_neg bM]at H
 have c14b0:=zF bM
 clear bM
 obtain⟨bQ,ck,H⟩:=sO H
 by_cases bO:bQ<0
 ·(
 rw[if_pos bO]at H
 have c26b0:=zT bO
 clear bO
 clear H
 go_enter Try.func4,Try.ntmps4
 go_wp2_with (first|((with_reducible refine gate_dst (N:=3) rfl ?_);refine sV (N:=3) (cs:= #[.int .i64 a0_0,.slice A0_1 l0_1.length c0_1]) (t:=24) ?_;intro x hg dM hbox hb;have c:=zM (hbox);have b4:=sG HB hg;have aq:=sG HB hg;replace HB:=sB HB hb;clear hb hbox hg)|((with_reducible refine gate_dst (N:=4) rfl ?_);refine sV (N:=4) (cs:= #[.int .i64 a1_0,.int .i64 a1_1,.string a1_2,.int .i64 a1_3]) (t:=26) ?_;intro d hg dN hbox hb;have a:=zM (hbox);have b5:=sG HB hg;have ar:=sG HB hg;replace HB:=sB HB hb;have bF:=sN c hg;have bG:=sM c hg;replace c:=sK c hb;clear hb hbox hg)|((with_reducible refine gate_dst (N:=5) rfl ?_);refine sV (N:=5) (cs:= #[.int .i64 a2_0,.int .i64 a2_1,.string a2_2,.int .i64 a2_3]) (t:=26) ?_;intro l hg dO hbox hb;have b:=zM (hbox);have b6:=sG HB hg;have au:=sG HB hg;replace HB:=sB HB hb;have bH:=sN c hg;have bI:=sM c hg;replace c:=sK c hb;have bK:=sN a hg;have bL:=sM a hg;replace a:=sK a hb;clear hb hbox hg;have dP:=bF.out;have dQ:=bG.out;have dR:=bH.out;have dS:=bI.out;obtain⟨dT,dU,dV,dW⟩:=cells2 c.out)|((with_reducible refine gate_callee (f:=9) rfl ?_);refine sC (some 17) Try.func9 #[.agg #[.int .i64 a0_0,.slice A0_1 l0_1.length c0_1],.int .i64 1048576] (laws_szHeap.calls k a0_0 _ _ l0_1 1048576 a5 _ ?side1 ?side2 A4.out) ?_;(case side1=>exact sD (zC bz.out HB.out));(case side2=>exact bA.out);rintro e dX ⟨rfl,hb⟩;refine⟨_,rfl,?_⟩;replace c:=sK c hb;replace a:=sK a hb;replace b:=sK b hb;replace HB:=sB HB hb;(try clear hb);have dY:=bK.out;have dZ:=bL.out;obtain⟨d0,d1,d2,d3,d4,d5,d6,d7⟩:=cells4 a.out)|((with_reducible refine gate_callee (f:=10) rfl ?_);refine sC (some 22) Try.func10 #[.agg #[.int .i64 a1_0,.int .i64 a1_1,.string a1_2,.int .i64 a1_3],.int .i64 a5] (laws_szValue.calls a1_0 a1_1 a1_2 a1_3 a5 bo _ b7.out) ?_;rintro e d8 ⟨rfl,hb⟩;refine⟨_,rfl,?_⟩;replace c:=sK c hb;replace a:=sK a hb;replace b:=sK b hb;replace HB:=sB HB hb;(try clear hb);obtain⟨d9,ea,eb,ec,ed,ee,ef,eg⟩:=cells4 b.out)|((with_reducible refine gate_callee (f:=10) rfl ?_);refine sC (some 27) Try.func10 #[.agg #[.int .i64 a2_0,.int .i64 a2_1,.string a2_2,.int .i64 a2_3],.int .i64 bo] (laws_szValue.calls a2_0 a2_1 a2_2 a2_3 bo bQ _ ck.out) ?_;rintro e eh ⟨rfl,hb⟩;refine⟨_,rfl,?_⟩;replace c:=sK c hb;replace a:=sK a hb;replace b:=sK b hb;replace HB:=sB HB hb;(try clear hb)))
 go_ret
 exact⟨sq,sb⟩)
 rw[if_neg bO]at H
 have c26b0:=zF bO
 clear bO
 replace H:=Option.bind_eq_some_iff.mp H
 obtain⟨⟨aI,X⟩,cl,H⟩:=H
 replace H:((laws_toValue.f a1_0 a1_1 a1_2 a1_3).bind fun bv=>((laws_toValue.f a2_0 a2_1 a2_2 a2_3).bind fun a6=>((spec_GetElement.f k aI X bv.1 bv.2.1 bv.2.2.1 bv.2.2.2 a6.1 a6.2.1 a6.2.2.1 a6.2.2.2).bind fun am=>((laws_toHeap.f k a0_0 l0_1).bind fun I=>((laws_toValue.f a1_0 a1_1 a1_2 a1_3).bind fun af=>((laws_toValue.f a2_0 a2_1 a2_2 a2_3).bind fun P=>((impl_GetElement.f k I.1 I.2 af.1 af.2.1 af.2.2.1 af.2.2.2 P.1 P.2.1 P.2.2.1 P.2.2.2).bind fun E=>((laws_eqValue.f E.1 E.2.1 E.2.2.1 E.2.2.2.1 am.1 am.2.1 am.2.2.1 am.2.2.2.1).bind fun aE=>(if aE=true then(if(E.2.2.2.2.1 !=am.2.2.2.2.1)=true then(laws_FnExactGetElement.j0 k true a0_0 l0_1 I.1 I.2)else(laws_FnExactGetElement.j0 k (E.2.2.2.2.2 !=am.2.2.2.2.2) a0_0 l0_1 I.1 I.2))else(laws_FnExactGetElement.j0 k true a0_0 l0_1 I.1 I.2))))))))))=some true:=H
 have cm:=zM cl
 clear cl
 replace H:=Option.bind_eq_some_iff.mp H
 obtain⟨⟨a7,a8,a9,ba⟩,cn,H⟩:=H
 replace H:((laws_toValue.f a2_0 a2_1 a2_2 a2_3).bind fun a6=>((spec_GetElement.f k aI X a7 a8 a9 ba a6.1 a6.2.1 a6.2.2.1 a6.2.2.2).bind fun am=>((laws_toHeap.f k a0_0 l0_1).bind fun I=>((laws_toValue.f a1_0 a1_1 a1_2 a1_3).bind fun af=>((laws_toValue.f a2_0 a2_1 a2_2 a2_3).bind fun P=>((impl_GetElement.f k I.1 I.2 af.1 af.2.1 af.2.2.1 af.2.2.2 P.1 P.2.1 P.2.2.1 P.2.2.2).bind fun E=>((laws_eqValue.f E.1 E.2.1 E.2.2.1 E.2.2.2.1 am.1 am.2.1 am.2.2.1 am.2.2.2.1).bind fun aE=>(if aE=true then(if(E.2.2.2.2.1 !=am.2.2.2.2.1)=true then(laws_FnExactGetElement.j0 k true a0_0 l0_1 I.1 I.2)else(laws_FnExactGetElement.j0 k (E.2.2.2.2.2 !=am.2.2.2.2.2) a0_0 l0_1 I.1 I.2))else(laws_FnExactGetElement.j0 k true a0_0 l0_1 I.1 I.2)))))))))=some true:=H
 have co:=zM cn
 clear cn
 replace H:=Option.bind_eq_some_iff.mp H
 obtain⟨⟨bp,bq,br,bs⟩,cp,H⟩:=H
 replace H:((spec_GetElement.f k aI X a7 a8 a9 ba bp bq br bs).bind fun am=>((laws_toHeap.f k a0_0 l0_1).bind fun I=>((laws_toValue.f a1_0 a1_1 a1_2 a1_3).bind fun af=>((laws_toValue.f a2_0 a2_1 a2_2 a2_3).bind fun P=>((impl_GetElement.f k I.1 I.2 af.1 af.2.1 af.2.2.1 af.2.2.2 P.1 P.2.1 P.2.2.1 P.2.2.2).bind fun E=>((laws_eqValue.f E.1 E.2.1 E.2.2.1 E.2.2.2.1 am.1 am.2.1 am.2.2.1 am.2.2.2.1).bind fun aE=>(if aE=true then(if(E.2.2.2.2.1 !=am.2.2.2.2.1)=true then(laws_FnExactGetElement.j0 k true a0_0 l0_1 I.1 I.2)else(laws_FnExactGetElement.j0 k (E.2.2.2.2.2 !=am.2.2.2.2.2) a0_0 l0_1 I.1 I.2))else(laws_FnExactGetElement.j0 k true a0_0 l0_1 I.1 I.2))))))))=some true:=H
 have cq:=zM cp
 clear cp
 replace H:=Option.bind_eq_some_iff.mp H
 obtain⟨⟨Y,Z,aa,ab,aD,bb⟩,cr,H⟩:=H
 replace H:((laws_toHeap.f k a0_0 l0_1).bind fun I=>((laws_toValue.f a1_0 a1_1 a1_2 a1_3).bind fun af=>((laws_toValue.f a2_0 a2_1 a2_2 a2_3).bind fun P=>((impl_GetElement.f k I.1 I.2 af.1 af.2.1 af.2.2.1 af.2.2.2 P.1 P.2.1 P.2.2.1 P.2.2.2).bind fun E=>((laws_eqValue.f E.1 E.2.1 E.2.2.1 E.2.2.2.1 Y Z aa ab).bind fun aE=>(if aE=true then(if(E.2.2.2.2.1 !=aD)=true then(laws_FnExactGetElement.j0 k true a0_0 l0_1 I.1 I.2)else(laws_FnExactGetElement.j0 k (E.2.2.2.2.2 !=bb) a0_0 l0_1 I.1 I.2))else(laws_FnExactGetElement.j0 k true a0_0 l0_1 I.1 I.2)))))))=some true:=H
 have ct:=zM cr
 clear cr
 replace H:=Option.bind_eq_some_iff.mp H
 obtain⟨⟨G,z⟩,cu,H⟩:=H
 replace H:((laws_toValue.f a1_0 a1_1 a1_2 a1_3).bind fun af=>((laws_toValue.f a2_0 a2_1 a2_2 a2_3).bind fun P=>((impl_GetElement.f k G z af.1 af.2.1 af.2.2.1 af.2.2.2 P.1 P.2.1 P.2.2.1 P.2.2.2).bind fun E=>((laws_eqValue.f E.1 E.2.1 E.2.2.1 E.2.2.2.1 Y Z aa ab).bind fun aE=>(if aE=true then(if(E.2.2.2.2.1 !=aD)=true then(laws_FnExactGetElement.j0 k true a0_0 l0_1 G z)else(laws_FnExactGetElement.j0 k (E.2.2.2.2.2 !=bb) a0_0 l0_1 G z))else(laws_FnExactGetElement.j0 k true a0_0 l0_1 G z))))))=some true:=H
 have cR:=zM cu
 clear cu
 replace H:=Option.bind_eq_some_iff.mp H
 obtain⟨⟨bd,be,bf,bg⟩,cv,H⟩:=H
 replace H:((laws_toValue.f a2_0 a2_1 a2_2 a2_3).bind fun P=>((impl_GetElement.f k G z bd be bf bg P.1 P.2.1 P.2.2.1 P.2.2.2).bind fun E=>((laws_eqValue.f E.1 E.2.1 E.2.2.1 E.2.2.2.1 Y Z aa ab).bind fun aE=>(if aE=true then(if(E.2.2.2.2.1 !=aD)=true then(laws_FnExactGetElement.j0 k true a0_0 l0_1 G z)else(laws_FnExactGetElement.j0 k (E.2.2.2.2.2 !=bb) a0_0 l0_1 G z))else(laws_FnExactGetElement.j0 k true a0_0 l0_1 G z)))))=some true:=H
 have cw:=zM cv
 clear cv
 replace H:=Option.bind_eq_some_iff.mp H
 obtain⟨⟨bh,bi,bj,bk⟩,cx,H⟩:=H
 replace H:((impl_GetElement.f k G z bd be bf bg bh bi bj bk).bind fun E=>((laws_eqValue.f E.1 E.2.1 E.2.2.1 E.2.2.2.1 Y Z aa ab).bind fun aE=>(if aE=true then(if(E.2.2.2.2.1 !=aD)=true then(laws_FnExactGetElement.j0 k true a0_0 l0_1 G z)else(laws_FnExactGetElement.j0 k (E.2.2.2.2.2 !=bb) a0_0 l0_1 G z))else(laws_FnExactGetElement.j0 k true a0_0 l0_1 G z))))=some true:=H
 have b8:=zM cx
 clear cx
 replace H:=Option.bind_eq_some_iff.mp H
 obtain⟨⟨av,aw,ax,ay,aR,bw⟩,cy,H⟩:=H
 replace H:((laws_eqValue.f av aw ax ay Y Z aa ab).bind fun aE=>(if aE=true then(if(aR !=aD)=true then(laws_FnExactGetElement.j0 k true a0_0 l0_1 G z)else(laws_FnExactGetElement.j0 k (bw !=bb) a0_0 l0_1 G z))else(laws_FnExactGetElement.j0 k true a0_0 l0_1 G z)))=some true:=H
 have bW:=zM cy
 clear cy
 have b9:=zM H
 clear H
 go_enter Try.func4,Try.ntmps4
 try go_wp2_with (first|((with_reducible refine gate_dst (N:=3) rfl ?_);refine sV (N:=3) (cs:= #[.int .i64 a0_0,.slice A0_1 l0_1.length c0_1]) (t:=24) ?_;intro x hg ei hbox hb;have c:=zM (hbox);have b4:=sG HB hg;have aq:=sG HB hg;replace HB:=sB HB hb;clear hb hbox hg)|((with_reducible refine gate_dst (N:=4) rfl ?_);refine sV (N:=4) (cs:= #[.int .i64 a1_0,.int .i64 a1_1,.string a1_2,.int .i64 a1_3]) (t:=26) ?_;intro d hg ej hbox hb;have a:=zM (hbox);have b5:=sG HB hg;have ar:=sG HB hg;replace HB:=sB HB hb;have bF:=sN c hg;have bG:=sM c hg;replace c:=sK c hb;clear hb hbox hg)|((with_reducible refine gate_dst (N:=5) rfl ?_);refine sV (N:=5) (cs:= #[.int .i64 a2_0,.int .i64 a2_1,.string a2_2,.int .i64 a2_3]) (t:=26) ?_;intro l hg ek hbox hb;have b:=zM (hbox);have b6:=sG HB hg;have au:=sG HB hg;replace HB:=sB HB hb;have bH:=sN c hg;have bI:=sM c hg;replace c:=sK c hb;have bK:=sN a hg;have bL:=sM a hg;replace a:=sK a hb;clear hb hbox hg;have el:=bF.out;have em:=bG.out;have en:=bH.out;have eo:=bI.out;obtain⟨ep,er,es,et⟩:=cells2 c.out)|((with_reducible refine gate_callee (f:=9) rfl ?_);refine sC (some 17) Try.func9 #[.agg #[.int .i64 a0_0,.slice A0_1 l0_1.length c0_1],.int .i64 1048576] (laws_szHeap.calls k a0_0 _ _ l0_1 1048576 a5 _ ?side1 ?side2 A4.out) ?_;(case side1=>exact sD (zC bz.out HB.out));(case side2=>exact bA.out);rintro e eu ⟨rfl,hb⟩;refine⟨_,rfl,?_⟩;replace c:=sK c hb;replace a:=sK a hb;replace b:=sK b hb;replace HB:=sB HB hb;(try clear hb);have ev:=bK.out;have ew:=bL.out;obtain⟨ex,ey,ez,eA,eB,eC,eD,eE⟩:=cells4 a.out)|((with_reducible refine gate_callee (f:=10) rfl ?_);refine sC (some 22) Try.func10 #[.agg #[.int .i64 a1_0,.int .i64 a1_1,.string a1_2,.int .i64 a1_3],.int .i64 a5] (laws_szValue.calls a1_0 a1_1 a1_2 a1_3 a5 bo _ b7.out) ?_;rintro e eF ⟨rfl,hb⟩;refine⟨_,rfl,?_⟩;replace c:=sK c hb;replace a:=sK a hb;replace b:=sK b hb;replace HB:=sB HB hb;(try clear hb);obtain⟨eG,eH,eI,eJ,eK,eL,eM,eN⟩:=cells4 b.out)|((with_reducible refine gate_callee (f:=10) rfl ?_);refine sC (some 27) Try.func10 #[.agg #[.int .i64 a2_0,.int .i64 a2_1,.string a2_2,.int .i64 a2_3],.int .i64 bo] (laws_szValue.calls a2_0 a2_1 a2_2 a2_3 bo bQ _ ck.out) ?_;rintro e cS ⟨rfl,hb⟩;refine⟨_,rfl,?_⟩;replace c:=sK c hb;replace a:=sK a hb;replace b:=sK b hb;replace HB:=sB HB hb;(try clear hb)))
 replace c:=zM (blk_drew c.out)
 replace a:=zM (blk_drew a.out)
 replace b:=zM (blk_drew b.out)
 replace HB:=zM (below_drew1 HB.out)
 refine start_ (n:=15) (S:=fun w'=>w'.cell? ⟨x,0,none⟩=some (.int .i64 a0_0)∧w'.cell? ⟨x,1,none⟩=some (.slice A0_1 l0_1.length c0_1)∧w'.cell? ⟨d,0,none⟩=some (.int .i64 a1_0)∧w'.cell? ⟨d,1,none⟩=some (.int .i64 a1_1)∧w'.cell? ⟨d,2,none⟩=some (.string a1_2)∧w'.cell? ⟨d,3,none⟩=some (.int .i64 a1_3)∧w'.cell? ⟨l,0,none⟩=some (.int .i64 a2_0)∧w'.cell? ⟨l,1,none⟩=some (.int .i64 a2_1)∧w'.cell? ⟨l,2,none⟩=some (.string a2_2)∧w'.cell? ⟨l,3,none⟩=some (.int .i64 a2_3)) (ds:=[]) #[false,false,false,false,false,false,false,false,false,false,false,false,false,false,false] (by kernel_rfl) rfl rfl ⟨(blk_cell c.out 0).trans rfl,(blk_cell c.out 1).trans rfl,(blk_cell a.out 0).trans rfl,(blk_cell a.out 1).trans rfl,(blk_cell a.out 2).trans rfl,(blk_cell a.out 3).trans rfl,(blk_cell b.out 0).trans rfl,(blk_cell b.out 1).trans rfl,(blk_cell b.out 2).trans rfl,(blk_cell b.out 3).trans rfl⟩ (fun hHeld=>?_);refine with_tabW laws_FnExactGetElement.tab11 laws_FnExactGetElement.bits11 (fun B bJ=>?_)
 generalize cS.drew=w60 at c a b HB hHeld ⊢
 refine take_ (i:=0) (N:=some 31) (v:=?_) (a':=?_) (bN 15 1) rfl rfl (take_ofW B.out bJ.out (by kernel_rfl)) (fun _ _ _ h=>h) (Or.inl ⟨by rfl,?_⟩) hHeld ?_ ?_
 rotate_left
 ·(
 rintro w' ⟨s0,s1,s2,s3,s4,s5,s6,s7,s8,s9⟩
 go_simp
 with_reducible rfl)
 rotate_left
 ·(
 simp only[zP,i64_w,i32_w]
 rfl)
 refine take_ (i:=2) (N:=some 33) (v:=?_) (a':=?_) (bN 15 5) rfl rfl (take_ofW B.out bJ.out (by kernel_rfl)) (fun _ _ _ h=>h) (Or.inl ⟨by rfl,?_⟩) hHeld ?_ ?_
 rotate_left
 ·(
 rintro w' ⟨s0,s1,s2,s3,s4,s5,s6,s7,s8,s9⟩
 go_simp
 with_reducible rfl)
 rotate_left
 ·(
 simp only[zP,i64_w,i32_w]
 rfl)
 refine take_ (i:=4) (N:=some 35) (v:=?_) (a':=?_) (bN 15 21) rfl rfl (take_ofW B.out bJ.out (by kernel_rfl)) (fun _ _ _ h=>h) (Or.inl ⟨by rfl,?_⟩) hHeld ?_ ?_
 rotate_left
 ·(
 rintro w' ⟨s0,s1,s2,s3,s4,s5,s6,s7,s8,s9⟩
 go_simp
 with_reducible rfl)
 rotate_left
 ·(
 simp only[zP,i64_w,i32_w]
 rfl)
 refine join_ (σ:=Value×Nat) 3 (bN 15 4095) (fun r=>[(32,.agg #[.int .i64 aI,r.1]),(34,.agg #[.int .i64 a7,.int .i64 a8,.string a9,.int .i64 ba]),(36,.agg #[.int .i64 bp,.int .i64 bq,.string br,.int .i64 bs]),(37,.tuple #[.agg #[.int .i64 Y,.int .i64 Z,.string aa,.int .i64 ab],.bool aD,.int .i64 bb]),(8,.pointer (some ⟨r.2,0,none⟩)),(30,.tuple #[.agg #[.int .i64 Y,.int .i64 Z,.string aa,.int .i64 ab],.bool aD,.int .i64 bb]),(38,.agg #[.int .i64 Y,.int .i64 Z,.string aa,.int .i64 ab]),(39,.bool aD),(40,.int .i64 bb)]) (fun r w'=>(w'.cell? ⟨x,0,none⟩=some (.int .i64 a0_0)∧w'.cell? ⟨x,1,none⟩=some (.slice A0_1 l0_1.length c0_1)∧w'.cell? ⟨d,0,none⟩=some (.int .i64 a1_0)∧w'.cell? ⟨d,1,none⟩=some (.int .i64 a1_1)∧w'.cell? ⟨d,2,none⟩=some (.string a1_2)∧w'.cell? ⟨d,3,none⟩=some (.int .i64 a1_3)∧w'.cell? ⟨l,0,none⟩=some (.int .i64 a2_0)∧w'.cell? ⟨l,1,none⟩=some (.int .i64 a2_1)∧w'.cell? ⟨l,2,none⟩=some (.string a2_2)∧w'.cell? ⟨l,3,none⟩=some (.int .i64 a2_3))∧(Kd.S k56 56 w' w.heap.size (fun D=>D≠r.2) r.1 X)∧(w'.heap[x]?=some (.cells #[.int .i64 a0_0,.slice A0_1 l0_1.length c0_1] 24 (0,0)))∧(w'.heap[d]?=some (.cells #[.int .i64 a1_0,.int .i64 a1_1,.string a1_2,.int .i64 a1_3] 26 (0,0)))∧(w'.heap[l]?=some (.cells #[.int .i64 a2_0,.int .i64 a2_1,.string a2_2,.int .i64 a2_3] 26 (0,0)))∧(w'.heap[r.2]?=some (.cells #[.int .i64 0,.int .i64 0,.string (⟨#[]⟩:ByteArray),.int .i64 0] 29 (0,0)))∧(w.heap.size≤r.2)∧(w.heap.size≤r.2)∧(x≠r.2)∧(r.2≠x)∧(d≠r.2)∧(r.2≠d)∧(l≠r.2)∧(r.2≠l)∧(Below w.heap.size w w')) ?_ ?_
 rotate_left
 ·(
 intro cz
 refine join_ (σ:=Value) 4 (bN 15 2047) (fun r=>[(32,.agg #[.int .i64 aI,r]),(34,.agg #[.int .i64 a7,.int .i64 a8,.string a9,.int .i64 ba]),(36,.agg #[.int .i64 bp,.int .i64 bq,.string br,.int .i64 bs]),(37,.tuple #[.agg #[.int .i64 Y,.int .i64 Z,.string aa,.int .i64 ab],.bool aD,.int .i64 bb]),(30,.tuple #[.agg #[.int .i64 Y,.int .i64 Z,.string aa,.int .i64 ab],.bool aD,.int .i64 bb]),(38,.agg #[.int .i64 Y,.int .i64 Z,.string aa,.int .i64 ab]),(39,.bool aD),(40,.int .i64 bb)]) (fun r w'=>(w'.cell? ⟨x,0,none⟩=some (.int .i64 a0_0)∧w'.cell? ⟨x,1,none⟩=some (.slice A0_1 l0_1.length c0_1)∧w'.cell? ⟨d,0,none⟩=some (.int .i64 a1_0)∧w'.cell? ⟨d,1,none⟩=some (.int .i64 a1_1)∧w'.cell? ⟨d,2,none⟩=some (.string a1_2)∧w'.cell? ⟨d,3,none⟩=some (.int .i64 a1_3)∧w'.cell? ⟨l,0,none⟩=some (.int .i64 a2_0)∧w'.cell? ⟨l,1,none⟩=some (.int .i64 a2_1)∧w'.cell? ⟨l,2,none⟩=some (.string a2_2)∧w'.cell? ⟨l,3,none⟩=some (.int .i64 a2_3))∧(Kd.S k56 56 w' w.heap.size (fun _=>True) r X)∧(w'.heap[x]?=some (.cells #[.int .i64 a0_0,.slice A0_1 l0_1.length c0_1] 24 (0,0)))∧(w'.heap[d]?=some (.cells #[.int .i64 a1_0,.int .i64 a1_1,.string a1_2,.int .i64 a1_3] 26 (0,0)))∧(w'.heap[l]?=some (.cells #[.int .i64 a2_0,.int .i64 a2_1,.string a2_2,.int .i64 a2_3] 26 (0,0)))∧(Below w.heap.size w w')) ?_ ?_
 rotate_left
 ·(
 intro cT
 refine join_ (σ:=Value×Nat) 8 (bN 15 2111) (fun r=>[(32,.agg #[.int .i64 aI,r.1]),(34,.agg #[.int .i64 a7,.int .i64 a8,.string a9,.int .i64 ba]),(36,.agg #[.int .i64 bp,.int .i64 bq,.string br,.int .i64 bs]),(8,.pointer (some ⟨r.2,0,none⟩))]) (fun r w'=>(w'.cell? ⟨x,0,none⟩=some (.int .i64 a0_0)∧w'.cell? ⟨x,1,none⟩=some (.slice A0_1 l0_1.length c0_1)∧w'.cell? ⟨d,0,none⟩=some (.int .i64 a1_0)∧w'.cell? ⟨d,1,none⟩=some (.int .i64 a1_1)∧w'.cell? ⟨d,2,none⟩=some (.string a1_2)∧w'.cell? ⟨d,3,none⟩=some (.int .i64 a1_3)∧w'.cell? ⟨l,0,none⟩=some (.int .i64 a2_0)∧w'.cell? ⟨l,1,none⟩=some (.int .i64 a2_1)∧w'.cell? ⟨l,2,none⟩=some (.string a2_2)∧w'.cell? ⟨l,3,none⟩=some (.int .i64 a2_3))∧(Kd.S k56 56 w' w.heap.size (fun D=>D≠r.2) r.1 X)∧(w'.heap[x]?=some (.cells #[.int .i64 a0_0,.slice A0_1 l0_1.length c0_1] 24 (0,0)))∧(w'.heap[d]?=some (.cells #[.int .i64 a1_0,.int .i64 a1_1,.string a1_2,.int .i64 a1_3] 26 (0,0)))∧(w'.heap[l]?=some (.cells #[.int .i64 a2_0,.int .i64 a2_1,.string a2_2,.int .i64 a2_3] 26 (0,0)))∧(w'.heap[r.2]?=some (.cells #[.int .i64 0,.int .i64 0,.string (⟨#[]⟩:ByteArray),.int .i64 0] 29 (0,0)))∧(w.heap.size≤r.2)∧(w.heap.size≤r.2)∧(x≠r.2)∧(r.2≠x)∧(d≠r.2)∧(r.2≠d)∧(l≠r.2)∧(r.2≠l)∧(Below w.heap.size w w')) ?_ ?_
 rotate_left
 ·(
 intro cA
 refine join_ (σ:=Value) 9 (bN 15 63) (fun r=>[(32,.agg #[.int .i64 aI,r]),(34,.agg #[.int .i64 a7,.int .i64 a8,.string a9,.int .i64 ba]),(36,.agg #[.int .i64 bp,.int .i64 bq,.string br,.int .i64 bs])]) (fun r w'=>(w'.cell? ⟨x,0,none⟩=some (.int .i64 a0_0)∧w'.cell? ⟨x,1,none⟩=some (.slice A0_1 l0_1.length c0_1)∧w'.cell? ⟨d,0,none⟩=some (.int .i64 a1_0)∧w'.cell? ⟨d,1,none⟩=some (.int .i64 a1_1)∧w'.cell? ⟨d,2,none⟩=some (.string a1_2)∧w'.cell? ⟨d,3,none⟩=some (.int .i64 a1_3)∧w'.cell? ⟨l,0,none⟩=some (.int .i64 a2_0)∧w'.cell? ⟨l,1,none⟩=some (.int .i64 a2_1)∧w'.cell? ⟨l,2,none⟩=some (.string a2_2)∧w'.cell? ⟨l,3,none⟩=some (.int .i64 a2_3))∧(Kd.S k56 56 w' w.heap.size (fun _=>True) r X)∧(w'.heap[x]?=some (.cells #[.int .i64 a0_0,.slice A0_1 l0_1.length c0_1] 24 (0,0)))∧(w'.heap[d]?=some (.cells #[.int .i64 a1_0,.int .i64 a1_1,.string a1_2,.int .i64 a1_3] 26 (0,0)))∧(w'.heap[l]?=some (.cells #[.int .i64 a2_0,.int .i64 a2_1,.string a2_2,.int .i64 a2_3] 26 (0,0)))∧(Below w.heap.size w w')) ?_ ?_
 rotate_left
 ·(
 intro cU
 refine join_ (σ:=Value×Nat) 9 (bN 15 2079) (fun r=>[(32,.agg #[.int .i64 aI,r.1]),(34,.agg #[.int .i64 a7,.int .i64 a8,.string a9,.int .i64 ba]),(8,.pointer (some ⟨r.2,0,none⟩))]) (fun r w'=>(w'.cell? ⟨x,0,none⟩=some (.int .i64 a0_0)∧w'.cell? ⟨x,1,none⟩=some (.slice A0_1 l0_1.length c0_1)∧w'.cell? ⟨d,0,none⟩=some (.int .i64 a1_0)∧w'.cell? ⟨d,1,none⟩=some (.int .i64 a1_1)∧w'.cell? ⟨d,2,none⟩=some (.string a1_2)∧w'.cell? ⟨d,3,none⟩=some (.int .i64 a1_3)∧w'.cell? ⟨l,0,none⟩=some (.int .i64 a2_0)∧w'.cell? ⟨l,1,none⟩=some (.int .i64 a2_1)∧w'.cell? ⟨l,2,none⟩=some (.string a2_2)∧w'.cell? ⟨l,3,none⟩=some (.int .i64 a2_3))∧(Kd.S k56 56 w' w.heap.size (fun D=>D≠r.2) r.1 X)∧(w'.heap[x]?=some (.cells #[.int .i64 a0_0,.slice A0_1 l0_1.length c0_1] 24 (0,0)))∧(w'.heap[d]?=some (.cells #[.int .i64 a1_0,.int .i64 a1_1,.string a1_2,.int .i64 a1_3] 26 (0,0)))∧(w'.heap[l]?=some (.cells #[.int .i64 a2_0,.int .i64 a2_1,.string a2_2,.int .i64 a2_3] 26 (0,0)))∧(w'.heap[r.2]?=some (.cells #[.int .i64 0,.int .i64 0,.string (⟨#[]⟩:ByteArray),.int .i64 0] 29 (0,0)))∧(w.heap.size≤r.2)∧(w.heap.size≤r.2)∧(x≠r.2)∧(r.2≠x)∧(d≠r.2)∧(r.2≠d)∧(l≠r.2)∧(r.2≠l)∧(Below w.heap.size w w')) ?_ ?_
 rotate_left
 ·(
 intro cB
 refine join_ (σ:=Value) 10 (bN 15 31) (fun r=>[(32,.agg #[.int .i64 aI,r]),(34,.agg #[.int .i64 a7,.int .i64 a8,.string a9,.int .i64 ba])]) (fun r w'=>(w'.cell? ⟨x,0,none⟩=some (.int .i64 a0_0)∧w'.cell? ⟨x,1,none⟩=some (.slice A0_1 l0_1.length c0_1)∧w'.cell? ⟨d,0,none⟩=some (.int .i64 a1_0)∧w'.cell? ⟨d,1,none⟩=some (.int .i64 a1_1)∧w'.cell? ⟨d,2,none⟩=some (.string a1_2)∧w'.cell? ⟨d,3,none⟩=some (.int .i64 a1_3)∧w'.cell? ⟨l,0,none⟩=some (.int .i64 a2_0)∧w'.cell? ⟨l,1,none⟩=some (.int .i64 a2_1)∧w'.cell? ⟨l,2,none⟩=some (.string a2_2)∧w'.cell? ⟨l,3,none⟩=some (.int .i64 a2_3))∧(Kd.S k56 56 w' w.heap.size (fun _=>True) r X)∧(w'.heap[x]?=some (.cells #[.int .i64 a0_0,.slice A0_1 l0_1.length c0_1] 24 (0,0)))∧(w'.heap[d]?=some (.cells #[.int .i64 a1_0,.int .i64 a1_1,.string a1_2,.int .i64 a1_3] 26 (0,0)))∧(w'.heap[l]?=some (.cells #[.int .i64 a2_0,.int .i64 a2_1,.string a2_2,.int .i64 a2_3] 26 (0,0)))∧(Below w.heap.size w w')) ?_ ?_
 rotate_left
 ·(
 intro cV
 refine join_ (σ:=Value×Nat) 10 (bN 15 2071) (fun r=>[(32,.agg #[.int .i64 aI,r.1]),(8,.pointer (some ⟨r.2,0,none⟩))]) (fun r w'=>(w'.cell? ⟨x,0,none⟩=some (.int .i64 a0_0)∧w'.cell? ⟨x,1,none⟩=some (.slice A0_1 l0_1.length c0_1)∧w'.cell? ⟨d,0,none⟩=some (.int .i64 a1_0)∧w'.cell? ⟨d,1,none⟩=some (.int .i64 a1_1)∧w'.cell? ⟨d,2,none⟩=some (.string a1_2)∧w'.cell? ⟨d,3,none⟩=some (.int .i64 a1_3)∧w'.cell? ⟨l,0,none⟩=some (.int .i64 a2_0)∧w'.cell? ⟨l,1,none⟩=some (.int .i64 a2_1)∧w'.cell? ⟨l,2,none⟩=some (.string a2_2)∧w'.cell? ⟨l,3,none⟩=some (.int .i64 a2_3))∧(Kd.S k56 56 w' w.heap.size (fun D=>D≠r.2) r.1 X)∧(w'.heap[x]?=some (.cells #[.int .i64 a0_0,.slice A0_1 l0_1.length c0_1] 24 (0,0)))∧(w'.heap[d]?=some (.cells #[.int .i64 a1_0,.int .i64 a1_1,.string a1_2,.int .i64 a1_3] 26 (0,0)))∧(w'.heap[l]?=some (.cells #[.int .i64 a2_0,.int .i64 a2_1,.string a2_2,.int .i64 a2_3] 26 (0,0)))∧(w'.heap[r.2]?=some (.cells #[.int .i64 0,.int .i64 0,.string (⟨#[]⟩:ByteArray),.int .i64 0] 29 (0,0)))∧(w.heap.size≤r.2)∧(w.heap.size≤r.2)∧(x≠r.2)∧(r.2≠x)∧(d≠r.2)∧(r.2≠d)∧(l≠r.2)∧(r.2≠l)∧(Below w.heap.size w w')) ?_ ?_
 rotate_left
 ·(
 intro cC
 refine join_ (σ:=Value) 11 (bN 15 23) (fun r=>[(32,.agg #[.int .i64 aI,r])]) (fun r w'=>(w'.cell? ⟨x,0,none⟩=some (.int .i64 a0_0)∧w'.cell? ⟨x,1,none⟩=some (.slice A0_1 l0_1.length c0_1)∧w'.cell? ⟨d,0,none⟩=some (.int .i64 a1_0)∧w'.cell? ⟨d,1,none⟩=some (.int .i64 a1_1)∧w'.cell? ⟨d,2,none⟩=some (.string a1_2)∧w'.cell? ⟨d,3,none⟩=some (.int .i64 a1_3)∧w'.cell? ⟨l,0,none⟩=some (.int .i64 a2_0)∧w'.cell? ⟨l,1,none⟩=some (.int .i64 a2_1)∧w'.cell? ⟨l,2,none⟩=some (.string a2_2)∧w'.cell? ⟨l,3,none⟩=some (.int .i64 a2_3))∧(Kd.S k56 56 w' w.heap.size (fun _=>True) r X)∧(w'.heap[x]?=some (.cells #[.int .i64 a0_0,.slice A0_1 l0_1.length c0_1] 24 (0,0)))∧(w'.heap[d]?=some (.cells #[.int .i64 a1_0,.int .i64 a1_1,.string a1_2,.int .i64 a1_3] 26 (0,0)))∧(w'.heap[l]?=some (.cells #[.int .i64 a2_0,.int .i64 a2_1,.string a2_2,.int .i64 a2_3] 26 (0,0)))∧(Below w.heap.size w w')) ?_ ?_
 rotate_left
 ·(
 intro cW
 refine join_ (σ:=Nat) 11 (bN 15 2069) (fun r=>[(8,.pointer (some ⟨r,0,none⟩))]) (fun r w'=>(w'.cell? ⟨x,0,none⟩=some (.int .i64 a0_0)∧w'.cell? ⟨x,1,none⟩=some (.slice A0_1 l0_1.length c0_1)∧w'.cell? ⟨d,0,none⟩=some (.int .i64 a1_0)∧w'.cell? ⟨d,1,none⟩=some (.int .i64 a1_1)∧w'.cell? ⟨d,2,none⟩=some (.string a1_2)∧w'.cell? ⟨d,3,none⟩=some (.int .i64 a1_3)∧w'.cell? ⟨l,0,none⟩=some (.int .i64 a2_0)∧w'.cell? ⟨l,1,none⟩=some (.int .i64 a2_1)∧w'.cell? ⟨l,2,none⟩=some (.string a2_2)∧w'.cell? ⟨l,3,none⟩=some (.int .i64 a2_3))∧(w'.heap[x]?=some (.cells #[.int .i64 a0_0,.slice A0_1 l0_1.length c0_1] 24 (0,0)))∧(w'.heap[d]?=some (.cells #[.int .i64 a1_0,.int .i64 a1_1,.string a1_2,.int .i64 a1_3] 26 (0,0)))∧(w'.heap[l]?=some (.cells #[.int .i64 a2_0,.int .i64 a2_1,.string a2_2,.int .i64 a2_3] 26 (0,0)))∧(w'.heap[r]?=some (.cells #[.int .i64 0,.int .i64 0,.string (⟨#[]⟩:ByteArray),.int .i64 0] 29 (0,0)))∧(w.heap.size≤r)∧(w.heap.size≤r)∧(x≠r)∧(r≠x)∧(d≠r)∧(r≠d)∧(l≠r)∧(r≠l)∧(Below w.heap.size w w')) ?_ ?_
 rotate_left
 ·(
 intro cX
 refine two_ (i:=1) (j:=11) (Ni:=some 32) (Nj:=some 8) (bN 15 23) (bN 15 2069) rfl rfl rfl rfl (two_of B.out (by kernel_rfl)) (by decide) (by decide) (fun K hK=>?_) (fun K hK=>?_)
 ·(
 skip
 refine goes_ Try.func12 (by kernel_rfl) rfl #[.agg #[.int .i64 a0_0,.slice A0_1 l0_1.length c0_1]] (by rfl) rfl rfl (by(try simp only[List.map_toArray,List.map_cons,List.map_nil]);first|done|rfl|(simp only[List.length_drop,List.length_take];rfl)) ?_
 with_reducible refine(laws_toHeap.calls k a0_0 _ _ l0_1 aI X _ ?side1 ?side2 cm.out).mono ?_
 (case side1=>exact sD (zC bz.out HB.out))
 (case side2=>exact bA.out)
 rintro e cY ⟨V,rfl,bl,hb⟩
 refine⟨_,rfl,?_⟩
 have u:=zM (Kd.S_lower bl (below_size (by repeat(first|(with_reducible first|exact HB.out|apply below_alloc|apply pw_below_drewN|apply below_drew1|refine below_set ?_ aq.out|refine below_set ?_ ar.out|refine below_set ?_ au.out)|exact HB.out))))
 replace c:=sK c hb
 replace a:=sK a hb
 replace b:=sK b hb
 replace HB:=sB HB hb
 (try clear hb)
 (try clear hb2)
 (try clear hk)
 (try clear hi)
 (try clear bl)
 refine hK.out _ _ ⟨(blk_cell c.out 0).trans rfl,(blk_cell c.out 1).trans rfl,(blk_cell a.out 0).trans rfl,(blk_cell a.out 1).trans rfl,(blk_cell a.out 2).trans rfl,(blk_cell a.out 3).trans rfl,(blk_cell b.out 0).trans rfl,(blk_cell b.out 1).trans rfl,(blk_cell b.out 2).trans rfl,(blk_cell b.out 3).trans rfl⟩ (fun hHeld=>?_)
 clear hK K
 refine norm_ (a':=?_) ?_ ?_
 rotate_left
 ·(
 show Act.put _ (some 32) _=_
 simp only[zP,i64_w,i32_w]
 rfl)
 exact norm_ (by first|(simp only[putAll,Act.put,List.setIfInBounds_toArray,List.set_cons_zero,List.set_cons_succ];done)|(simp only[putAll,Act.put,List.setIfInBounds_toArray,List.set_cons_zero,List.set_cons_succ];rfl)) (cW (V) _ ⟨hHeld,(sI u.out),(sT c.out),(sT a.out),(sT b.out),(by repeat(first|(with_reducible first|exact HB.out|apply below_alloc|apply pw_below_drewN|apply below_drew1|refine below_set ?_ aq.out|refine below_set ?_ ar.out|refine below_set ?_ au.out)|exact HB.out))⟩))
 ·(
 skip
 refine box_step ?hg (N:=8) ?hd (cs:= #[.int .i64 0,.int .i64 0,.string (⟨#[]⟩:ByteArray),.int .i64 0]) (t:=29) ?hr ?_;(case hd=>rfl);(case hg=>rfl);(case hr=>first|(go_simp;done)|(go_simp;rfl))
 intro m hg cY hbox hb
 have q:=zM (hbox)
 have aG:=sG HB hg
 have L:=sG HB hg
 replace HB:=sB HB hb
 have W:=sN c hg
 have ap:=sM c hg
 replace c:=sK c hb
 have T:=sN a hg
 have az:=sM a hg
 replace a:=sK a hb
 have U:=sN b hg
 have aA:=sM b hg
 replace b:=sK b hb
 clear hb hbox hg
 refine hK.out _ _ ⟨(blk_cell c.out 0).trans rfl,(blk_cell c.out 1).trans rfl,(blk_cell a.out 0).trans rfl,(blk_cell a.out 1).trans rfl,(blk_cell a.out 2).trans rfl,(blk_cell a.out 3).trans rfl,(blk_cell b.out 0).trans rfl,(blk_cell b.out 1).trans rfl,(blk_cell b.out 2).trans rfl,(blk_cell b.out 3).trans rfl⟩ (fun hHeld=>?_)
 clear hK K
 refine norm_ (a':=?_) ?_ ?_
 rotate_left
 ·(
 show Act.put _ (some 8) _=_
 simp only[zP,i64_w,i32_w]
 rfl)
 exact norm_ (by first|(simp only[putAll,Act.put,List.setIfInBounds_toArray,List.set_cons_zero,List.set_cons_succ];done)|(simp only[putAll,Act.put,List.setIfInBounds_toArray,List.set_cons_zero,List.set_cons_succ];rfl)) (cX (m) _ ⟨hHeld,(sT c.out),(sT a.out),(sT b.out),(sT q.out),aG.out,L.out,W.out,ap.out,T.out,az.out,U.out,aA.out,(by repeat(first|(with_reducible first|exact HB.out|apply below_alloc|apply pw_below_drewN|apply below_drew1|refine below_set ?_ aq.out|refine below_set ?_ ar.out|refine below_set ?_ au.out|refine below_set ?_ L.out)|exact HB.out))⟩)))
 ·(
 skip
 rintro m ac ⟨aF,ag,ah,ai,aj,ak,aJ,aK,aL,aM,aN,aO,aP,aQ⟩
 replace c:Aside0 (ac.heap[x]?=some (.cells #[.int .i64 a0_0,.slice A0_1 l0_1.length c0_1] 24 (0,0))):=⟨ag⟩
 replace a:Aside0 (ac.heap[d]?=some (.cells #[.int .i64 a1_0,.int .i64 a1_1,.string a1_2,.int .i64 a1_3] 26 (0,0))):=⟨ah⟩
 replace b:Aside0 (ac.heap[l]?=some (.cells #[.int .i64 a2_0,.int .i64 a2_1,.string a2_2,.int .i64 a2_3] 26 (0,0))):=⟨ai⟩
 have q:Aside0 (ac.heap[m]?=some (.cells #[.int .i64 0,.int .i64 0,.string (⟨#[]⟩:ByteArray),.int .i64 0] 29 (0,0))):=⟨aj⟩
 have aG:Aside0 (w.heap.size≤m):=⟨ak⟩
 have L:Aside0 (w.heap.size≤m):=⟨aJ⟩
 have W:Aside0 (x≠m):=⟨aK⟩
 have ap:Aside0 (m≠x):=⟨aL⟩
 have T:Aside0 (d≠m):=⟨aM⟩
 have az:Aside0 (m≠d):=⟨aN⟩
 have U:Aside0 (l≠m):=⟨aO⟩
 have aA:Aside0 (m≠l):=⟨aP⟩
 replace HB:Aside0 (Below w.heap.size w ac):=⟨aQ⟩
 clear ag ah ai aj ak aJ aK aL aM aN aO aP aQ
 have hHeld:ac.cell? ⟨x,0,none⟩=some (.int .i64 a0_0)∧ac.cell? ⟨x,1,none⟩=some (.slice A0_1 l0_1.length c0_1)∧ac.cell? ⟨d,0,none⟩=some (.int .i64 a1_0)∧ac.cell? ⟨d,1,none⟩=some (.int .i64 a1_1)∧ac.cell? ⟨d,2,none⟩=some (.string a1_2)∧ac.cell? ⟨d,3,none⟩=some (.int .i64 a1_3)∧ac.cell? ⟨l,0,none⟩=some (.int .i64 a2_0)∧ac.cell? ⟨l,1,none⟩=some (.int .i64 a2_1)∧ac.cell? ⟨l,2,none⟩=some (.string a2_2)∧ac.cell? ⟨l,3,none⟩=some (.int .i64 a2_3):=aF
 refine norm_ (a':=?_) ?_ ?_
 rotate_left
 ·(
 simp only[putAll,Act.put,List.setIfInBounds_toArray,List.set_cons_zero,List.set_cons_succ]
 rfl)
 refine one_ (i:=1) (N:=some 32) (bN 15 2071) rfl rfl (one_of B.out (by kernel_rfl)) (by decide) (fun K hK=>?_)
 refine goes_ Try.func12 (by kernel_rfl) rfl #[.agg #[.int .i64 a0_0,.slice A0_1 l0_1.length c0_1]] (by rfl) rfl rfl (by(try simp only[List.map_toArray,List.map_cons,List.map_nil]);first|done|rfl|(simp only[List.length_drop,List.length_take];rfl)) ?_
 with_reducible refine(laws_toHeap.calls k a0_0 _ _ l0_1 aI X _ ?side1 ?side2 cm.out).mono ?_
 (case side1=>exact sD (zC bz.out HB.out))
 (case side2=>exact bA.out)
 rintro e M ⟨V,rfl,bl,hb⟩
 refine⟨_,rfl,?_⟩
 have u:=zM (Kd.S_lower (Kd.S_newB bl (g:=m) (o:= .cells #[.int .i64 0,.int .i64 0,.string (⟨#[]⟩:ByteArray),.int .i64 0] 29 (0,0)) (sT q.out)) (below_size (by repeat(first|(with_reducible first|exact HB.out|apply below_alloc|apply pw_below_drewN|apply below_drew1|refine below_set ?_ aq.out|refine below_set ?_ ar.out|refine below_set ?_ au.out|refine below_set ?_ L.out)|exact HB.out))))
 replace c:=sK c hb
 replace a:=sK a hb
 replace b:=sK b hb
 replace q:=sK q hb
 replace HB:=sB HB hb
 (try clear hb)
 (try clear hb2)
 (try clear hk)
 (try clear hi)
 (try clear bl)
 refine hK.out _ _ ⟨(blk_cell c.out 0).trans rfl,(blk_cell c.out 1).trans rfl,(blk_cell a.out 0).trans rfl,(blk_cell a.out 1).trans rfl,(blk_cell a.out 2).trans rfl,(blk_cell a.out 3).trans rfl,(blk_cell b.out 0).trans rfl,(blk_cell b.out 1).trans rfl,(blk_cell b.out 2).trans rfl,(blk_cell b.out 3).trans rfl⟩ (fun hHeld=>?_)
 clear hK K
 refine norm_ (a':=?_) ?_ ?_
 rotate_left
 ·(
 show Act.put _ (some 32) _=_
 simp only[zP,i64_w,i32_w]
 rfl)
 exact norm_ (by first|(simp only[putAll,Act.put,List.setIfInBounds_toArray,List.set_cons_zero,List.set_cons_succ];done)|(simp only[putAll,Act.put,List.setIfInBounds_toArray,List.set_cons_zero,List.set_cons_succ];rfl)) (cC (V,m) _ ⟨hHeld,(by(with_reducible repeat(first|apply Kd.S_alloc|apply Kd.S_drewN|apply Kd.S_drew));exact Kd.S_mono u.out (fun _ hk=>hk.2)),(sT c.out),(sT a.out),(sT b.out),(sT q.out),aG.out,L.out,W.out,ap.out,T.out,az.out,U.out,aA.out,(by repeat(first|(with_reducible first|exact HB.out|apply below_alloc|apply pw_below_drewN|apply below_drew1|refine below_set ?_ aq.out|refine below_set ?_ ar.out|refine below_set ?_ au.out|refine below_set ?_ L.out)|exact HB.out))⟩)))
 ·(
 skip
 rintro V ac ⟨aF,ag,ah,ai,aj,ak⟩
 have u:Aside0 (Kd.S k56 56 ac w.heap.size (fun _=>True) V X):=⟨ag⟩
 replace c:Aside0 (ac.heap[x]?=some (.cells #[.int .i64 a0_0,.slice A0_1 l0_1.length c0_1] 24 (0,0))):=⟨ah⟩
 replace a:Aside0 (ac.heap[d]?=some (.cells #[.int .i64 a1_0,.int .i64 a1_1,.string a1_2,.int .i64 a1_3] 26 (0,0))):=⟨ai⟩
 replace b:Aside0 (ac.heap[l]?=some (.cells #[.int .i64 a2_0,.int .i64 a2_1,.string a2_2,.int .i64 a2_3] 26 (0,0))):=⟨aj⟩
 replace HB:Aside0 (Below w.heap.size w ac):=⟨ak⟩
 clear ag ah ai aj ak
 have hHeld:ac.cell? ⟨x,0,none⟩=some (.int .i64 a0_0)∧ac.cell? ⟨x,1,none⟩=some (.slice A0_1 l0_1.length c0_1)∧ac.cell? ⟨d,0,none⟩=some (.int .i64 a1_0)∧ac.cell? ⟨d,1,none⟩=some (.int .i64 a1_1)∧ac.cell? ⟨d,2,none⟩=some (.string a1_2)∧ac.cell? ⟨d,3,none⟩=some (.int .i64 a1_3)∧ac.cell? ⟨l,0,none⟩=some (.int .i64 a2_0)∧ac.cell? ⟨l,1,none⟩=some (.int .i64 a2_1)∧ac.cell? ⟨l,2,none⟩=some (.string a2_2)∧ac.cell? ⟨l,3,none⟩=some (.int .i64 a2_3):=aF
 refine norm_ (a':=?_) ?_ ?_
 rotate_left
 ·(
 simp only[putAll,Act.put,List.setIfInBounds_toArray,List.set_cons_zero,List.set_cons_succ]
 rfl)
 refine two_ (i:=3) (j:=11) (Ni:=some 34) (Nj:=some 8) (bN 15 31) (bN 15 2071) rfl rfl rfl rfl (two_of B.out (by kernel_rfl)) (by decide) (by decide) (fun K hK=>?_) (fun K hK=>?_)
 ·(
 skip
 refine goes_ Try.func13 (by kernel_rfl) rfl #[.agg #[.int .i64 a1_0,.int .i64 a1_1,.string a1_2,.int .i64 a1_3]] (by rfl) rfl rfl (by(try simp only[List.map_toArray,List.map_cons,List.map_nil]);first|done|rfl|(simp only[List.length_drop,List.length_take];rfl)) ?_
 with_reducible refine(laws_toValue.calls a1_0 a1_1 a1_2 a1_3 a7 a8 a9 ba _ co.out).mono ?_
 rintro e M ⟨rfl,hb⟩
 refine⟨_,rfl,?_⟩
 replace u:=zM (Kd.S_below (sI u.out) hb)
 replace c:=sK c hb
 replace a:=sK a hb
 replace b:=sK b hb
 replace HB:=sB HB hb
 (try clear hb)
 (try clear hb2)
 (try clear hk)
 (try clear hi)
 refine hK.out _ _ ⟨(blk_cell c.out 0).trans rfl,(blk_cell c.out 1).trans rfl,(blk_cell a.out 0).trans rfl,(blk_cell a.out 1).trans rfl,(blk_cell a.out 2).trans rfl,(blk_cell a.out 3).trans rfl,(blk_cell b.out 0).trans rfl,(blk_cell b.out 1).trans rfl,(blk_cell b.out 2).trans rfl,(blk_cell b.out 3).trans rfl⟩ (fun hHeld=>?_)
 clear hK K
 refine norm_ (a':=?_) ?_ ?_
 rotate_left
 ·(
 show Act.put _ (some 34) _=_
 simp only[zP,i64_w,i32_w]
 rfl)
 exact norm_ (by first|(simp only[putAll,Act.put,List.setIfInBounds_toArray,List.set_cons_zero,List.set_cons_succ];done)|(simp only[putAll,Act.put,List.setIfInBounds_toArray,List.set_cons_zero,List.set_cons_succ];rfl)) (cV (V) _ ⟨hHeld,(sI u.out),(sT c.out),(sT a.out),(sT b.out),(by repeat(first|(with_reducible first|exact HB.out|apply below_alloc|apply pw_below_drewN|apply below_drew1|refine below_set ?_ aq.out|refine below_set ?_ ar.out|refine below_set ?_ au.out)|exact HB.out))⟩))
 ·(
 skip
 refine box_step ?hg (N:=8) ?hd (cs:= #[.int .i64 0,.int .i64 0,.string (⟨#[]⟩:ByteArray),.int .i64 0]) (t:=29) ?hr ?_;(case hd=>rfl);(case hg=>rfl);(case hr=>first|(go_simp;done)|(go_simp;rfl))
 intro m hg M hbox hb
 replace u:=zM (Kd.S_below (Kd.S_elderB (sI u.out) m (Nat.le_of_eq hg.symm)) hb)
 have q:=zM (hbox)
 have aG:=sG HB hg
 have L:=sG HB hg
 replace HB:=sB HB hb
 have W:=sN c hg
 have ap:=sM c hg
 replace c:=sK c hb
 have T:=sN a hg
 have az:=sM a hg
 replace a:=sK a hb
 have U:=sN b hg
 have aA:=sM b hg
 replace b:=sK b hb
 clear hb hbox hg
 refine hK.out _ _ ⟨(blk_cell c.out 0).trans rfl,(blk_cell c.out 1).trans rfl,(blk_cell a.out 0).trans rfl,(blk_cell a.out 1).trans rfl,(blk_cell a.out 2).trans rfl,(blk_cell a.out 3).trans rfl,(blk_cell b.out 0).trans rfl,(blk_cell b.out 1).trans rfl,(blk_cell b.out 2).trans rfl,(blk_cell b.out 3).trans rfl⟩ (fun hHeld=>?_)
 clear hK K
 refine norm_ (a':=?_) ?_ ?_
 rotate_left
 ·(
 show Act.put _ (some 8) _=_
 simp only[zP,i64_w,i32_w]
 rfl)
 exact norm_ (by first|(simp only[putAll,Act.put,List.setIfInBounds_toArray,List.set_cons_zero,List.set_cons_succ];done)|(simp only[putAll,Act.put,List.setIfInBounds_toArray,List.set_cons_zero,List.set_cons_succ];rfl)) (cC (V,m) _ ⟨hHeld,(by(with_reducible repeat(first|apply Kd.S_alloc|apply Kd.S_drewN|apply Kd.S_drew));exact Kd.S_mono u.out (fun _ hk=>hk.2)),(sT c.out),(sT a.out),(sT b.out),(sT q.out),aG.out,L.out,W.out,ap.out,T.out,az.out,U.out,aA.out,(by repeat(first|(with_reducible first|exact HB.out|apply below_alloc|apply pw_below_drewN|apply below_drew1|refine below_set ?_ aq.out|refine below_set ?_ ar.out|refine below_set ?_ au.out|refine below_set ?_ L.out)|exact HB.out))⟩))))
 ·(
 skip
 rintro⟨V,m⟩ M ⟨aF,ag,ah,ai,aj,ak,aJ,aK,aL,aM,aN,aO,aP,aQ,bc⟩
 have u:Aside0 (Kd.S k56 56 M w.heap.size (fun D=>D≠m) V X):=⟨ag⟩
 replace c:Aside0 (M.heap[x]?=some (.cells #[.int .i64 a0_0,.slice A0_1 l0_1.length c0_1] 24 (0,0))):=⟨ah⟩
 replace a:Aside0 (M.heap[d]?=some (.cells #[.int .i64 a1_0,.int .i64 a1_1,.string a1_2,.int .i64 a1_3] 26 (0,0))):=⟨ai⟩
 replace b:Aside0 (M.heap[l]?=some (.cells #[.int .i64 a2_0,.int .i64 a2_1,.string a2_2,.int .i64 a2_3] 26 (0,0))):=⟨aj⟩
 have q:Aside0 (M.heap[m]?=some (.cells #[.int .i64 0,.int .i64 0,.string (⟨#[]⟩:ByteArray),.int .i64 0] 29 (0,0))):=⟨ak⟩
 have aG:Aside0 (w.heap.size≤m):=⟨aJ⟩
 have L:Aside0 (w.heap.size≤m):=⟨aK⟩
 have W:Aside0 (x≠m):=⟨aL⟩
 have ap:Aside0 (m≠x):=⟨aM⟩
 have T:Aside0 (d≠m):=⟨aN⟩
 have az:Aside0 (m≠d):=⟨aO⟩
 have U:Aside0 (l≠m):=⟨aP⟩
 have aA:Aside0 (m≠l):=⟨aQ⟩
 replace HB:Aside0 (Below w.heap.size w M):=⟨bc⟩
 clear ag ah ai aj ak aJ aK aL aM aN aO aP aQ bc
 have hHeld:M.cell? ⟨x,0,none⟩=some (.int .i64 a0_0)∧M.cell? ⟨x,1,none⟩=some (.slice A0_1 l0_1.length c0_1)∧M.cell? ⟨d,0,none⟩=some (.int .i64 a1_0)∧M.cell? ⟨d,1,none⟩=some (.int .i64 a1_1)∧M.cell? ⟨d,2,none⟩=some (.string a1_2)∧M.cell? ⟨d,3,none⟩=some (.int .i64 a1_3)∧M.cell? ⟨l,0,none⟩=some (.int .i64 a2_0)∧M.cell? ⟨l,1,none⟩=some (.int .i64 a2_1)∧M.cell? ⟨l,2,none⟩=some (.string a2_2)∧M.cell? ⟨l,3,none⟩=some (.int .i64 a2_3):=aF
 refine norm_ (a':=?_) ?_ ?_
 rotate_left
 ·(
 simp only[putAll,Act.put,List.setIfInBounds_toArray,List.set_cons_zero,List.set_cons_succ]
 rfl)
 refine one_ (i:=3) (N:=some 34) (bN 15 2079) rfl rfl (one_of B.out (by kernel_rfl)) (by decide) (fun K hK=>?_)
 refine goes_ Try.func13 (by kernel_rfl) rfl #[.agg #[.int .i64 a1_0,.int .i64 a1_1,.string a1_2,.int .i64 a1_3]] (by rfl) rfl rfl (by(try simp only[List.map_toArray,List.map_cons,List.map_nil]);first|done|rfl|(simp only[List.length_drop,List.length_take];rfl)) ?_
 with_reducible refine(laws_toValue.calls a1_0 a1_1 a1_2 a1_3 a7 a8 a9 ba _ co.out).mono ?_
 rintro e O ⟨rfl,hb⟩
 refine⟨_,rfl,?_⟩
 replace u:=zM (Kd.S_below (sI u.out) hb)
 replace c:=sK c hb
 replace a:=sK a hb
 replace b:=sK b hb
 replace q:=sK q hb
 replace HB:=sB HB hb
 (try clear hb)
 (try clear hb2)
 (try clear hk)
 (try clear hi)
 refine hK.out _ _ ⟨(blk_cell c.out 0).trans rfl,(blk_cell c.out 1).trans rfl,(blk_cell a.out 0).trans rfl,(blk_cell a.out 1).trans rfl,(blk_cell a.out 2).trans rfl,(blk_cell a.out 3).trans rfl,(blk_cell b.out 0).trans rfl,(blk_cell b.out 1).trans rfl,(blk_cell b.out 2).trans rfl,(blk_cell b.out 3).trans rfl⟩ (fun hHeld=>?_)
 clear hK K
 refine norm_ (a':=?_) ?_ ?_
 rotate_left
 ·(
 show Act.put _ (some 34) _=_
 simp only[zP,i64_w,i32_w]
 rfl)
 exact norm_ (by first|(simp only[putAll,Act.put,List.setIfInBounds_toArray,List.set_cons_zero,List.set_cons_succ];done)|(simp only[putAll,Act.put,List.setIfInBounds_toArray,List.set_cons_zero,List.set_cons_succ];rfl)) (cB (V,m) _ ⟨hHeld,(sI u.out),(sT c.out),(sT a.out),(sT b.out),(sT q.out),aG.out,L.out,W.out,ap.out,T.out,az.out,U.out,aA.out,(by repeat(first|(with_reducible first|exact HB.out|apply below_alloc|apply pw_below_drewN|apply below_drew1|refine below_set ?_ aq.out|refine below_set ?_ ar.out|refine below_set ?_ au.out|refine below_set ?_ L.out)|exact HB.out))⟩)))
 ·(
 skip
 rintro V M ⟨aF,ag,ah,ai,aj,ak⟩
 have u:Aside0 (Kd.S k56 56 M w.heap.size (fun _=>True) V X):=⟨ag⟩
 replace c:Aside0 (M.heap[x]?=some (.cells #[.int .i64 a0_0,.slice A0_1 l0_1.length c0_1] 24 (0,0))):=⟨ah⟩
 replace a:Aside0 (M.heap[d]?=some (.cells #[.int .i64 a1_0,.int .i64 a1_1,.string a1_2,.int .i64 a1_3] 26 (0,0))):=⟨ai⟩
 replace b:Aside0 (M.heap[l]?=some (.cells #[.int .i64 a2_0,.int .i64 a2_1,.string a2_2,.int .i64 a2_3] 26 (0,0))):=⟨aj⟩
 replace HB:Aside0 (Below w.heap.size w M):=⟨ak⟩
 clear ag ah ai aj ak
 have hHeld:M.cell? ⟨x,0,none⟩=some (.int .i64 a0_0)∧M.cell? ⟨x,1,none⟩=some (.slice A0_1 l0_1.length c0_1)∧M.cell? ⟨d,0,none⟩=some (.int .i64 a1_0)∧M.cell? ⟨d,1,none⟩=some (.int .i64 a1_1)∧M.cell? ⟨d,2,none⟩=some (.string a1_2)∧M.cell? ⟨d,3,none⟩=some (.int .i64 a1_3)∧M.cell? ⟨l,0,none⟩=some (.int .i64 a2_0)∧M.cell? ⟨l,1,none⟩=some (.int .i64 a2_1)∧M.cell? ⟨l,2,none⟩=some (.string a2_2)∧M.cell? ⟨l,3,none⟩=some (.int .i64 a2_3):=aF
 refine norm_ (a':=?_) ?_ ?_
 rotate_left
 ·(
 simp only[putAll,Act.put,List.setIfInBounds_toArray,List.set_cons_zero,List.set_cons_succ]
 rfl)
 refine two_ (i:=5) (j:=11) (Ni:=some 36) (Nj:=some 8) (bN 15 63) (bN 15 2079) rfl rfl rfl rfl (two_of B.out (by kernel_rfl)) (by decide) (by decide) (fun K hK=>?_) (fun K hK=>?_)
 ·(
 skip
 refine goes_ Try.func13 (by kernel_rfl) rfl #[.agg #[.int .i64 a2_0,.int .i64 a2_1,.string a2_2,.int .i64 a2_3]] (by rfl) rfl rfl (by(try simp only[List.map_toArray,List.map_cons,List.map_nil]);first|done|rfl|(simp only[List.length_drop,List.length_take];rfl)) ?_
 with_reducible refine(laws_toValue.calls a2_0 a2_1 a2_2 a2_3 bp bq br bs _ cq.out).mono ?_
 rintro e O ⟨rfl,hb⟩
 refine⟨_,rfl,?_⟩
 replace u:=zM (Kd.S_below (sI u.out) hb)
 replace c:=sK c hb
 replace a:=sK a hb
 replace b:=sK b hb
 replace HB:=sB HB hb
 (try clear hb)
 (try clear hb2)
 (try clear hk)
 (try clear hi)
 refine hK.out _ _ ⟨(blk_cell c.out 0).trans rfl,(blk_cell c.out 1).trans rfl,(blk_cell a.out 0).trans rfl,(blk_cell a.out 1).trans rfl,(blk_cell a.out 2).trans rfl,(blk_cell a.out 3).trans rfl,(blk_cell b.out 0).trans rfl,(blk_cell b.out 1).trans rfl,(blk_cell b.out 2).trans rfl,(blk_cell b.out 3).trans rfl⟩ (fun hHeld=>?_)
 clear hK K
 refine norm_ (a':=?_) ?_ ?_
 rotate_left
 ·(
 show Act.put _ (some 36) _=_
 simp only[zP,i64_w,i32_w]
 rfl)
 exact norm_ (by first|(simp only[putAll,Act.put,List.setIfInBounds_toArray,List.set_cons_zero,List.set_cons_succ];done)|(simp only[putAll,Act.put,List.setIfInBounds_toArray,List.set_cons_zero,List.set_cons_succ];rfl)) (cU (V) _ ⟨hHeld,(sI u.out),(sT c.out),(sT a.out),(sT b.out),(by repeat(first|(with_reducible first|exact HB.out|apply below_alloc|apply pw_below_drewN|apply below_drew1|refine below_set ?_ aq.out|refine below_set ?_ ar.out|refine below_set ?_ au.out)|exact HB.out))⟩))
 ·(
 skip
 refine box_step ?hg (N:=8) ?hd (cs:= #[.int .i64 0,.int .i64 0,.string (⟨#[]⟩:ByteArray),.int .i64 0]) (t:=29) ?hr ?_;(case hd=>rfl);(case hg=>rfl);(case hr=>first|(go_simp;done)|(go_simp;rfl))
 intro m hg O hbox hb
 replace u:=zM (Kd.S_below (Kd.S_elderB (sI u.out) m (Nat.le_of_eq hg.symm)) hb)
 have q:=zM (hbox)
 have aG:=sG HB hg
 have L:=sG HB hg
 replace HB:=sB HB hb
 have W:=sN c hg
 have ap:=sM c hg
 replace c:=sK c hb
 have T:=sN a hg
 have az:=sM a hg
 replace a:=sK a hb
 have U:=sN b hg
 have aA:=sM b hg
 replace b:=sK b hb
 clear hb hbox hg
 refine hK.out _ _ ⟨(blk_cell c.out 0).trans rfl,(blk_cell c.out 1).trans rfl,(blk_cell a.out 0).trans rfl,(blk_cell a.out 1).trans rfl,(blk_cell a.out 2).trans rfl,(blk_cell a.out 3).trans rfl,(blk_cell b.out 0).trans rfl,(blk_cell b.out 1).trans rfl,(blk_cell b.out 2).trans rfl,(blk_cell b.out 3).trans rfl⟩ (fun hHeld=>?_)
 clear hK K
 refine norm_ (a':=?_) ?_ ?_
 rotate_left
 ·(
 show Act.put _ (some 8) _=_
 simp only[zP,i64_w,i32_w]
 rfl)
 exact norm_ (by first|(simp only[putAll,Act.put,List.setIfInBounds_toArray,List.set_cons_zero,List.set_cons_succ];done)|(simp only[putAll,Act.put,List.setIfInBounds_toArray,List.set_cons_zero,List.set_cons_succ];rfl)) (cB (V,m) _ ⟨hHeld,(by(with_reducible repeat(first|apply Kd.S_alloc|apply Kd.S_drewN|apply Kd.S_drew));exact Kd.S_mono u.out (fun _ hk=>hk.2)),(sT c.out),(sT a.out),(sT b.out),(sT q.out),aG.out,L.out,W.out,ap.out,T.out,az.out,U.out,aA.out,(by repeat(first|(with_reducible first|exact HB.out|apply below_alloc|apply pw_below_drewN|apply below_drew1|refine below_set ?_ aq.out|refine below_set ?_ ar.out|refine below_set ?_ au.out|refine below_set ?_ L.out)|exact HB.out))⟩))))
 ·(
 skip
 rintro⟨V,m⟩ O ⟨aF,ag,ah,ai,aj,ak,aJ,aK,aL,aM,aN,aO,aP,aQ,bc⟩
 have u:Aside0 (Kd.S k56 56 O w.heap.size (fun D=>D≠m) V X):=⟨ag⟩
 replace c:Aside0 (O.heap[x]?=some (.cells #[.int .i64 a0_0,.slice A0_1 l0_1.length c0_1] 24 (0,0))):=⟨ah⟩
 replace a:Aside0 (O.heap[d]?=some (.cells #[.int .i64 a1_0,.int .i64 a1_1,.string a1_2,.int .i64 a1_3] 26 (0,0))):=⟨ai⟩
 replace b:Aside0 (O.heap[l]?=some (.cells #[.int .i64 a2_0,.int .i64 a2_1,.string a2_2,.int .i64 a2_3] 26 (0,0))):=⟨aj⟩
 have q:Aside0 (O.heap[m]?=some (.cells #[.int .i64 0,.int .i64 0,.string (⟨#[]⟩:ByteArray),.int .i64 0] 29 (0,0))):=⟨ak⟩
 have aG:Aside0 (w.heap.size≤m):=⟨aJ⟩
 have L:Aside0 (w.heap.size≤m):=⟨aK⟩
 have W:Aside0 (x≠m):=⟨aL⟩
 have ap:Aside0 (m≠x):=⟨aM⟩
 have T:Aside0 (d≠m):=⟨aN⟩
 have az:Aside0 (m≠d):=⟨aO⟩
 have U:Aside0 (l≠m):=⟨aP⟩
 have aA:Aside0 (m≠l):=⟨aQ⟩
 replace HB:Aside0 (Below w.heap.size w O):=⟨bc⟩
 clear ag ah ai aj ak aJ aK aL aM aN aO aP aQ bc
 have hHeld:O.cell? ⟨x,0,none⟩=some (.int .i64 a0_0)∧O.cell? ⟨x,1,none⟩=some (.slice A0_1 l0_1.length c0_1)∧O.cell? ⟨d,0,none⟩=some (.int .i64 a1_0)∧O.cell? ⟨d,1,none⟩=some (.int .i64 a1_1)∧O.cell? ⟨d,2,none⟩=some (.string a1_2)∧O.cell? ⟨d,3,none⟩=some (.int .i64 a1_3)∧O.cell? ⟨l,0,none⟩=some (.int .i64 a2_0)∧O.cell? ⟨l,1,none⟩=some (.int .i64 a2_1)∧O.cell? ⟨l,2,none⟩=some (.string a2_2)∧O.cell? ⟨l,3,none⟩=some (.int .i64 a2_3):=aF
 refine norm_ (a':=?_) ?_ ?_
 rotate_left
 ·(
 simp only[putAll,Act.put,List.setIfInBounds_toArray,List.set_cons_zero,List.set_cons_succ]
 rfl)
 refine one_ (i:=5) (N:=some 36) (bN 15 2111) rfl rfl (one_of B.out (by kernel_rfl)) (by decide) (fun K hK=>?_)
 refine goes_ Try.func13 (by kernel_rfl) rfl #[.agg #[.int .i64 a2_0,.int .i64 a2_1,.string a2_2,.int .i64 a2_3]] (by rfl) rfl rfl (by(try simp only[List.map_toArray,List.map_cons,List.map_nil]);first|done|rfl|(simp only[List.length_drop,List.length_take];rfl)) ?_
 with_reducible refine(laws_toValue.calls a2_0 a2_1 a2_2 a2_3 bp bq br bs _ cq.out).mono ?_
 rintro e aH ⟨rfl,hb⟩
 refine⟨_,rfl,?_⟩
 replace u:=zM (Kd.S_below (sI u.out) hb)
 replace c:=sK c hb
 replace a:=sK a hb
 replace b:=sK b hb
 replace q:=sK q hb
 replace HB:=sB HB hb
 (try clear hb)
 (try clear hb2)
 (try clear hk)
 (try clear hi)
 refine hK.out _ _ ⟨(blk_cell c.out 0).trans rfl,(blk_cell c.out 1).trans rfl,(blk_cell a.out 0).trans rfl,(blk_cell a.out 1).trans rfl,(blk_cell a.out 2).trans rfl,(blk_cell a.out 3).trans rfl,(blk_cell b.out 0).trans rfl,(blk_cell b.out 1).trans rfl,(blk_cell b.out 2).trans rfl,(blk_cell b.out 3).trans rfl⟩ (fun hHeld=>?_)
 clear hK K
 refine norm_ (a':=?_) ?_ ?_
 rotate_left
 ·(
 show Act.put _ (some 36) _=_
 simp only[zP,i64_w,i32_w]
 rfl)
 exact norm_ (by first|(simp only[putAll,Act.put,List.setIfInBounds_toArray,List.set_cons_zero,List.set_cons_succ];done)|(simp only[putAll,Act.put,List.setIfInBounds_toArray,List.set_cons_zero,List.set_cons_succ];rfl)) (cA (V,m) _ ⟨hHeld,(sI u.out),(sT c.out),(sT a.out),(sT b.out),(sT q.out),aG.out,L.out,W.out,ap.out,T.out,az.out,U.out,aA.out,(by repeat(first|(with_reducible first|exact HB.out|apply below_alloc|apply pw_below_drewN|apply below_drew1|refine below_set ?_ aq.out|refine below_set ?_ ar.out|refine below_set ?_ au.out|refine below_set ?_ L.out)|exact HB.out))⟩)))
 ·(
 skip
 rintro V O ⟨aF,ag,ah,ai,aj,ak⟩
 have u:Aside0 (Kd.S k56 56 O w.heap.size (fun _=>True) V X):=⟨ag⟩
 replace c:Aside0 (O.heap[x]?=some (.cells #[.int .i64 a0_0,.slice A0_1 l0_1.length c0_1] 24 (0,0))):=⟨ah⟩
 replace a:Aside0 (O.heap[d]?=some (.cells #[.int .i64 a1_0,.int .i64 a1_1,.string a1_2,.int .i64 a1_3] 26 (0,0))):=⟨ai⟩
 replace b:Aside0 (O.heap[l]?=some (.cells #[.int .i64 a2_0,.int .i64 a2_1,.string a2_2,.int .i64 a2_3] 26 (0,0))):=⟨aj⟩
 replace HB:Aside0 (Below w.heap.size w O):=⟨ak⟩
 clear ag ah ai aj ak
 have hHeld:O.cell? ⟨x,0,none⟩=some (.int .i64 a0_0)∧O.cell? ⟨x,1,none⟩=some (.slice A0_1 l0_1.length c0_1)∧O.cell? ⟨d,0,none⟩=some (.int .i64 a1_0)∧O.cell? ⟨d,1,none⟩=some (.int .i64 a1_1)∧O.cell? ⟨d,2,none⟩=some (.string a1_2)∧O.cell? ⟨d,3,none⟩=some (.int .i64 a1_3)∧O.cell? ⟨l,0,none⟩=some (.int .i64 a2_0)∧O.cell? ⟨l,1,none⟩=some (.int .i64 a2_1)∧O.cell? ⟨l,2,none⟩=some (.string a2_2)∧O.cell? ⟨l,3,none⟩=some (.int .i64 a2_3):=aF
 obtain⟨ca,cb,cD⟩:=Kd.S_slice u.out
 (first|subst cD|(injection cD with bB bR bC;have bS:=bB.symm;have bT:=bC.symm;clear bB bR bC;subst bS;subst bT))
 refine norm_ (a':=?_) ?_ ?_
 rotate_left
 ·(
 simp only[putAll,Act.put,List.setIfInBounds_toArray,List.set_cons_zero,List.set_cons_succ]
 rfl)
 refine two_ (i:=6) (j:=11) (Ni:=some 37) (Nj:=some 8) (bN 15 127) (bN 15 2111) rfl rfl rfl rfl (two_of B.out (by kernel_rfl)) (by decide) (by decide) (fun K hK=>?_) (fun K hK=>?_)
 ·(
 skip
 refine goes_ Try.func17 (by kernel_rfl) rfl #[.agg #[.int .i64 aI,.slice ca X.length cb],.agg #[.int .i64 a7,.int .i64 a8,.string a9,.int .i64 ba],.agg #[.int .i64 bp,.int .i64 bq,.string br,.int .i64 bs]] (by rfl) rfl rfl (by(try simp only[List.map_toArray,List.map_cons,List.map_nil]);first|done|rfl|(simp only[List.length_drop,List.length_take];rfl)) ?_
 with_reducible refine(spec_GetElement.calls k aI _ _ X a7 a8 a9 ba bp bq br bs Y Z aa ab aD bb _ ?side1 ?side2 ct.out).mono ?_
 (case side1=>exact sD ((Kd.S_reads' u.out).2.2))
 (case side2=>exact(Kd.S_reads' u.out).2.1)
 rintro e aS ⟨rfl,hb⟩
 refine⟨_,rfl,?_⟩
 replace u:=zM (Kd.S_below (sI u.out) hb)
 replace c:=sK c hb
 replace a:=sK a hb
 replace b:=sK b hb
 replace HB:=sB HB hb
 (try clear hb)
 (try clear hb2)
 (try clear hk)
 (try clear hi)
 refine hK.out _ _ ⟨(blk_cell c.out 0).trans rfl,(blk_cell c.out 1).trans rfl,(blk_cell a.out 0).trans rfl,(blk_cell a.out 1).trans rfl,(blk_cell a.out 2).trans rfl,(blk_cell a.out 3).trans rfl,(blk_cell b.out 0).trans rfl,(blk_cell b.out 1).trans rfl,(blk_cell b.out 2).trans rfl,(blk_cell b.out 3).trans rfl⟩ (fun hHeld=>?_)
 clear hK K
 refine norm_ (a':=?_) ?_ ?_
 rotate_left
 ·(
 show Act.put _ (some 37) _=_
 simp only[zP,i64_w,i32_w]
 rfl)
 refine pure_ (i:=7) (N:=some 30) (v:=?_) (a':=?_) (bN 15 255) rfl rfl (any_of B.out (by kernel_rfl)) (fun _ _ _ h=>h) (Or.inl ⟨by rfl,?_⟩) ?_ ?_
 rotate_left
 ·(
 intro w'
 go_simp
 with_reducible rfl)
 rotate_left
 ·(
 simp only[zP,i64_w,i32_w]
 rfl)
 refine pure_ (i:=8) (N:=some 38) (v:=?_) (a':=?_) (bN 15 511) rfl rfl (any_of B.out (by kernel_rfl)) (fun _ _ _ h=>h) (Or.inl ⟨by rfl,?_⟩) ?_ ?_
 rotate_left
 ·(
 intro w'
 go_simp
 with_reducible rfl)
 rotate_left
 ·(
 simp only[zP,i64_w,i32_w]
 rfl)
 refine pure_ (i:=9) (N:=some 39) (v:=?_) (a':=?_) (bN 15 1023) rfl rfl (any_of B.out (by kernel_rfl)) (fun _ _ _ h=>h) (Or.inl ⟨by rfl,?_⟩) ?_ ?_
 rotate_left
 ·(
 intro w'
 go_simp
 with_reducible rfl)
 rotate_left
 ·(
 simp only[zP,i64_w,i32_w]
 rfl)
 refine pure_ (i:=10) (N:=some 40) (v:=?_) (a':=?_) (bN 15 2047) rfl rfl (any_of B.out (by kernel_rfl)) (fun _ _ _ h=>h) (Or.inl ⟨by rfl,?_⟩) ?_ ?_
 rotate_left
 ·(
 intro w'
 go_simp
 with_reducible rfl)
 rotate_left
 ·(
 simp only[zP,i64_w,i32_w]
 rfl)
 exact norm_ (by first|(simp only[putAll,Act.put,List.setIfInBounds_toArray,List.set_cons_zero,List.set_cons_succ];done)|(simp only[putAll,Act.put,List.setIfInBounds_toArray,List.set_cons_zero,List.set_cons_succ];rfl)) (cT (.slice ca X.length cb) _ ⟨hHeld,(sI u.out),(sT c.out),(sT a.out),(sT b.out),(by repeat(first|(with_reducible first|exact HB.out|apply below_alloc|apply pw_below_drewN|apply below_drew1|refine below_set ?_ aq.out|refine below_set ?_ ar.out|refine below_set ?_ au.out)|exact HB.out))⟩))
 ·(
 skip
 refine box_step ?hg (N:=8) ?hd (cs:= #[.int .i64 0,.int .i64 0,.string (⟨#[]⟩:ByteArray),.int .i64 0]) (t:=29) ?hr ?_;(case hd=>rfl);(case hg=>rfl);(case hr=>first|(go_simp;done)|(go_simp;rfl))
 intro m hg aH hbox hb
 replace u:=zM (Kd.S_below (Kd.S_elderB (sI u.out) m (Nat.le_of_eq hg.symm)) hb)
 have q:=zM (hbox)
 have aG:=sG HB hg
 have L:=sG HB hg
 replace HB:=sB HB hb
 have W:=sN c hg
 have ap:=sM c hg
 replace c:=sK c hb
 have T:=sN a hg
 have az:=sM a hg
 replace a:=sK a hb
 have U:=sN b hg
 have aA:=sM b hg
 replace b:=sK b hb
 clear hb hbox hg
 refine hK.out _ _ ⟨(blk_cell c.out 0).trans rfl,(blk_cell c.out 1).trans rfl,(blk_cell a.out 0).trans rfl,(blk_cell a.out 1).trans rfl,(blk_cell a.out 2).trans rfl,(blk_cell a.out 3).trans rfl,(blk_cell b.out 0).trans rfl,(blk_cell b.out 1).trans rfl,(blk_cell b.out 2).trans rfl,(blk_cell b.out 3).trans rfl⟩ (fun hHeld=>?_)
 clear hK K
 refine norm_ (a':=?_) ?_ ?_
 rotate_left
 ·(
 show Act.put _ (some 8) _=_
 simp only[zP,i64_w,i32_w]
 rfl)
 exact norm_ (by first|(simp only[putAll,Act.put,List.setIfInBounds_toArray,List.set_cons_zero,List.set_cons_succ];done)|(simp only[putAll,Act.put,List.setIfInBounds_toArray,List.set_cons_zero,List.set_cons_succ];rfl)) (cA (.slice ca X.length cb,m) _ ⟨hHeld,(by(with_reducible repeat(first|apply Kd.S_alloc|apply Kd.S_drewN|apply Kd.S_drew));exact Kd.S_mono u.out (fun _ hk=>hk.2)),(sT c.out),(sT a.out),(sT b.out),(sT q.out),aG.out,L.out,W.out,ap.out,T.out,az.out,U.out,aA.out,(by repeat(first|(with_reducible first|exact HB.out|apply below_alloc|apply pw_below_drewN|apply below_drew1|refine below_set ?_ aq.out|refine below_set ?_ ar.out|refine below_set ?_ au.out|refine below_set ?_ L.out)|exact HB.out))⟩))))
 ·(
 skip
 rintro⟨V,m⟩ aH ⟨aF,ag,ah,ai,aj,ak,aJ,aK,aL,aM,aN,aO,aP,aQ,bc⟩
 have u:Aside0 (Kd.S k56 56 aH w.heap.size (fun D=>D≠m) V X):=⟨ag⟩
 replace c:Aside0 (aH.heap[x]?=some (.cells #[.int .i64 a0_0,.slice A0_1 l0_1.length c0_1] 24 (0,0))):=⟨ah⟩
 replace a:Aside0 (aH.heap[d]?=some (.cells #[.int .i64 a1_0,.int .i64 a1_1,.string a1_2,.int .i64 a1_3] 26 (0,0))):=⟨ai⟩
 replace b:Aside0 (aH.heap[l]?=some (.cells #[.int .i64 a2_0,.int .i64 a2_1,.string a2_2,.int .i64 a2_3] 26 (0,0))):=⟨aj⟩
 have q:Aside0 (aH.heap[m]?=some (.cells #[.int .i64 0,.int .i64 0,.string (⟨#[]⟩:ByteArray),.int .i64 0] 29 (0,0))):=⟨ak⟩
 have aG:Aside0 (w.heap.size≤m):=⟨aJ⟩
 have L:Aside0 (w.heap.size≤m):=⟨aK⟩
 have W:Aside0 (x≠m):=⟨aL⟩
 have ap:Aside0 (m≠x):=⟨aM⟩
 have T:Aside0 (d≠m):=⟨aN⟩
 have az:Aside0 (m≠d):=⟨aO⟩
 have U:Aside0 (l≠m):=⟨aP⟩
 have aA:Aside0 (m≠l):=⟨aQ⟩
 replace HB:Aside0 (Below w.heap.size w aH):=⟨bc⟩
 clear ag ah ai aj ak aJ aK aL aM aN aO aP aQ bc
 have hHeld:aH.cell? ⟨x,0,none⟩=some (.int .i64 a0_0)∧aH.cell? ⟨x,1,none⟩=some (.slice A0_1 l0_1.length c0_1)∧aH.cell? ⟨d,0,none⟩=some (.int .i64 a1_0)∧aH.cell? ⟨d,1,none⟩=some (.int .i64 a1_1)∧aH.cell? ⟨d,2,none⟩=some (.string a1_2)∧aH.cell? ⟨d,3,none⟩=some (.int .i64 a1_3)∧aH.cell? ⟨l,0,none⟩=some (.int .i64 a2_0)∧aH.cell? ⟨l,1,none⟩=some (.int .i64 a2_1)∧aH.cell? ⟨l,2,none⟩=some (.string a2_2)∧aH.cell? ⟨l,3,none⟩=some (.int .i64 a2_3):=aF
 obtain⟨cE,cF,cG⟩:=Kd.S_slice u.out
 (first|subst cG|(injection cG with bB bR bC;have bS:=bB.symm;have bT:=bC.symm;clear bB bR bC;subst bS;subst bT))
 refine norm_ (a':=?_) ?_ ?_
 rotate_left
 ·(
 simp only[putAll,Act.put,List.setIfInBounds_toArray,List.set_cons_zero,List.set_cons_succ]
 rfl)
 refine one_ (i:=6) (N:=some 37) (bN 15 2175) rfl rfl (one_of B.out (by kernel_rfl)) (by decide) (fun K hK=>?_)
 refine goes_ Try.func17 (by kernel_rfl) rfl #[.agg #[.int .i64 aI,.slice cE X.length cF],.agg #[.int .i64 a7,.int .i64 a8,.string a9,.int .i64 ba],.agg #[.int .i64 bp,.int .i64 bq,.string br,.int .i64 bs]] (by rfl) rfl rfl (by(try simp only[List.map_toArray,List.map_cons,List.map_nil]);first|done|rfl|(simp only[List.length_drop,List.length_take];rfl)) ?_
 with_reducible refine(spec_GetElement.calls k aI _ _ X a7 a8 a9 ba bp bq br bs Y Z aa ab aD bb _ ?side1 ?side2 ct.out).mono ?_
 (case side1=>exact sD ((Kd.S_reads' u.out).2.2))
 (case side2=>exact(Kd.S_reads' u.out).2.1)
 rintro e aC ⟨rfl,hb⟩
 refine⟨_,rfl,?_⟩
 replace u:=zM (Kd.S_below (sI u.out) hb)
 replace c:=sK c hb
 replace a:=sK a hb
 replace b:=sK b hb
 replace q:=sK q hb
 replace HB:=sB HB hb
 (try clear hb)
 (try clear hb2)
 (try clear hk)
 (try clear hi)
 refine hK.out _ _ ⟨(blk_cell c.out 0).trans rfl,(blk_cell c.out 1).trans rfl,(blk_cell a.out 0).trans rfl,(blk_cell a.out 1).trans rfl,(blk_cell a.out 2).trans rfl,(blk_cell a.out 3).trans rfl,(blk_cell b.out 0).trans rfl,(blk_cell b.out 1).trans rfl,(blk_cell b.out 2).trans rfl,(blk_cell b.out 3).trans rfl⟩ (fun hHeld=>?_)
 clear hK K
 refine norm_ (a':=?_) ?_ ?_
 rotate_left
 ·(
 show Act.put _ (some 37) _=_
 simp only[zP,i64_w,i32_w]
 rfl)
 refine pure_ (i:=7) (N:=some 30) (v:=?_) (a':=?_) (bN 15 2303) rfl rfl (any_of B.out (by kernel_rfl)) (fun _ _ _ h=>h) (Or.inl ⟨by rfl,?_⟩) ?_ ?_
 rotate_left
 ·(
 intro w'
 go_simp
 with_reducible rfl)
 rotate_left
 ·(
 simp only[zP,i64_w,i32_w]
 rfl)
 refine pure_ (i:=8) (N:=some 38) (v:=?_) (a':=?_) (bN 15 2559) rfl rfl (any_of B.out (by kernel_rfl)) (fun _ _ _ h=>h) (Or.inl ⟨by rfl,?_⟩) ?_ ?_
 rotate_left
 ·(
 intro w'
 go_simp
 with_reducible rfl)
 rotate_left
 ·(
 simp only[zP,i64_w,i32_w]
 rfl)
 refine pure_ (i:=9) (N:=some 39) (v:=?_) (a':=?_) (bN 15 3071) rfl rfl (any_of B.out (by kernel_rfl)) (fun _ _ _ h=>h) (Or.inl ⟨by rfl,?_⟩) ?_ ?_
 rotate_left
 ·(
 intro w'
 go_simp
 with_reducible rfl)
 rotate_left
 ·(
 simp only[zP,i64_w,i32_w]
 rfl)
 refine pure_ (i:=10) (N:=some 40) (v:=?_) (a':=?_) (bN 15 4095) rfl rfl (any_of B.out (by kernel_rfl)) (fun _ _ _ h=>h) (Or.inl ⟨by rfl,?_⟩) ?_ ?_
 rotate_left
 ·(
 intro w'
 go_simp
 with_reducible rfl)
 rotate_left
 ·(
 simp only[zP,i64_w,i32_w]
 rfl)
 exact norm_ (by first|(simp only[putAll,Act.put,List.setIfInBounds_toArray,List.set_cons_zero,List.set_cons_succ];done)|(simp only[putAll,Act.put,List.setIfInBounds_toArray,List.set_cons_zero,List.set_cons_succ];rfl)) (cz (.slice cE X.length cF,m) _ ⟨hHeld,(sI u.out),(sT c.out),(sT a.out),(sT b.out),(sT q.out),aG.out,L.out,W.out,ap.out,T.out,az.out,U.out,aA.out,(by repeat(first|(with_reducible first|exact HB.out|apply below_alloc|apply pw_below_drewN|apply below_drew1|refine below_set ?_ aq.out|refine below_set ?_ ar.out|refine below_set ?_ au.out|refine below_set ?_ L.out)|exact HB.out))⟩)))
 ·(
 skip
 rintro V aS ⟨aF,ag,ah,ai,aj,ak⟩
 have u:Aside0 (Kd.S k56 56 aS w.heap.size (fun _=>True) V X):=⟨ag⟩
 replace c:Aside0 (aS.heap[x]?=some (.cells #[.int .i64 a0_0,.slice A0_1 l0_1.length c0_1] 24 (0,0))):=⟨ah⟩
 replace a:Aside0 (aS.heap[d]?=some (.cells #[.int .i64 a1_0,.int .i64 a1_1,.string a1_2,.int .i64 a1_3] 26 (0,0))):=⟨ai⟩
 replace b:Aside0 (aS.heap[l]?=some (.cells #[.int .i64 a2_0,.int .i64 a2_1,.string a2_2,.int .i64 a2_3] 26 (0,0))):=⟨aj⟩
 replace HB:Aside0 (Below w.heap.size w aS):=⟨ak⟩
 clear ag ah ai aj ak
 have hHeld:aS.cell? ⟨x,0,none⟩=some (.int .i64 a0_0)∧aS.cell? ⟨x,1,none⟩=some (.slice A0_1 l0_1.length c0_1)∧aS.cell? ⟨d,0,none⟩=some (.int .i64 a1_0)∧aS.cell? ⟨d,1,none⟩=some (.int .i64 a1_1)∧aS.cell? ⟨d,2,none⟩=some (.string a1_2)∧aS.cell? ⟨d,3,none⟩=some (.int .i64 a1_3)∧aS.cell? ⟨l,0,none⟩=some (.int .i64 a2_0)∧aS.cell? ⟨l,1,none⟩=some (.int .i64 a2_1)∧aS.cell? ⟨l,2,none⟩=some (.string a2_2)∧aS.cell? ⟨l,3,none⟩=some (.int .i64 a2_3):=aF
 refine norm_ (a':=?_) ?_ ?_
 rotate_left
 ·(
 simp only[putAll,Act.put,List.setIfInBounds_toArray,List.set_cons_zero,List.set_cons_succ]
 rfl)
 refine one_ (i:=11) (N:=some 8) (bN 15 4095) rfl rfl (one_of B.out (by kernel_rfl)) (by decide) (fun K hK=>?_)
 refine box_step ?hg (N:=8) ?hd (cs:= #[.int .i64 0,.int .i64 0,.string (⟨#[]⟩:ByteArray),.int .i64 0]) (t:=29) ?hr ?_;(case hd=>rfl);(case hg=>rfl);(case hr=>first|(go_simp;done)|(go_simp;rfl))
 intro m hg aC hbox hb
 replace u:=zM (Kd.S_below (Kd.S_elderB (sI u.out) m (Nat.le_of_eq hg.symm)) hb)
 have q:=zM (hbox)
 have aG:=sG HB hg
 have L:=sG HB hg
 replace HB:=sB HB hb
 have W:=sN c hg
 have ap:=sM c hg
 replace c:=sK c hb
 have T:=sN a hg
 have az:=sM a hg
 replace a:=sK a hb
 have U:=sN b hg
 have aA:=sM b hg
 replace b:=sK b hb
 clear hb hbox hg
 refine hK.out _ _ ⟨(blk_cell c.out 0).trans rfl,(blk_cell c.out 1).trans rfl,(blk_cell a.out 0).trans rfl,(blk_cell a.out 1).trans rfl,(blk_cell a.out 2).trans rfl,(blk_cell a.out 3).trans rfl,(blk_cell b.out 0).trans rfl,(blk_cell b.out 1).trans rfl,(blk_cell b.out 2).trans rfl,(blk_cell b.out 3).trans rfl⟩ (fun hHeld=>?_)
 clear hK K
 refine norm_ (a':=?_) ?_ ?_
 rotate_left
 ·(
 show Act.put _ (some 8) _=_
 simp only[zP,i64_w,i32_w]
 rfl)
 exact norm_ (by first|(simp only[putAll,Act.put,List.setIfInBounds_toArray,List.set_cons_zero,List.set_cons_succ];done)|(simp only[putAll,Act.put,List.setIfInBounds_toArray,List.set_cons_zero,List.set_cons_succ];rfl)) (cz (V,m) _ ⟨hHeld,(by(with_reducible repeat(first|apply Kd.S_alloc|apply Kd.S_drewN|apply Kd.S_drew));exact Kd.S_mono u.out (fun _ hk=>hk.2)),(sT c.out),(sT a.out),(sT b.out),(sT q.out),aG.out,L.out,W.out,ap.out,T.out,az.out,U.out,aA.out,(by repeat(first|(with_reducible first|exact HB.out|apply below_alloc|apply pw_below_drewN|apply below_drew1|refine below_set ?_ aq.out|refine below_set ?_ ar.out|refine below_set ?_ au.out|refine below_set ?_ L.out)|exact HB.out))⟩)))
 rintro⟨V,m⟩ aC ⟨aF,ag,ah,ai,aj,ak,aJ,aK,aL,aM,aN,aO,aP,aQ,bc⟩
 have u:Aside0 (Kd.S k56 56 aC w.heap.size (fun D=>D≠m) V X):=⟨ag⟩
 replace c:Aside0 (aC.heap[x]?=some (.cells #[.int .i64 a0_0,.slice A0_1 l0_1.length c0_1] 24 (0,0))):=⟨ah⟩
 replace a:Aside0 (aC.heap[d]?=some (.cells #[.int .i64 a1_0,.int .i64 a1_1,.string a1_2,.int .i64 a1_3] 26 (0,0))):=⟨ai⟩
 replace b:Aside0 (aC.heap[l]?=some (.cells #[.int .i64 a2_0,.int .i64 a2_1,.string a2_2,.int .i64 a2_3] 26 (0,0))):=⟨aj⟩
 have q:Aside0 (aC.heap[m]?=some (.cells #[.int .i64 0,.int .i64 0,.string (⟨#[]⟩:ByteArray),.int .i64 0] 29 (0,0))):=⟨ak⟩
 have aG:Aside0 (w.heap.size≤m):=⟨aJ⟩
 have L:Aside0 (w.heap.size≤m):=⟨aK⟩
 have W:Aside0 (x≠m):=⟨aL⟩
 have ap:Aside0 (m≠x):=⟨aM⟩
 have T:Aside0 (d≠m):=⟨aN⟩
 have az:Aside0 (m≠d):=⟨aO⟩
 have U:Aside0 (l≠m):=⟨aP⟩
 have aA:Aside0 (m≠l):=⟨aQ⟩
 replace HB:Aside0 (Below w.heap.size w aC):=⟨bc⟩
 clear ag ah ai aj ak aJ aK aL aM aN aO aP aQ bc
 have hHeld:aC.cell? ⟨x,0,none⟩=some (.int .i64 a0_0)∧aC.cell? ⟨x,1,none⟩=some (.slice A0_1 l0_1.length c0_1)∧aC.cell? ⟨d,0,none⟩=some (.int .i64 a1_0)∧aC.cell? ⟨d,1,none⟩=some (.int .i64 a1_1)∧aC.cell? ⟨d,2,none⟩=some (.string a1_2)∧aC.cell? ⟨d,3,none⟩=some (.int .i64 a1_3)∧aC.cell? ⟨l,0,none⟩=some (.int .i64 a2_0)∧aC.cell? ⟨l,1,none⟩=some (.int .i64 a2_1)∧aC.cell? ⟨l,2,none⟩=some (.string a2_2)∧aC.cell? ⟨l,3,none⟩=some (.int .i64 a2_3):=aF
 refine norm_ (a':=?_) ?_ ?_
 rotate_left
 ·(
 simp only[putAll,Act.put,List.setIfInBounds_toArray,List.set_cons_zero,List.set_cons_succ]
 rfl)
 refine one_ (i:=12) (N:=none) (bN 15 8191) rfl rfl (one_of B.out (by kernel_rfl)) (by decide) (fun K hK=>?_)
 have eO:aC.cell? ⟨m,0,none⟩=some (.int .i64 0):=(blk_cell q.out 0).trans rfl
 have eP:=blk_frozen q.out 0
 have eQ:=W.out
 have eR:=T.out
 have eS:=U.out
 have eT:=ap.out
 have eU:=az.out
 have eV:=aA.out
 have eW:aC.cell? ⟨m,1,none⟩=some (.int .i64 0):=(blk_cell q.out 1).trans rfl
 have eX:=blk_frozen q.out 1
 have eY:=W.out
 have eZ:=T.out
 have e0:=U.out
 have e1:=ap.out
 have e2:=az.out
 have e3:=aA.out
 have e4:aC.cell? ⟨m,2,none⟩=some (.string (⟨#[]⟩:ByteArray)):=(blk_cell q.out 2).trans rfl
 have e5:=blk_frozen q.out 2
 have e6:=W.out
 have e7:=T.out
 have e8:=U.out
 have e9:=ap.out
 have fa:=az.out
 have fb:=aA.out
 have fc:aC.cell? ⟨m,3,none⟩=some (.int .i64 0):=(blk_cell q.out 3).trans rfl
 have fd:=blk_frozen q.out 3
 have fe:=W.out
 have ff:=T.out
 have fg:=U.out
 have fh:=ap.out
 have fi:=az.out
 have fj:=aA.out
 refine skip_ (w1:=?_) (by rfl) rfl ?_ ?_
 rotate_left
 ·(
 go_simp
 rfl)
 refine hK.out _ _ ⟨(sQ4 (g:=m) W.out (hHeld.1)),(sQ4 (g:=m) W.out (hHeld.2.1)),(sQ4 (g:=m) T.out (hHeld.2.2.1)),(sQ4 (g:=m) T.out (hHeld.2.2.2.1)),(sQ4 (g:=m) T.out (hHeld.2.2.2.2.1)),(sQ4 (g:=m) T.out (hHeld.2.2.2.2.2.1)),(sQ4 (g:=m) U.out (hHeld.2.2.2.2.2.2.1)),(sQ4 (g:=m) U.out (hHeld.2.2.2.2.2.2.2.1)),(sQ4 (g:=m) U.out (hHeld.2.2.2.2.2.2.2.2.1)),(sQ4 (g:=m) U.out (hHeld.2.2.2.2.2.2.2.2.2))⟩ (fun hHeld=>?_)
 clear hK K
 refine pure_ (i:=13) (N:=some 9) (v:=?_) (a':=?_) (bN 15 16383) rfl rfl (any_of B.out (by kernel_rfl)) (fun _ _ _ h=>h) (Or.inl ⟨by rfl,?_⟩) ?_ ?_
 rotate_left
 ·(
 intro w'
 go_simp
 with_reducible rfl)
 rotate_left
 ·(
 simp only[zP,i64_w,i32_w]
 rfl)
 refine pure_ (i:=14) (N:=some 10) (v:=?_) (a':=?_) (bN 15 32767) rfl rfl (any_of B.out (by kernel_rfl)) (fun _ _ _ h=>h) (Or.inl ⟨by rfl,?_⟩) ?_ ?_
 rotate_left
 ·(
 intro w'
 go_simp
 with_reducible rfl)
 rotate_left
 ·(
 simp only[zP,i64_w,i32_w]
 rfl)
 refine done_ (done_of B.out (by kernel_rfl)) ?_
 have fk:=W.out
 have fl:=ap.out
 obtain⟨fm,fn,fo,fp⟩:=cells2 c.out
 try go_wp2_with (first|((with_reducible refine gate_callee (f:=12) rfl ?_);refine sC (some 42) Try.func12 #[.agg #[.int .i64 a0_0,.slice A0_1 l0_1.length c0_1]] (laws_toHeap.calls k a0_0 _ _ l0_1 G z _ ?side1 ?side2 cR.out) ?_;(case side1=>exact zC bz.out (by repeat(first|(with_reducible first|exact HB.out|apply below_alloc|apply pw_below_drewN|apply below_drew1|refine below_set ?_ aq.out|refine below_set ?_ ar.out|refine below_set ?_ au.out|refine below_set ?_ L.out)|exact HB.out)));(case side2=>exact bA.out);rintro e fq ⟨fr,rfl,bl,hb⟩;refine⟨_,rfl,?_⟩;have aT:=zM (Kd.S_elder' (by(with_reducible repeat(first|apply Kd.S_alloc|apply Kd.S_drewN|apply Kd.S_drew));exact(Kd.S_mono (Kd.S_far (p:=⟨m,3,none⟩) (Kd.S_far (p:=⟨m,2,none⟩) (Kd.S_far (p:=⟨m,1,none⟩) (Kd.S_far (p:=⟨m,0,none⟩) (Kd.S_mono u.out (fun D hk=>(⟨hk,hk⟩:_∧D≠m))) (fun _ hk=>hk.2) (.int .i64 Y)) (fun _ hk=>hk.2) (.int .i64 Z)) (fun _ hk=>hk.2) (.string aa)) (fun _ hk=>hk.2) (.int .i64 ab)) (fun _ h_=>h_.1))) (Kd.S_base bl) hb);have aU:=zM (Kd.S_lower (Kd.S_newB (Kd.S_new' bl (Kd.S_lt (by(with_reducible repeat(first|apply Kd.S_alloc|apply Kd.S_drewN|apply Kd.S_drew));exact(Kd.S_mono (Kd.S_far (p:=⟨m,3,none⟩) (Kd.S_far (p:=⟨m,2,none⟩) (Kd.S_far (p:=⟨m,1,none⟩) (Kd.S_far (p:=⟨m,0,none⟩) (Kd.S_mono u.out (fun D hk=>(⟨hk,hk⟩:_∧D≠m))) (fun _ hk=>hk.2) (.int .i64 Y)) (fun _ hk=>hk.2) (.int .i64 Z)) (fun _ hk=>hk.2) (.string aa)) (fun _ hk=>hk.2) (.int .i64 ab)) (fun _ h_=>h_.1))))) (g:=m) (o:= .cells #[.int .i64 Y,.int .i64 Z,.string aa,.int .i64 ab] 29 (0,0)) (by exact sP4 (sT q.out))) (below_size (by repeat(first|(with_reducible first|exact HB.out|apply below_alloc|apply pw_below_drewN|apply below_drew1|refine below_set ?_ aq.out|refine below_set ?_ ar.out|refine below_set ?_ au.out|refine below_set ?_ L.out)|exact HB.out))));have aV:=zM (blk_below (g:=x) (o:= .cells #[.int .i64 a0_0,.slice A0_1 l0_1.length c0_1] 24 (0,0)) (by(with_reducible repeat(first|refine blk_drewN ?_ _|refine blk_drew ?_|refine blk_alloc ?_ _));refine blk_far ?_ W.out _;(with_reducible repeat(first|refine blk_drewN ?_ _|refine blk_drew ?_|refine blk_alloc ?_ _));refine blk_far ?_ W.out _;(with_reducible repeat(first|refine blk_drewN ?_ _|refine blk_drew ?_|refine blk_alloc ?_ _));refine blk_far ?_ W.out _;(with_reducible repeat(first|refine blk_drewN ?_ _|refine blk_drew ?_|refine blk_alloc ?_ _));refine blk_far ?_ W.out _;exact sT c.out) hb);have aW:=zM (blk_below (g:=d) (o:= .cells #[.int .i64 a1_0,.int .i64 a1_1,.string a1_2,.int .i64 a1_3] 26 (0,0)) (by(with_reducible repeat(first|refine blk_drewN ?_ _|refine blk_drew ?_|refine blk_alloc ?_ _));refine blk_far ?_ T.out _;(with_reducible repeat(first|refine blk_drewN ?_ _|refine blk_drew ?_|refine blk_alloc ?_ _));refine blk_far ?_ T.out _;(with_reducible repeat(first|refine blk_drewN ?_ _|refine blk_drew ?_|refine blk_alloc ?_ _));refine blk_far ?_ T.out _;(with_reducible repeat(first|refine blk_drewN ?_ _|refine blk_drew ?_|refine blk_alloc ?_ _));refine blk_far ?_ T.out _;exact sT a.out) hb);have aX:=zM (blk_below (g:=l) (o:= .cells #[.int .i64 a2_0,.int .i64 a2_1,.string a2_2,.int .i64 a2_3] 26 (0,0)) (by(with_reducible repeat(first|refine blk_drewN ?_ _|refine blk_drew ?_|refine blk_alloc ?_ _));refine blk_far ?_ U.out _;(with_reducible repeat(first|refine blk_drewN ?_ _|refine blk_drew ?_|refine blk_alloc ?_ _));refine blk_far ?_ U.out _;(with_reducible repeat(first|refine blk_drewN ?_ _|refine blk_drew ?_|refine blk_alloc ?_ _));refine blk_far ?_ U.out _;(with_reducible repeat(first|refine blk_drewN ?_ _|refine blk_drew ?_|refine blk_alloc ?_ _));refine blk_far ?_ U.out _;exact sT b.out) hb);have aY:=zM (blk_below (g:=m) (o:= .cells #[.int .i64 Y,.int .i64 Z,.string aa,.int .i64 ab] 29 (0,0)) (by exact sP4 (sT q.out)) hb);have aZ:=sB HB hb;clear u;clear c;clear a;clear b;clear q;clear HB;have u:=aT;have A:=aU;have c:=aV;have a:=aW;have b:=aX;have q:=aY;have HB:=aZ;clear aT aU aV aW aX aY aZ;(try clear hb);(try clear hk);(try clear bl))|((with_reducible refine gate_dst (N:=11) rfl ?_);refine sV (N:=11) (cs:= #[.int .i64 0,.slice none 0 0]) (t:=34) ?_;intro J hg bx hbox hb;replace u:=zM (Kd.S_below (sI u.out) hb);replace A:=zM (Kd.S_below (sI A.out) hb);have s:=zM (hbox);have fs:=sG HB hg;have bU:=sG HB hg;replace HB:=sB HB hb;have cc:=sN c hg;have cZ:=sM c hg;replace c:=sK c hb;have cd:=sN a hg;have c0:=sM a hg;replace a:=sK a hb;have ce:=sN b hg;have c1:=sM b hg;replace b:=sK b hb;have bP:=sN q hg;have bX:=sM q hg;replace q:=sK q hb;clear hb hbox hg;have ft:=cZ.out;have fu:=cc.out;have fv:=c0.out;have fw:=cd.out;have fx:=c1.out;have fy:=ce.out;have fz:=bX.out;have fA:=bP.out;obtain⟨fB,fC,fD,fE⟩:=cells2 s.out;obtain⟨Q,R,c2⟩:=Kd.S_slice A.out;subst c2))
 have aT:Aside0 (Kd.S k56 56 ((bx.setCell ⟨J,0,none⟩ (.int .i64 G)).setCell ⟨J,1,none⟩ (.slice Q z.length R)) w.heap.size (fun D=>some D≠(.slice Q z.length R:Value).ownBlock∧D≠m) V X):=⟨by(with_reducible repeat(first|apply Kd.S_alloc|apply Kd.S_drewN|apply Kd.S_drew));exact Kd.S_mono (Kd.S_far (p:=⟨J,1,none⟩) (Kd.S_far (p:=⟨J,0,none⟩) (Kd.S_types u.out s.out (by decide)) (fun _ hk=>hk.2) (.int .i64 G)) (fun _ hk=>hk.2) (.slice Q z.length R)) (fun _ hk=>⟨hk.1.2,hk.1.1⟩)⟩
 have aU:Aside0 (Kd.S k56 56 ((bx.setCell ⟨J,0,none⟩ (.int .i64 G)).setCell ⟨J,1,none⟩ (.slice Q z.length R)) w.heap.size (fun D=>some D≠(V:Value).ownBlock∧D≠m) (.slice Q z.length R) z):=⟨by(with_reducible repeat(first|apply Kd.S_alloc|apply Kd.S_drewN|apply Kd.S_drew));exact Kd.S_mono (Kd.S_far (p:=⟨J,1,none⟩) (Kd.S_far (p:=⟨J,0,none⟩) (Kd.S_types A.out s.out (by decide)) (fun _ hk=>hk.2) (.int .i64 G)) (fun _ hk=>hk.2) (.slice Q z.length R)) (fun _ hk=>⟨hk.1.1.2,hk.1.2⟩)⟩
 have aV:Aside0 (((bx.setCell ⟨J,0,none⟩ (.int .i64 G)).setCell ⟨J,1,none⟩ (.slice Q z.length R)).heap[x]?=some (.cells #[.int .i64 a0_0,.slice A0_1 l0_1.length c0_1] 24 (0,0))):=⟨by(with_reducible repeat(first|refine blk_drewN ?_ _|refine blk_drew ?_|refine blk_alloc ?_ _));refine blk_far ?_ cc.out _;(with_reducible repeat(first|refine blk_drewN ?_ _|refine blk_drew ?_|refine blk_alloc ?_ _));refine blk_far ?_ cc.out _;exact sT c.out⟩
 have aW:Aside0 (((bx.setCell ⟨J,0,none⟩ (.int .i64 G)).setCell ⟨J,1,none⟩ (.slice Q z.length R)).heap[d]?=some (.cells #[.int .i64 a1_0,.int .i64 a1_1,.string a1_2,.int .i64 a1_3] 26 (0,0))):=⟨by(with_reducible repeat(first|refine blk_drewN ?_ _|refine blk_drew ?_|refine blk_alloc ?_ _));refine blk_far ?_ cd.out _;(with_reducible repeat(first|refine blk_drewN ?_ _|refine blk_drew ?_|refine blk_alloc ?_ _));refine blk_far ?_ cd.out _;exact sT a.out⟩
 have aX:Aside0 (((bx.setCell ⟨J,0,none⟩ (.int .i64 G)).setCell ⟨J,1,none⟩ (.slice Q z.length R)).heap[l]?=some (.cells #[.int .i64 a2_0,.int .i64 a2_1,.string a2_2,.int .i64 a2_3] 26 (0,0))):=⟨by(with_reducible repeat(first|refine blk_drewN ?_ _|refine blk_drew ?_|refine blk_alloc ?_ _));refine blk_far ?_ ce.out _;(with_reducible repeat(first|refine blk_drewN ?_ _|refine blk_drew ?_|refine blk_alloc ?_ _));refine blk_far ?_ ce.out _;exact sT b.out⟩
 have aY:Aside0 (((bx.setCell ⟨J,0,none⟩ (.int .i64 G)).setCell ⟨J,1,none⟩ (.slice Q z.length R)).heap[m]?=some (.cells #[.int .i64 Y,.int .i64 Z,.string aa,.int .i64 ab] 29 (0,0))):=⟨by(with_reducible repeat(first|refine blk_drewN ?_ _|refine blk_drew ?_|refine blk_alloc ?_ _));refine blk_far ?_ bP.out _;(with_reducible repeat(first|refine blk_drewN ?_ _|refine blk_drew ?_|refine blk_alloc ?_ _));refine blk_far ?_ bP.out _;exact sT q.out⟩
 have aZ:Aside0 (((bx.setCell ⟨J,0,none⟩ (.int .i64 G)).setCell ⟨J,1,none⟩ (.slice Q z.length R)).heap[J]?=some (.cells #[.int .i64 G,.slice Q z.length R] 34 (0,0))):=⟨sP2 (sT s.out)⟩
 have bn:Aside0 (Below w.heap.size w ((bx.setCell ⟨J,0,none⟩ (.int .i64 G)).setCell ⟨J,1,none⟩ (.slice Q z.length R))):=⟨sb⟩
 (try clear u)
 (try clear A)
 (try clear c)
 (try clear a)
 (try clear b)
 (try clear q)
 (try clear s)
 (try clear HB)
 generalize ((bx.setCell ⟨J,0,none⟩ (.int .i64 G)).setCell ⟨J,1,none⟩ (.slice Q z.length R))=w82 at aT aU aV aW aX aY aZ bn ⊢
 have u:=aT
 have A:=aU
 have c:=aV
 have a:=aW
 have b:=aX
 have q:=aY
 have s:=aZ
 have HB:=bn
 clear aT aU aV aW aX aY aZ bn
 replace u:=zM (Kd.S_drew u.out)
 replace A:=zM (Kd.S_drew A.out)
 replace c:=zM (blk_drew c.out)
 replace a:=zM (blk_drew a.out)
 replace b:=zM (blk_drew b.out)
 replace q:=zM (blk_drew q.out)
 replace s:=zM (blk_drew s.out)
 replace HB:=zM (below_drew1 HB.out)
 refine start_ (n:=14) (S:=fun w'=>w'.cell? ⟨J,0,none⟩=some (.int .i64 G)∧w'.cell? ⟨J,1,none⟩=some (.slice Q z.length R)∧w'.cell? ⟨d,0,none⟩=some (.int .i64 a1_0)∧w'.cell? ⟨d,1,none⟩=some (.int .i64 a1_1)∧w'.cell? ⟨d,2,none⟩=some (.string a1_2)∧w'.cell? ⟨d,3,none⟩=some (.int .i64 a1_3)∧w'.cell? ⟨l,0,none⟩=some (.int .i64 a2_0)∧w'.cell? ⟨l,1,none⟩=some (.int .i64 a2_1)∧w'.cell? ⟨l,2,none⟩=some (.string a2_2)∧w'.cell? ⟨l,3,none⟩=some (.int .i64 a2_3)) (ds:=[]) #[false,false,false,false,false,false,false,false,false,false,false,false,false,false] (by kernel_rfl) rfl rfl ⟨(blk_cell s.out 0).trans rfl,(blk_cell s.out 1).trans rfl,(blk_cell a.out 0).trans rfl,(blk_cell a.out 1).trans rfl,(blk_cell a.out 2).trans rfl,(blk_cell a.out 3).trans rfl,(blk_cell b.out 0).trans rfl,(blk_cell b.out 1).trans rfl,(blk_cell b.out 2).trans rfl,(blk_cell b.out 3).trans rfl⟩ (fun hHeld=>?_);refine with_tabW laws_FnExactGetElement.tab13 laws_FnExactGetElement.bits13 (fun B bJ=>?_)
 generalize w82.drew=w83 at u A c a b q s HB hHeld ⊢
 refine take_ (i:=0) (N:=some 44) (v:=?_) (a':=?_) (bN 14 1) rfl rfl (take_ofW B.out bJ.out (by kernel_rfl)) (fun _ _ _ h=>h) (Or.inl ⟨by rfl,?_⟩) hHeld ?_ ?_
 rotate_left
 ·(
 rintro w' ⟨s0,s1,s2,s3,s4,s5,s6,s7,s8,s9⟩
 go_simp
 with_reducible rfl)
 rotate_left
 ·(
 simp only[zP,i64_w,i32_w]
 rfl)
 refine take_ (i:=1) (N:=some 45) (v:=?_) (a':=?_) (bN 14 3) rfl rfl (take_ofW B.out bJ.out (by kernel_rfl)) (fun _ _ _ h=>h) (Or.inl ⟨by rfl,?_⟩) hHeld ?_ ?_
 rotate_left
 ·(
 rintro w' ⟨s0,s1,s2,s3,s4,s5,s6,s7,s8,s9⟩
 go_simp
 with_reducible rfl)
 rotate_left
 ·(
 simp only[zP,i64_w,i32_w]
 rfl)
 refine take_ (i:=3) (N:=some 47) (v:=?_) (a':=?_) (bN 14 11) rfl rfl (take_ofW B.out bJ.out (by kernel_rfl)) (fun _ _ _ h=>h) (Or.inl ⟨by rfl,?_⟩) hHeld ?_ ?_
 rotate_left
 ·(
 rintro w' ⟨s0,s1,s2,s3,s4,s5,s6,s7,s8,s9⟩
 go_simp
 with_reducible rfl)
 rotate_left
 ·(
 simp only[zP,i64_w,i32_w]
 rfl)
 refine join_ (σ:=Nat) 3 (bN 14 2047) (fun r=>[(46,.agg #[.int .i64 bd,.int .i64 be,.string bf,.int .i64 bg]),(48,.agg #[.int .i64 bh,.int .i64 bi,.string bj,.int .i64 bk]),(49,.tuple #[.agg #[.int .i64 av,.int .i64 aw,.string ax,.int .i64 ay],.bool aR,.int .i64 bw]),(12,.pointer (some ⟨r,0,none⟩)),(43,.tuple #[.agg #[.int .i64 av,.int .i64 aw,.string ax,.int .i64 ay],.bool aR,.int .i64 bw]),(50,.agg #[.int .i64 av,.int .i64 aw,.string ax,.int .i64 ay]),(51,.bool aR),(52,.int .i64 bw)]) (fun r w'=>(w'.cell? ⟨J,0,none⟩=some (.int .i64 G)∧w'.cell? ⟨J,1,none⟩=some (.slice Q z.length R)∧w'.cell? ⟨d,0,none⟩=some (.int .i64 a1_0)∧w'.cell? ⟨d,1,none⟩=some (.int .i64 a1_1)∧w'.cell? ⟨d,2,none⟩=some (.string a1_2)∧w'.cell? ⟨d,3,none⟩=some (.int .i64 a1_3)∧w'.cell? ⟨l,0,none⟩=some (.int .i64 a2_0)∧w'.cell? ⟨l,1,none⟩=some (.int .i64 a2_1)∧w'.cell? ⟨l,2,none⟩=some (.string a2_2)∧w'.cell? ⟨l,3,none⟩=some (.int .i64 a2_3))∧(Kd.S k56 56 w' w.heap.size (fun D=>some D≠(.slice Q z.length R:Value).ownBlock∧D≠m∧D≠r) V X)∧(Kd.S k56 56 w' w.heap.size (fun D=>some D≠(V:Value).ownBlock∧D≠m∧D≠r) (.slice Q z.length R) z)∧(w'.heap[x]?=some (.cells #[.int .i64 a0_0,.slice A0_1 l0_1.length c0_1] 24 (0,0)))∧(w'.heap[d]?=some (.cells #[.int .i64 a1_0,.int .i64 a1_1,.string a1_2,.int .i64 a1_3] 26 (0,0)))∧(w'.heap[l]?=some (.cells #[.int .i64 a2_0,.int .i64 a2_1,.string a2_2,.int .i64 a2_3] 26 (0,0)))∧(w'.heap[m]?=some (.cells #[.int .i64 Y,.int .i64 Z,.string aa,.int .i64 ab] 29 (0,0)))∧(w'.heap[J]?=some (.cells #[.int .i64 G,.slice Q z.length R] 34 (0,0)))∧(w'.heap[r]?=some (.cells #[.int .i64 0,.int .i64 0,.string (⟨#[]⟩:ByteArray),.int .i64 0] 29 (0,0)))∧(w.heap.size≤r)∧(w.heap.size≤r)∧(x≠r)∧(r≠x)∧(d≠r)∧(r≠d)∧(l≠r)∧(r≠l)∧(m≠r)∧(r≠m)∧(J≠r)∧(r≠J)∧(Below w.heap.size w w')) ?_ ?_
 rotate_left
 ·(
 intro hCont
 refine two_ (i:=2) (j:=10) (Ni:=some 46) (Nj:=some 12) (bN 14 15) (bN 14 1035) rfl rfl rfl rfl (two_of B.out (by kernel_rfl)) (by decide) (by decide) (fun K hK=>?_) (fun K hK=>?_)
 ·(
 skip
 refine goes_ Try.func13 (by kernel_rfl) rfl #[.agg #[.int .i64 a1_0,.int .i64 a1_1,.string a1_2,.int .i64 a1_3]] (by rfl) rfl rfl (by(try simp only[List.map_toArray,List.map_cons,List.map_nil]);first|done|rfl|(simp only[List.length_drop,List.length_take];rfl)) ?_
 with_reducible refine(laws_toValue.calls a1_0 a1_1 a1_2 a1_3 bd be bf bg _ cw.out).mono ?_
 rintro e c3 ⟨rfl,hb⟩
 refine⟨_,rfl,?_⟩
 replace u:=zM (Kd.S_below (sI u.out) hb)
 replace A:=zM (Kd.S_below (sI A.out) hb)
 replace c:=sK c hb
 replace a:=sK a hb
 replace b:=sK b hb
 replace q:=sK q hb
 replace s:=sK s hb
 replace HB:=sB HB hb
 (try clear hb)
 (try clear hb2)
 (try clear hk)
 (try clear hi)
 refine hK.out _ _ ⟨(blk_cell s.out 0).trans rfl,(blk_cell s.out 1).trans rfl,(blk_cell a.out 0).trans rfl,(blk_cell a.out 1).trans rfl,(blk_cell a.out 2).trans rfl,(blk_cell a.out 3).trans rfl,(blk_cell b.out 0).trans rfl,(blk_cell b.out 1).trans rfl,(blk_cell b.out 2).trans rfl,(blk_cell b.out 3).trans rfl⟩ (fun hHeld=>?_)
 clear hK K
 refine norm_ (a':=?_) ?_ ?_
 rotate_left
 ·(
 show Act.put _ (some 46) _=_
 simp only[zP,i64_w,i32_w]
 rfl)
 refine two_ (i:=4) (j:=10) (Ni:=some 48) (Nj:=some 12) (bN 14 31) (bN 14 1039) rfl rfl rfl rfl (two_of B.out (by kernel_rfl)) (by decide) (by decide) (fun K hK=>?_) (fun K hK=>?_)
 ·(
 skip
 refine goes_ Try.func13 (by kernel_rfl) rfl #[.agg #[.int .i64 a2_0,.int .i64 a2_1,.string a2_2,.int .i64 a2_3]] (by rfl) rfl rfl (by(try simp only[List.map_toArray,List.map_cons,List.map_nil]);first|done|rfl|(simp only[List.length_drop,List.length_take];rfl)) ?_
 with_reducible refine(laws_toValue.calls a2_0 a2_1 a2_2 a2_3 bh bi bj bk _ b8.out).mono ?_
 rintro e cH ⟨rfl,hb⟩
 refine⟨_,rfl,?_⟩
 replace u:=zM (Kd.S_below (sI u.out) hb)
 replace A:=zM (Kd.S_below (sI A.out) hb)
 replace c:=sK c hb
 replace a:=sK a hb
 replace b:=sK b hb
 replace q:=sK q hb
 replace s:=sK s hb
 replace HB:=sB HB hb
 (try clear hb)
 (try clear hb2)
 (try clear hk)
 (try clear hi)
 refine hK.out _ _ ⟨(blk_cell s.out 0).trans rfl,(blk_cell s.out 1).trans rfl,(blk_cell a.out 0).trans rfl,(blk_cell a.out 1).trans rfl,(blk_cell a.out 2).trans rfl,(blk_cell a.out 3).trans rfl,(blk_cell b.out 0).trans rfl,(blk_cell b.out 1).trans rfl,(blk_cell b.out 2).trans rfl,(blk_cell b.out 3).trans rfl⟩ (fun hHeld=>?_)
 clear hK K
 refine norm_ (a':=?_) ?_ ?_
 rotate_left
 ·(
 show Act.put _ (some 48) _=_
 simp only[zP,i64_w,i32_w]
 rfl)
 refine two_ (i:=5) (j:=10) (Ni:=some 49) (Nj:=some 12) (bN 14 63) (bN 14 1055) rfl rfl rfl rfl (two_of B.out (by kernel_rfl)) (by decide) (by decide) (fun K hK=>?_) (fun K hK=>?_)
 ·(
 skip
 refine goes_ Try.func18 (by kernel_rfl) rfl #[.agg #[.int .i64 G,.slice Q z.length R],.agg #[.int .i64 bd,.int .i64 be,.string bf,.int .i64 bg],.agg #[.int .i64 bh,.int .i64 bi,.string bj,.int .i64 bk]] (by rfl) rfl rfl (by(try simp only[List.map_toArray,List.map_cons,List.map_nil]);first|done|rfl|(simp only[List.length_drop,List.length_take];rfl)) ?_
 with_reducible refine(impl_GetElement.calls k G _ _ z bd be bf bg bh bi bj bk av aw ax ay aR bw _ ?side1 ?side2 bW.out).mono ?_
 (case side1=>exact sD ((Kd.S_reads' A.out).2.2))
 (case side2=>exact(Kd.S_reads' A.out).2.1)
 rintro e cf ⟨rfl,hb⟩
 refine⟨_,rfl,?_⟩
 replace u:=zM (Kd.S_below (sI u.out) hb)
 replace A:=zM (Kd.S_below (sI A.out) hb)
 replace c:=sK c hb
 replace a:=sK a hb
 replace b:=sK b hb
 replace q:=sK q hb
 replace s:=sK s hb
 replace HB:=sB HB hb
 (try clear hb)
 (try clear hb2)
 (try clear hk)
 (try clear hi)
 refine hK.out _ _ ⟨(blk_cell s.out 0).trans rfl,(blk_cell s.out 1).trans rfl,(blk_cell a.out 0).trans rfl,(blk_cell a.out 1).trans rfl,(blk_cell a.out 2).trans rfl,(blk_cell a.out 3).trans rfl,(blk_cell b.out 0).trans rfl,(blk_cell b.out 1).trans rfl,(blk_cell b.out 2).trans rfl,(blk_cell b.out 3).trans rfl⟩ (fun hHeld=>?_)
 clear hK K
 refine norm_ (a':=?_) ?_ ?_
 rotate_left
 ·(
 show Act.put _ (some 49) _=_
 simp only[zP,i64_w,i32_w]
 rfl)
 refine pure_ (i:=6) (N:=some 43) (v:=?_) (a':=?_) (bN 14 127) rfl rfl (any_of B.out (by kernel_rfl)) (fun _ _ _ h=>h) (Or.inl ⟨by rfl,?_⟩) ?_ ?_
 rotate_left
 ·(
 intro w'
 go_simp
 with_reducible rfl)
 rotate_left
 ·(
 simp only[zP,i64_w,i32_w]
 rfl)
 refine pure_ (i:=7) (N:=some 50) (v:=?_) (a':=?_) (bN 14 255) rfl rfl (any_of B.out (by kernel_rfl)) (fun _ _ _ h=>h) (Or.inl ⟨by rfl,?_⟩) ?_ ?_
 rotate_left
 ·(
 intro w'
 go_simp
 with_reducible rfl)
 rotate_left
 ·(
 simp only[zP,i64_w,i32_w]
 rfl)
 refine pure_ (i:=8) (N:=some 51) (v:=?_) (a':=?_) (bN 14 511) rfl rfl (any_of B.out (by kernel_rfl)) (fun _ _ _ h=>h) (Or.inl ⟨by rfl,?_⟩) ?_ ?_
 rotate_left
 ·(
 intro w'
 go_simp
 with_reducible rfl)
 rotate_left
 ·(
 simp only[zP,i64_w,i32_w]
 rfl)
 refine pure_ (i:=9) (N:=some 52) (v:=?_) (a':=?_) (bN 14 1023) rfl rfl (any_of B.out (by kernel_rfl)) (fun _ _ _ h=>h) (Or.inl ⟨by rfl,?_⟩) ?_ ?_
 rotate_left
 ·(
 intro w'
 go_simp
 with_reducible rfl)
 rotate_left
 ·(
 simp only[zP,i64_w,i32_w]
 rfl)
 refine one_ (i:=10) (N:=some 12) (bN 14 2047) rfl rfl (one_of B.out (by kernel_rfl)) (by decide) (fun K hK=>?_)
 refine box_step ?hg (N:=12) ?hd (cs:= #[.int .i64 0,.int .i64 0,.string (⟨#[]⟩:ByteArray),.int .i64 0]) (t:=29) ?hr ?_;(case hd=>rfl);(case hg=>rfl);(case hr=>first|(go_simp;done)|(go_simp;rfl))
 intro y hg cg hbox hb
 replace u:=zM (Kd.S_below (Kd.S_elderB (sI u.out) y (Nat.le_of_eq hg.symm)) hb)
 replace A:=zM (Kd.S_below (Kd.S_elderB (sI A.out) y (Nat.le_of_eq hg.symm)) hb)
 have F:=zM (hbox)
 have bD:=sG HB hg
 have bm:=sG HB hg
 replace HB:=sB HB hb
 have an:=sN c hg
 have a0:=sM c hg
 replace c:=sK c hb
 have ad:=sN a hg
 have a1:=sM a hg
 replace a:=sK a hb
 have ae:=sN b hg
 have a2:=sM b hg
 replace b:=sK b hb
 have ao:=sN q hg
 have a3:=sM q hg
 replace q:=sK q hb
 have al:=sN s hg
 have a4:=sM s hg
 replace s:=sK s hb
 clear hb hbox hg
 refine hK.out _ _ ⟨(blk_cell s.out 0).trans rfl,(blk_cell s.out 1).trans rfl,(blk_cell a.out 0).trans rfl,(blk_cell a.out 1).trans rfl,(blk_cell a.out 2).trans rfl,(blk_cell a.out 3).trans rfl,(blk_cell b.out 0).trans rfl,(blk_cell b.out 1).trans rfl,(blk_cell b.out 2).trans rfl,(blk_cell b.out 3).trans rfl⟩ (fun hHeld=>?_)
 clear hK K
 refine norm_ (a':=?_) ?_ ?_
 rotate_left
 ·(
 show Act.put _ (some 12) _=_
 simp only[zP,i64_w,i32_w]
 rfl)
 exact norm_ (by simp only[putAll,Act.put,List.setIfInBounds_toArray,List.set_cons_zero,List.set_cons_succ]) (hCont (y) _ ⟨hHeld,(by(with_reducible repeat(first|apply Kd.S_alloc|apply Kd.S_drewN|apply Kd.S_drew));exact Kd.S_mono u.out (fun _ hk=>⟨hk.1.1,⟨hk.1.2,hk.2⟩⟩)),(by(with_reducible repeat(first|apply Kd.S_alloc|apply Kd.S_drewN|apply Kd.S_drew));exact Kd.S_mono A.out (fun _ hk=>⟨hk.1.1,⟨hk.1.2,hk.2⟩⟩)),(sT c.out),(sT a.out),(sT b.out),(sT q.out),(sT s.out),(sT F.out),bD.out,bm.out,an.out,a0.out,ad.out,a1.out,ae.out,a2.out,ao.out,a3.out,al.out,a4.out,(by repeat(first|(with_reducible first|exact HB.out|apply below_alloc|apply pw_below_drewN|apply below_drew1|refine below_set ?_ aq.out|refine below_set ?_ ar.out|refine below_set ?_ au.out|refine below_set ?_ L.out|refine below_set ?_ bU.out|refine below_set ?_ bm.out)|exact HB.out))⟩))
 ·(
 skip
 refine box_step ?hg (N:=12) ?hd (cs:= #[.int .i64 0,.int .i64 0,.string (⟨#[]⟩:ByteArray),.int .i64 0]) (t:=29) ?hr ?_;(case hd=>rfl);(case hg=>rfl);(case hr=>first|(go_simp;done)|(go_simp;rfl))
 intro y hg cf hbox hb
 replace u:=zM (Kd.S_below (Kd.S_elderB (sI u.out) y (Nat.le_of_eq hg.symm)) hb)
 replace A:=zM (Kd.S_below (Kd.S_elderB (sI A.out) y (Nat.le_of_eq hg.symm)) hb)
 have F:=zM (hbox)
 have bD:=sG HB hg
 have bm:=sG HB hg
 replace HB:=sB HB hb
 have an:=sN c hg
 have a0:=sM c hg
 replace c:=sK c hb
 have ad:=sN a hg
 have a1:=sM a hg
 replace a:=sK a hb
 have ae:=sN b hg
 have a2:=sM b hg
 replace b:=sK b hb
 have ao:=sN q hg
 have a3:=sM q hg
 replace q:=sK q hb
 have al:=sN s hg
 have a4:=sM s hg
 replace s:=sK s hb
 clear hb hbox hg
 refine hK.out _ _ ⟨(blk_cell s.out 0).trans rfl,(blk_cell s.out 1).trans rfl,(blk_cell a.out 0).trans rfl,(blk_cell a.out 1).trans rfl,(blk_cell a.out 2).trans rfl,(blk_cell a.out 3).trans rfl,(blk_cell b.out 0).trans rfl,(blk_cell b.out 1).trans rfl,(blk_cell b.out 2).trans rfl,(blk_cell b.out 3).trans rfl⟩ (fun hHeld=>?_)
 clear hK K
 refine norm_ (a':=?_) ?_ ?_
 rotate_left
 ·(
 show Act.put _ (some 12) _=_
 simp only[zP,i64_w,i32_w]
 rfl)
 refine one_ (i:=5) (N:=some 49) (bN 14 1087) rfl rfl (one_of B.out (by kernel_rfl)) (by decide) (fun K hK=>?_)
 refine goes_ Try.func18 (by kernel_rfl) rfl #[.agg #[.int .i64 G,.slice Q z.length R],.agg #[.int .i64 bd,.int .i64 be,.string bf,.int .i64 bg],.agg #[.int .i64 bh,.int .i64 bi,.string bj,.int .i64 bk]] (by rfl) rfl rfl (by(try simp only[List.map_toArray,List.map_cons,List.map_nil]);first|done|rfl|(simp only[List.length_drop,List.length_take];rfl)) ?_
 with_reducible refine(impl_GetElement.calls k G _ _ z bd be bf bg bh bi bj bk av aw ax ay aR bw _ ?side1 ?side2 bW.out).mono ?_
 (case side1=>exact sD ((Kd.S_reads' A.out).2.2))
 (case side2=>exact(Kd.S_reads' A.out).2.1)
 rintro e cg ⟨rfl,hb⟩
 refine⟨_,rfl,?_⟩
 replace u:=zM (Kd.S_below (sI u.out) hb)
 replace A:=zM (Kd.S_below (sI A.out) hb)
 replace c:=sK c hb
 replace a:=sK a hb
 replace b:=sK b hb
 replace q:=sK q hb
 replace s:=sK s hb
 replace F:=sK F hb
 replace HB:=sB HB hb
 (try clear hb)
 (try clear hb2)
 (try clear hk)
 (try clear hi)
 refine hK.out _ _ ⟨(blk_cell s.out 0).trans rfl,(blk_cell s.out 1).trans rfl,(blk_cell a.out 0).trans rfl,(blk_cell a.out 1).trans rfl,(blk_cell a.out 2).trans rfl,(blk_cell a.out 3).trans rfl,(blk_cell b.out 0).trans rfl,(blk_cell b.out 1).trans rfl,(blk_cell b.out 2).trans rfl,(blk_cell b.out 3).trans rfl⟩ (fun hHeld=>?_)
 clear hK K
 refine norm_ (a':=?_) ?_ ?_
 rotate_left
 ·(
 show Act.put _ (some 49) _=_
 simp only[zP,i64_w,i32_w]
 rfl)
 refine pure_ (i:=6) (N:=some 43) (v:=?_) (a':=?_) (bN 14 1151) rfl rfl (any_of B.out (by kernel_rfl)) (fun _ _ _ h=>h) (Or.inl ⟨by rfl,?_⟩) ?_ ?_
 rotate_left
 ·(
 intro w'
 go_simp
 with_reducible rfl)
 rotate_left
 ·(
 simp only[zP,i64_w,i32_w]
 rfl)
 refine pure_ (i:=7) (N:=some 50) (v:=?_) (a':=?_) (bN 14 1279) rfl rfl (any_of B.out (by kernel_rfl)) (fun _ _ _ h=>h) (Or.inl ⟨by rfl,?_⟩) ?_ ?_
 rotate_left
 ·(
 intro w'
 go_simp
 with_reducible rfl)
 rotate_left
 ·(
 simp only[zP,i64_w,i32_w]
 rfl)
 refine pure_ (i:=8) (N:=some 51) (v:=?_) (a':=?_) (bN 14 1535) rfl rfl (any_of B.out (by kernel_rfl)) (fun _ _ _ h=>h) (Or.inl ⟨by rfl,?_⟩) ?_ ?_
 rotate_left
 ·(
 intro w'
 go_simp
 with_reducible rfl)
 rotate_left
 ·(
 simp only[zP,i64_w,i32_w]
 rfl)
 refine pure_ (i:=9) (N:=some 52) (v:=?_) (a':=?_) (bN 14 2047) rfl rfl (any_of B.out (by kernel_rfl)) (fun _ _ _ h=>h) (Or.inl ⟨by rfl,?_⟩) ?_ ?_
 rotate_left
 ·(
 intro w'
 go_simp
 with_reducible rfl)
 rotate_left
 ·(
 simp only[zP,i64_w,i32_w]
 rfl)
 exact norm_ (by simp only[putAll,Act.put,List.setIfInBounds_toArray,List.set_cons_zero,List.set_cons_succ]) (hCont (y) _ ⟨hHeld,(by(with_reducible repeat(first|apply Kd.S_alloc|apply Kd.S_drewN|apply Kd.S_drew));exact Kd.S_mono u.out (fun _ hk=>⟨hk.1.1,⟨hk.1.2,hk.2⟩⟩)),(by(with_reducible repeat(first|apply Kd.S_alloc|apply Kd.S_drewN|apply Kd.S_drew));exact Kd.S_mono A.out (fun _ hk=>⟨hk.1.1,⟨hk.1.2,hk.2⟩⟩)),(sT c.out),(sT a.out),(sT b.out),(sT q.out),(sT s.out),(sT F.out),bD.out,bm.out,an.out,a0.out,ad.out,a1.out,ae.out,a2.out,ao.out,a3.out,al.out,a4.out,(by repeat(first|(with_reducible first|exact HB.out|apply below_alloc|apply pw_below_drewN|apply below_drew1|refine below_set ?_ aq.out|refine below_set ?_ ar.out|refine below_set ?_ au.out|refine below_set ?_ L.out|refine below_set ?_ bU.out|refine below_set ?_ bm.out)|exact HB.out))⟩)))
 ·(
 skip
 refine box_step ?hg (N:=12) ?hd (cs:= #[.int .i64 0,.int .i64 0,.string (⟨#[]⟩:ByteArray),.int .i64 0]) (t:=29) ?hr ?_;(case hd=>rfl);(case hg=>rfl);(case hr=>first|(go_simp;done)|(go_simp;rfl))
 intro y hg cH hbox hb
 replace u:=zM (Kd.S_below (Kd.S_elderB (sI u.out) y (Nat.le_of_eq hg.symm)) hb)
 replace A:=zM (Kd.S_below (Kd.S_elderB (sI A.out) y (Nat.le_of_eq hg.symm)) hb)
 have F:=zM (hbox)
 have bD:=sG HB hg
 have bm:=sG HB hg
 replace HB:=sB HB hb
 have an:=sN c hg
 have a0:=sM c hg
 replace c:=sK c hb
 have ad:=sN a hg
 have a1:=sM a hg
 replace a:=sK a hb
 have ae:=sN b hg
 have a2:=sM b hg
 replace b:=sK b hb
 have ao:=sN q hg
 have a3:=sM q hg
 replace q:=sK q hb
 have al:=sN s hg
 have a4:=sM s hg
 replace s:=sK s hb
 clear hb hbox hg
 refine hK.out _ _ ⟨(blk_cell s.out 0).trans rfl,(blk_cell s.out 1).trans rfl,(blk_cell a.out 0).trans rfl,(blk_cell a.out 1).trans rfl,(blk_cell a.out 2).trans rfl,(blk_cell a.out 3).trans rfl,(blk_cell b.out 0).trans rfl,(blk_cell b.out 1).trans rfl,(blk_cell b.out 2).trans rfl,(blk_cell b.out 3).trans rfl⟩ (fun hHeld=>?_)
 clear hK K
 refine norm_ (a':=?_) ?_ ?_
 rotate_left
 ·(
 show Act.put _ (some 12) _=_
 simp only[zP,i64_w,i32_w]
 rfl)
 refine one_ (i:=4) (N:=some 48) (bN 14 1055) rfl rfl (one_of B.out (by kernel_rfl)) (by decide) (fun K hK=>?_)
 refine goes_ Try.func13 (by kernel_rfl) rfl #[.agg #[.int .i64 a2_0,.int .i64 a2_1,.string a2_2,.int .i64 a2_3]] (by rfl) rfl rfl (by(try simp only[List.map_toArray,List.map_cons,List.map_nil]);first|done|rfl|(simp only[List.length_drop,List.length_take];rfl)) ?_
 with_reducible refine(laws_toValue.calls a2_0 a2_1 a2_2 a2_3 bh bi bj bk _ b8.out).mono ?_
 rintro e cf ⟨rfl,hb⟩
 refine⟨_,rfl,?_⟩
 replace u:=zM (Kd.S_below (sI u.out) hb)
 replace A:=zM (Kd.S_below (sI A.out) hb)
 replace c:=sK c hb
 replace a:=sK a hb
 replace b:=sK b hb
 replace q:=sK q hb
 replace s:=sK s hb
 replace F:=sK F hb
 replace HB:=sB HB hb
 (try clear hb)
 (try clear hb2)
 (try clear hk)
 (try clear hi)
 refine hK.out _ _ ⟨(blk_cell s.out 0).trans rfl,(blk_cell s.out 1).trans rfl,(blk_cell a.out 0).trans rfl,(blk_cell a.out 1).trans rfl,(blk_cell a.out 2).trans rfl,(blk_cell a.out 3).trans rfl,(blk_cell b.out 0).trans rfl,(blk_cell b.out 1).trans rfl,(blk_cell b.out 2).trans rfl,(blk_cell b.out 3).trans rfl⟩ (fun hHeld=>?_)
 clear hK K
 refine norm_ (a':=?_) ?_ ?_
 rotate_left
 ·(
 show Act.put _ (some 48) _=_
 simp only[zP,i64_w,i32_w]
 rfl)
 refine one_ (i:=5) (N:=some 49) (bN 14 1087) rfl rfl (one_of B.out (by kernel_rfl)) (by decide) (fun K hK=>?_)
 refine goes_ Try.func18 (by kernel_rfl) rfl #[.agg #[.int .i64 G,.slice Q z.length R],.agg #[.int .i64 bd,.int .i64 be,.string bf,.int .i64 bg],.agg #[.int .i64 bh,.int .i64 bi,.string bj,.int .i64 bk]] (by rfl) rfl rfl (by(try simp only[List.map_toArray,List.map_cons,List.map_nil]);first|done|rfl|(simp only[List.length_drop,List.length_take];rfl)) ?_
 with_reducible refine(impl_GetElement.calls k G _ _ z bd be bf bg bh bi bj bk av aw ax ay aR bw _ ?side1 ?side2 bW.out).mono ?_
 (case side1=>exact sD ((Kd.S_reads' A.out).2.2))
 (case side2=>exact(Kd.S_reads' A.out).2.1)
 rintro e cg ⟨rfl,hb⟩
 refine⟨_,rfl,?_⟩
 replace u:=zM (Kd.S_below (sI u.out) hb)
 replace A:=zM (Kd.S_below (sI A.out) hb)
 replace c:=sK c hb
 replace a:=sK a hb
 replace b:=sK b hb
 replace q:=sK q hb
 replace s:=sK s hb
 replace F:=sK F hb
 replace HB:=sB HB hb
 (try clear hb)
 (try clear hb2)
 (try clear hk)
 (try clear hi)
 refine hK.out _ _ ⟨(blk_cell s.out 0).trans rfl,(blk_cell s.out 1).trans rfl,(blk_cell a.out 0).trans rfl,(blk_cell a.out 1).trans rfl,(blk_cell a.out 2).trans rfl,(blk_cell a.out 3).trans rfl,(blk_cell b.out 0).trans rfl,(blk_cell b.out 1).trans rfl,(blk_cell b.out 2).trans rfl,(blk_cell b.out 3).trans rfl⟩ (fun hHeld=>?_)
 clear hK K
 refine norm_ (a':=?_) ?_ ?_
 rotate_left
 ·(
 show Act.put _ (some 49) _=_
 simp only[zP,i64_w,i32_w]
 rfl)
 refine pure_ (i:=6) (N:=some 43) (v:=?_) (a':=?_) (bN 14 1151) rfl rfl (any_of B.out (by kernel_rfl)) (fun _ _ _ h=>h) (Or.inl ⟨by rfl,?_⟩) ?_ ?_
 rotate_left
 ·(
 intro w'
 go_simp
 with_reducible rfl)
 rotate_left
 ·(
 simp only[zP,i64_w,i32_w]
 rfl)
 refine pure_ (i:=7) (N:=some 50) (v:=?_) (a':=?_) (bN 14 1279) rfl rfl (any_of B.out (by kernel_rfl)) (fun _ _ _ h=>h) (Or.inl ⟨by rfl,?_⟩) ?_ ?_
 rotate_left
 ·(
 intro w'
 go_simp
 with_reducible rfl)
 rotate_left
 ·(
 simp only[zP,i64_w,i32_w]
 rfl)
 refine pure_ (i:=8) (N:=some 51) (v:=?_) (a':=?_) (bN 14 1535) rfl rfl (any_of B.out (by kernel_rfl)) (fun _ _ _ h=>h) (Or.inl ⟨by rfl,?_⟩) ?_ ?_
 rotate_left
 ·(
 intro w'
 go_simp
 with_reducible rfl)
 rotate_left
 ·(
 simp only[zP,i64_w,i32_w]
 rfl)
 refine pure_ (i:=9) (N:=some 52) (v:=?_) (a':=?_) (bN 14 2047) rfl rfl (any_of B.out (by kernel_rfl)) (fun _ _ _ h=>h) (Or.inl ⟨by rfl,?_⟩) ?_ ?_
 rotate_left
 ·(
 intro w'
 go_simp
 with_reducible rfl)
 rotate_left
 ·(
 simp only[zP,i64_w,i32_w]
 rfl)
 exact norm_ (by simp only[putAll,Act.put,List.setIfInBounds_toArray,List.set_cons_zero,List.set_cons_succ]) (hCont (y) _ ⟨hHeld,(by(with_reducible repeat(first|apply Kd.S_alloc|apply Kd.S_drewN|apply Kd.S_drew));exact Kd.S_mono u.out (fun _ hk=>⟨hk.1.1,⟨hk.1.2,hk.2⟩⟩)),(by(with_reducible repeat(first|apply Kd.S_alloc|apply Kd.S_drewN|apply Kd.S_drew));exact Kd.S_mono A.out (fun _ hk=>⟨hk.1.1,⟨hk.1.2,hk.2⟩⟩)),(sT c.out),(sT a.out),(sT b.out),(sT q.out),(sT s.out),(sT F.out),bD.out,bm.out,an.out,a0.out,ad.out,a1.out,ae.out,a2.out,ao.out,a3.out,al.out,a4.out,(by repeat(first|(with_reducible first|exact HB.out|apply below_alloc|apply pw_below_drewN|apply below_drew1|refine below_set ?_ aq.out|refine below_set ?_ ar.out|refine below_set ?_ au.out|refine below_set ?_ L.out|refine below_set ?_ bU.out|refine below_set ?_ bm.out)|exact HB.out))⟩)))
 ·(
 skip
 refine box_step ?hg (N:=12) ?hd (cs:= #[.int .i64 0,.int .i64 0,.string (⟨#[]⟩:ByteArray),.int .i64 0]) (t:=29) ?hr ?_;(case hd=>rfl);(case hg=>rfl);(case hr=>first|(go_simp;done)|(go_simp;rfl))
 intro y hg c3 hbox hb
 replace u:=zM (Kd.S_below (Kd.S_elderB (sI u.out) y (Nat.le_of_eq hg.symm)) hb)
 replace A:=zM (Kd.S_below (Kd.S_elderB (sI A.out) y (Nat.le_of_eq hg.symm)) hb)
 have F:=zM (hbox)
 have bD:=sG HB hg
 have bm:=sG HB hg
 replace HB:=sB HB hb
 have an:=sN c hg
 have a0:=sM c hg
 replace c:=sK c hb
 have ad:=sN a hg
 have a1:=sM a hg
 replace a:=sK a hb
 have ae:=sN b hg
 have a2:=sM b hg
 replace b:=sK b hb
 have ao:=sN q hg
 have a3:=sM q hg
 replace q:=sK q hb
 have al:=sN s hg
 have a4:=sM s hg
 replace s:=sK s hb
 clear hb hbox hg
 refine hK.out _ _ ⟨(blk_cell s.out 0).trans rfl,(blk_cell s.out 1).trans rfl,(blk_cell a.out 0).trans rfl,(blk_cell a.out 1).trans rfl,(blk_cell a.out 2).trans rfl,(blk_cell a.out 3).trans rfl,(blk_cell b.out 0).trans rfl,(blk_cell b.out 1).trans rfl,(blk_cell b.out 2).trans rfl,(blk_cell b.out 3).trans rfl⟩ (fun hHeld=>?_)
 clear hK K
 refine norm_ (a':=?_) ?_ ?_
 rotate_left
 ·(
 show Act.put _ (some 12) _=_
 simp only[zP,i64_w,i32_w]
 rfl)
 refine one_ (i:=2) (N:=some 46) (bN 14 1039) rfl rfl (one_of B.out (by kernel_rfl)) (by decide) (fun K hK=>?_)
 refine goes_ Try.func13 (by kernel_rfl) rfl #[.agg #[.int .i64 a1_0,.int .i64 a1_1,.string a1_2,.int .i64 a1_3]] (by rfl) rfl rfl (by(try simp only[List.map_toArray,List.map_cons,List.map_nil]);first|done|rfl|(simp only[List.length_drop,List.length_take];rfl)) ?_
 with_reducible refine(laws_toValue.calls a1_0 a1_1 a1_2 a1_3 bd be bf bg _ cw.out).mono ?_
 rintro e cH ⟨rfl,hb⟩
 refine⟨_,rfl,?_⟩
 replace u:=zM (Kd.S_below (sI u.out) hb)
 replace A:=zM (Kd.S_below (sI A.out) hb)
 replace c:=sK c hb
 replace a:=sK a hb
 replace b:=sK b hb
 replace q:=sK q hb
 replace s:=sK s hb
 replace F:=sK F hb
 replace HB:=sB HB hb
 (try clear hb)
 (try clear hb2)
 (try clear hk)
 (try clear hi)
 refine hK.out _ _ ⟨(blk_cell s.out 0).trans rfl,(blk_cell s.out 1).trans rfl,(blk_cell a.out 0).trans rfl,(blk_cell a.out 1).trans rfl,(blk_cell a.out 2).trans rfl,(blk_cell a.out 3).trans rfl,(blk_cell b.out 0).trans rfl,(blk_cell b.out 1).trans rfl,(blk_cell b.out 2).trans rfl,(blk_cell b.out 3).trans rfl⟩ (fun hHeld=>?_)
 clear hK K
 refine norm_ (a':=?_) ?_ ?_
 rotate_left
 ·(
 show Act.put _ (some 46) _=_
 simp only[zP,i64_w,i32_w]
 rfl)
 refine one_ (i:=4) (N:=some 48) (bN 14 1055) rfl rfl (one_of B.out (by kernel_rfl)) (by decide) (fun K hK=>?_)
 refine goes_ Try.func13 (by kernel_rfl) rfl #[.agg #[.int .i64 a2_0,.int .i64 a2_1,.string a2_2,.int .i64 a2_3]] (by rfl) rfl rfl (by(try simp only[List.map_toArray,List.map_cons,List.map_nil]);first|done|rfl|(simp only[List.length_drop,List.length_take];rfl)) ?_
 with_reducible refine(laws_toValue.calls a2_0 a2_1 a2_2 a2_3 bh bi bj bk _ b8.out).mono ?_
 rintro e cf ⟨rfl,hb⟩
 refine⟨_,rfl,?_⟩
 replace u:=zM (Kd.S_below (sI u.out) hb)
 replace A:=zM (Kd.S_below (sI A.out) hb)
 replace c:=sK c hb
 replace a:=sK a hb
 replace b:=sK b hb
 replace q:=sK q hb
 replace s:=sK s hb
 replace F:=sK F hb
 replace HB:=sB HB hb
 (try clear hb)
 (try clear hb2)
 (try clear hk)
 (try clear hi)
 refine hK.out _ _ ⟨(blk_cell s.out 0).trans rfl,(blk_cell s.out 1).trans rfl,(blk_cell a.out 0).trans rfl,(blk_cell a.out 1).trans rfl,(blk_cell a.out 2).trans rfl,(blk_cell a.out 3).trans rfl,(blk_cell b.out 0).trans rfl,(blk_cell b.out 1).trans rfl,(blk_cell b.out 2).trans rfl,(blk_cell b.out 3).trans rfl⟩ (fun hHeld=>?_)
 clear hK K
 refine norm_ (a':=?_) ?_ ?_
 rotate_left
 ·(
 show Act.put _ (some 48) _=_
 simp only[zP,i64_w,i32_w]
 rfl)
 refine one_ (i:=5) (N:=some 49) (bN 14 1087) rfl rfl (one_of B.out (by kernel_rfl)) (by decide) (fun K hK=>?_)
 refine goes_ Try.func18 (by kernel_rfl) rfl #[.agg #[.int .i64 G,.slice Q z.length R],.agg #[.int .i64 bd,.int .i64 be,.string bf,.int .i64 bg],.agg #[.int .i64 bh,.int .i64 bi,.string bj,.int .i64 bk]] (by rfl) rfl rfl (by(try simp only[List.map_toArray,List.map_cons,List.map_nil]);first|done|rfl|(simp only[List.length_drop,List.length_take];rfl)) ?_
 with_reducible refine(impl_GetElement.calls k G _ _ z bd be bf bg bh bi bj bk av aw ax ay aR bw _ ?side1 ?side2 bW.out).mono ?_
 (case side1=>exact sD ((Kd.S_reads' A.out).2.2))
 (case side2=>exact(Kd.S_reads' A.out).2.1)
 rintro e cg ⟨rfl,hb⟩
 refine⟨_,rfl,?_⟩
 replace u:=zM (Kd.S_below (sI u.out) hb)
 replace A:=zM (Kd.S_below (sI A.out) hb)
 replace c:=sK c hb
 replace a:=sK a hb
 replace b:=sK b hb
 replace q:=sK q hb
 replace s:=sK s hb
 replace F:=sK F hb
 replace HB:=sB HB hb
 (try clear hb)
 (try clear hb2)
 (try clear hk)
 (try clear hi)
 refine hK.out _ _ ⟨(blk_cell s.out 0).trans rfl,(blk_cell s.out 1).trans rfl,(blk_cell a.out 0).trans rfl,(blk_cell a.out 1).trans rfl,(blk_cell a.out 2).trans rfl,(blk_cell a.out 3).trans rfl,(blk_cell b.out 0).trans rfl,(blk_cell b.out 1).trans rfl,(blk_cell b.out 2).trans rfl,(blk_cell b.out 3).trans rfl⟩ (fun hHeld=>?_)
 clear hK K
 refine norm_ (a':=?_) ?_ ?_
 rotate_left
 ·(
 show Act.put _ (some 49) _=_
 simp only[zP,i64_w,i32_w]
 rfl)
 refine pure_ (i:=6) (N:=some 43) (v:=?_) (a':=?_) (bN 14 1151) rfl rfl (any_of B.out (by kernel_rfl)) (fun _ _ _ h=>h) (Or.inl ⟨by rfl,?_⟩) ?_ ?_
 rotate_left
 ·(
 intro w'
 go_simp
 with_reducible rfl)
 rotate_left
 ·(
 simp only[zP,i64_w,i32_w]
 rfl)
 refine pure_ (i:=7) (N:=some 50) (v:=?_) (a':=?_) (bN 14 1279) rfl rfl (any_of B.out (by kernel_rfl)) (fun _ _ _ h=>h) (Or.inl ⟨by rfl,?_⟩) ?_ ?_
 rotate_left
 ·(
 intro w'
 go_simp
 with_reducible rfl)
 rotate_left
 ·(
 simp only[zP,i64_w,i32_w]
 rfl)
 refine pure_ (i:=8) (N:=some 51) (v:=?_) (a':=?_) (bN 14 1535) rfl rfl (any_of B.out (by kernel_rfl)) (fun _ _ _ h=>h) (Or.inl ⟨by rfl,?_⟩) ?_ ?_
 rotate_left
 ·(
 intro w'
 go_simp
 with_reducible rfl)
 rotate_left
 ·(
 simp only[zP,i64_w,i32_w]
 rfl)
 refine pure_ (i:=9) (N:=some 52) (v:=?_) (a':=?_) (bN 14 2047) rfl rfl (any_of B.out (by kernel_rfl)) (fun _ _ _ h=>h) (Or.inl ⟨by rfl,?_⟩) ?_ ?_
 rotate_left
 ·(
 intro w'
 go_simp
 with_reducible rfl)
 rotate_left
 ·(
 simp only[zP,i64_w,i32_w]
 rfl)
 exact norm_ (by simp only[putAll,Act.put,List.setIfInBounds_toArray,List.set_cons_zero,List.set_cons_succ]) (hCont (y) _ ⟨hHeld,(by(with_reducible repeat(first|apply Kd.S_alloc|apply Kd.S_drewN|apply Kd.S_drew));exact Kd.S_mono u.out (fun _ hk=>⟨hk.1.1,⟨hk.1.2,hk.2⟩⟩)),(by(with_reducible repeat(first|apply Kd.S_alloc|apply Kd.S_drewN|apply Kd.S_drew));exact Kd.S_mono A.out (fun _ hk=>⟨hk.1.1,⟨hk.1.2,hk.2⟩⟩)),(sT c.out),(sT a.out),(sT b.out),(sT q.out),(sT s.out),(sT F.out),bD.out,bm.out,an.out,a0.out,ad.out,a1.out,ae.out,a2.out,ao.out,a3.out,al.out,a4.out,(by repeat(first|(with_reducible first|exact HB.out|apply below_alloc|apply pw_below_drewN|apply below_drew1|refine below_set ?_ aq.out|refine below_set ?_ ar.out|refine below_set ?_ au.out|refine below_set ?_ L.out|refine below_set ?_ bU.out|refine below_set ?_ bm.out)|exact HB.out))⟩)))
 rintro y aB ⟨aF,ag,ah,ai,aj,ak,aJ,aK,aL,aM,aN,aO,aP,aQ,bc,cI,cJ,cK,cL,cM,cN,cO⟩
 replace u:Aside0 (Kd.S k56 56 aB w.heap.size (fun D=>some D≠(.slice Q z.length R:Value).ownBlock∧D≠m∧D≠y) V X):=⟨ag⟩
 replace A:Aside0 (Kd.S k56 56 aB w.heap.size (fun D=>some D≠(V:Value).ownBlock∧D≠m∧D≠y) (.slice Q z.length R) z):=⟨ah⟩
 replace c:Aside0 (aB.heap[x]?=some (.cells #[.int .i64 a0_0,.slice A0_1 l0_1.length c0_1] 24 (0,0))):=⟨ai⟩
 replace a:Aside0 (aB.heap[d]?=some (.cells #[.int .i64 a1_0,.int .i64 a1_1,.string a1_2,.int .i64 a1_3] 26 (0,0))):=⟨aj⟩
 replace b:Aside0 (aB.heap[l]?=some (.cells #[.int .i64 a2_0,.int .i64 a2_1,.string a2_2,.int .i64 a2_3] 26 (0,0))):=⟨ak⟩
 replace q:Aside0 (aB.heap[m]?=some (.cells #[.int .i64 Y,.int .i64 Z,.string aa,.int .i64 ab] 29 (0,0))):=⟨aJ⟩
 replace s:Aside0 (aB.heap[J]?=some (.cells #[.int .i64 G,.slice Q z.length R] 34 (0,0))):=⟨aK⟩
 have F:Aside0 (aB.heap[y]?=some (.cells #[.int .i64 0,.int .i64 0,.string (⟨#[]⟩:ByteArray),.int .i64 0] 29 (0,0))):=⟨aL⟩
 have bD:Aside0 (w.heap.size≤y):=⟨aM⟩
 have bm:Aside0 (w.heap.size≤y):=⟨aN⟩
 have an:Aside0 (x≠y):=⟨aO⟩
 have a0:Aside0 (y≠x):=⟨aP⟩
 have ad:Aside0 (d≠y):=⟨aQ⟩
 have a1:Aside0 (y≠d):=⟨bc⟩
 have ae:Aside0 (l≠y):=⟨cI⟩
 have a2:Aside0 (y≠l):=⟨cJ⟩
 have ao:Aside0 (m≠y):=⟨cK⟩
 have a3:Aside0 (y≠m):=⟨cL⟩
 have al:Aside0 (J≠y):=⟨cM⟩
 have a4:Aside0 (y≠J):=⟨cN⟩
 replace HB:Aside0 (Below w.heap.size w aB):=⟨cO⟩
 clear ag ah ai aj ak aJ aK aL aM aN aO aP aQ bc cI cJ cK cL cM cN cO
 have hHeld:aB.cell? ⟨J,0,none⟩=some (.int .i64 G)∧aB.cell? ⟨J,1,none⟩=some (.slice Q z.length R)∧aB.cell? ⟨d,0,none⟩=some (.int .i64 a1_0)∧aB.cell? ⟨d,1,none⟩=some (.int .i64 a1_1)∧aB.cell? ⟨d,2,none⟩=some (.string a1_2)∧aB.cell? ⟨d,3,none⟩=some (.int .i64 a1_3)∧aB.cell? ⟨l,0,none⟩=some (.int .i64 a2_0)∧aB.cell? ⟨l,1,none⟩=some (.int .i64 a2_1)∧aB.cell? ⟨l,2,none⟩=some (.string a2_2)∧aB.cell? ⟨l,3,none⟩=some (.int .i64 a2_3):=aF
 refine norm_ (a':=?_) ?_ ?_
 rotate_left
 ·(
 simp only[putAll,Act.put,List.setIfInBounds_toArray,List.set_cons_zero,List.set_cons_succ]
 rfl)
 refine one_ (i:=11) (N:=none) (bN 14 4095) rfl rfl (one_of B.out (by kernel_rfl)) (by decide) (fun K hK=>?_)
 have fF:aB.cell? ⟨y,0,none⟩=some (.int .i64 0):=(blk_cell F.out 0).trans rfl
 have fG:=blk_frozen F.out 0
 have fH:=an.out
 have fI:=ad.out
 have fJ:=ae.out
 have fK:=ao.out
 have fL:=al.out
 have fM:=a0.out
 have fN:=a1.out
 have fO:=a2.out
 have fP:=a3.out
 have fQ:=a4.out
 have fR:aB.cell? ⟨y,1,none⟩=some (.int .i64 0):=(blk_cell F.out 1).trans rfl
 have fS:=blk_frozen F.out 1
 have fT:=an.out
 have fU:=ad.out
 have fV:=ae.out
 have fW:=ao.out
 have fX:=al.out
 have fY:=a0.out
 have fZ:=a1.out
 have f0:=a2.out
 have f1:=a3.out
 have f2:=a4.out
 have f3:aB.cell? ⟨y,2,none⟩=some (.string (⟨#[]⟩:ByteArray)):=(blk_cell F.out 2).trans rfl
 have f5:=blk_frozen F.out 2
 have f6:=an.out
 have f7:=ad.out
 have f8:=ae.out
 have f9:=ao.out
 have ga:=al.out
 have gb:=a0.out
 have gc:=a1.out
 have gd:=a2.out
 have gf:=a3.out
 have gg:=a4.out
 have gh:aB.cell? ⟨y,3,none⟩=some (.int .i64 0):=(blk_cell F.out 3).trans rfl
 have gi:=blk_frozen F.out 3
 have gj:=an.out
 have gk:=ad.out
 have gl:=ae.out
 have gm:=ao.out
 have gn:=al.out
 have go:=a0.out
 have gp:=a1.out
 have gq:=a2.out
 have gr:=a3.out
 have gs:=a4.out
 refine skip_ (w1:=?_) (by rfl) rfl ?_ ?_
 rotate_left
 ·(
 go_simp
 rfl)
 refine hK.out _ _ ⟨(sQ4 (g:=y) al.out (hHeld.1)),(sQ4 (g:=y) al.out (hHeld.2.1)),(sQ4 (g:=y) ad.out (hHeld.2.2.1)),(sQ4 (g:=y) ad.out (hHeld.2.2.2.1)),(sQ4 (g:=y) ad.out (hHeld.2.2.2.2.1)),(sQ4 (g:=y) ad.out (hHeld.2.2.2.2.2.1)),(sQ4 (g:=y) ae.out (hHeld.2.2.2.2.2.2.1)),(sQ4 (g:=y) ae.out (hHeld.2.2.2.2.2.2.2.1)),(sQ4 (g:=y) ae.out (hHeld.2.2.2.2.2.2.2.2.1)),(sQ4 (g:=y) ae.out (hHeld.2.2.2.2.2.2.2.2.2))⟩ (fun hHeld=>?_)
 clear hK K
 refine pure_ (i:=12) (N:=some 13) (v:=?_) (a':=?_) (bN 14 8191) rfl rfl (any_of B.out (by kernel_rfl)) (fun _ _ _ h=>h) (Or.inl ⟨by rfl,?_⟩) ?_ ?_
 rotate_left
 ·(
 intro w'
 go_simp
 with_reducible rfl)
 rotate_left
 ·(
 simp only[zP,i64_w,i32_w]
 rfl)
 refine pure_ (i:=13) (N:=some 14) (v:=?_) (a':=?_) (bN 14 16383) rfl rfl (any_of B.out (by kernel_rfl)) (fun _ _ _ h=>h) (Or.inl ⟨by rfl,?_⟩) ?_ ?_
 rotate_left
 ·(
 intro w'
 go_simp
 with_reducible rfl)
 rotate_left
 ·(
 simp only[zP,i64_w,i32_w]
 rfl)
 refine done_ (done_of B.out (by kernel_rfl)) ?_
 go_upto_region 14 with(fail)
 go_cut [66] (fun c4 wc=>∃(kq:Nat) (bY:Bool),c4= .bool bY∧Aside0 (laws_FnExactGetElement.j0 kq bY a0_0 l0_1 G z=some true)∧Aside0 (kq≤k)∧Aside0 (Kd.S k56 56 wc w.heap.size (fun D=>D≠m∧D≠y) (.slice Q z.length R) z)∧Aside0 (wc.heap[x]?=some (.cells #[.int .i64 a0_0,(.slice A0_1 l0_1.length c0_1)] 24 (0,0)))∧Aside0 (wc.heap[d]?=some (.cells #[.int .i64 a1_0,.int .i64 a1_1,.string a1_2,.int .i64 a1_3] 26 (0,0)))∧Aside0 (wc.heap[l]?=some (.cells #[.int .i64 a2_0,.int .i64 a2_1,.string a2_2,.int .i64 a2_3] 26 (0,0)))∧Aside0 (wc.heap[m]?=some (.cells #[.int .i64 Y,.int .i64 Z,.string aa,.int .i64 ab] 29 (0,0)))∧Aside0 (wc.heap[J]?=some (.cells #[.int .i64 G,(.slice Q z.length R)] 34 (0,0)))∧Aside0 (wc.heap[y]?=some (.cells #[.int .i64 av,.int .i64 aw,.string ax,.int .i64 ay] 29 (0,0)))∧Aside0 (Below w.heap.size w wc))
 case first=>(
 have H:=b9.out
 clear b9
 obtain⟨aE,ch,H⟩:=sO H
 by_cases bZ:aE=true
 ·(
 subst bZ
 rewrite[if_pos rfl]at H
 by_cases bt:(aR !=aD)=true
 ·(
 rw[if_pos bt]at H
 have c95b0:(aR !=aD)=true:=bt
 (try(have c95b1:decide (aR=aD)=false:=by simpa using bt))
 (try(have c95b2:(aR==aD)=false:=by simpa using bt))
 (try(have c95b3:¬(aR=aD):=by simpa using bt))
 clear bt
 (first|rw[c95b0]|(simp only[i64_w,i32_w];rw[c95b0])|rw[c95b2]|skip)
 have H':=zM H
 clear H
 have gu:=a0.out
 have gv:=an.out
 have gw:=a1.out
 have gx:=ad.out
 have gy:=a2.out
 have gz:=ae.out
 have gA:=a3.out
 have gB:=ao.out
 have gC:=a4.out
 have gD:=al.out
 obtain⟨gE,gF,gG,gH,gI,gJ,gK,gL⟩:=cells4 F.out
 have gM:=ap.out
 have gN:=W.out
 have gO:=az.out
 have gP:=T.out
 have gQ:=aA.out
 have gR:=U.out
 have gS:=bP.out
 have gT:=bX.out
 obtain⟨gU,gV,gW,gX,gY,gZ,g0,g1⟩:=cells4 q.out
 go_wp2_with (first|((with_reducible refine gate_callee (f:=15) rfl ?_);refine sC (some 55) Try.func15 #[.agg #[.int .i64 av,.int .i64 aw,.string ax,.int .i64 ay],.agg #[.int .i64 Y,.int .i64 Z,.string aa,.int .i64 ab]] (laws_eqValue.calls av aw ax ay Y Z aa ab true _ ch.out) ?_;rintro e g2 ⟨rfl,hb⟩;refine⟨_,rfl,?_⟩;have aT:=zM (Kd.S_below (by(with_reducible repeat(first|apply Kd.S_alloc|apply Kd.S_drewN|apply Kd.S_drew));exact(Kd.S_mono (Kd.S_far (p:=⟨y,3,none⟩) (Kd.S_far (p:=⟨y,2,none⟩) (Kd.S_far (p:=⟨y,1,none⟩) (Kd.S_far (p:=⟨y,0,none⟩) (Kd.S_mono u.out (fun D hk=>(⟨hk,hk.2.2⟩:_∧D≠y))) (fun _ hk=>hk.2) (.int .i64 av)) (fun _ hk=>hk.2) (.int .i64 aw)) (fun _ hk=>hk.2) (.string ax)) (fun _ hk=>hk.2) (.int .i64 ay)) (fun _ h_=>h_.1))) hb);have aU:=zM (Kd.S_below (by(with_reducible repeat(first|apply Kd.S_alloc|apply Kd.S_drewN|apply Kd.S_drew));exact(Kd.S_mono (Kd.S_far (p:=⟨y,3,none⟩) (Kd.S_far (p:=⟨y,2,none⟩) (Kd.S_far (p:=⟨y,1,none⟩) (Kd.S_far (p:=⟨y,0,none⟩) (Kd.S_mono A.out (fun D hk=>(⟨hk,hk.2.2⟩:_∧D≠y))) (fun _ hk=>hk.2) (.int .i64 av)) (fun _ hk=>hk.2) (.int .i64 aw)) (fun _ hk=>hk.2) (.string ax)) (fun _ hk=>hk.2) (.int .i64 ay)) (fun _ h_=>h_.1))) hb);have aV:=zM (blk_below (g:=x) (o:= .cells #[.int .i64 a0_0,.slice A0_1 l0_1.length c0_1] 24 (0,0)) (by(with_reducible repeat(first|refine blk_drewN ?_ _|refine blk_drew ?_|refine blk_alloc ?_ _));refine blk_far ?_ an.out _;(with_reducible repeat(first|refine blk_drewN ?_ _|refine blk_drew ?_|refine blk_alloc ?_ _));refine blk_far ?_ an.out _;(with_reducible repeat(first|refine blk_drewN ?_ _|refine blk_drew ?_|refine blk_alloc ?_ _));refine blk_far ?_ an.out _;(with_reducible repeat(first|refine blk_drewN ?_ _|refine blk_drew ?_|refine blk_alloc ?_ _));refine blk_far ?_ an.out _;exact sT c.out) hb);have aW:=zM (blk_below (g:=d) (o:= .cells #[.int .i64 a1_0,.int .i64 a1_1,.string a1_2,.int .i64 a1_3] 26 (0,0)) (by(with_reducible repeat(first|refine blk_drewN ?_ _|refine blk_drew ?_|refine blk_alloc ?_ _));refine blk_far ?_ ad.out _;(with_reducible repeat(first|refine blk_drewN ?_ _|refine blk_drew ?_|refine blk_alloc ?_ _));refine blk_far ?_ ad.out _;(with_reducible repeat(first|refine blk_drewN ?_ _|refine blk_drew ?_|refine blk_alloc ?_ _));refine blk_far ?_ ad.out _;(with_reducible repeat(first|refine blk_drewN ?_ _|refine blk_drew ?_|refine blk_alloc ?_ _));refine blk_far ?_ ad.out _;exact sT a.out) hb);have aX:=zM (blk_below (g:=l) (o:= .cells #[.int .i64 a2_0,.int .i64 a2_1,.string a2_2,.int .i64 a2_3] 26 (0,0)) (by(with_reducible repeat(first|refine blk_drewN ?_ _|refine blk_drew ?_|refine blk_alloc ?_ _));refine blk_far ?_ ae.out _;(with_reducible repeat(first|refine blk_drewN ?_ _|refine blk_drew ?_|refine blk_alloc ?_ _));refine blk_far ?_ ae.out _;(with_reducible repeat(first|refine blk_drewN ?_ _|refine blk_drew ?_|refine blk_alloc ?_ _));refine blk_far ?_ ae.out _;(with_reducible repeat(first|refine blk_drewN ?_ _|refine blk_drew ?_|refine blk_alloc ?_ _));refine blk_far ?_ ae.out _;exact sT b.out) hb);have aY:=zM (blk_below (g:=m) (o:= .cells #[.int .i64 Y,.int .i64 Z,.string aa,.int .i64 ab] 29 (0,0)) (by(with_reducible repeat(first|refine blk_drewN ?_ _|refine blk_drew ?_|refine blk_alloc ?_ _));refine blk_far ?_ ao.out _;(with_reducible repeat(first|refine blk_drewN ?_ _|refine blk_drew ?_|refine blk_alloc ?_ _));refine blk_far ?_ ao.out _;(with_reducible repeat(first|refine blk_drewN ?_ _|refine blk_drew ?_|refine blk_alloc ?_ _));refine blk_far ?_ ao.out _;(with_reducible repeat(first|refine blk_drewN ?_ _|refine blk_drew ?_|refine blk_alloc ?_ _));refine blk_far ?_ ao.out _;exact sT q.out) hb);have aZ:=zM (blk_below (g:=J) (o:= .cells #[.int .i64 G,.slice Q z.length R] 34 (0,0)) (by(with_reducible repeat(first|refine blk_drewN ?_ _|refine blk_drew ?_|refine blk_alloc ?_ _));refine blk_far ?_ al.out _;(with_reducible repeat(first|refine blk_drewN ?_ _|refine blk_drew ?_|refine blk_alloc ?_ _));refine blk_far ?_ al.out _;(with_reducible repeat(first|refine blk_drewN ?_ _|refine blk_drew ?_|refine blk_alloc ?_ _));refine blk_far ?_ al.out _;(with_reducible repeat(first|refine blk_drewN ?_ _|refine blk_drew ?_|refine blk_alloc ?_ _));refine blk_far ?_ al.out _;exact sT s.out) hb);have bn:=zM (blk_below (g:=y) (o:= .cells #[.int .i64 av,.int .i64 aw,.string ax,.int .i64 ay] 29 (0,0)) (by exact sP4 (sT F.out)) hb);have bE:=sB HB hb;clear u;clear A;clear c;clear a;clear b;clear q;clear s;clear F;clear HB;have u:=aT;have A:=aU;have c:=aV;have a:=aW;have b:=aX;have q:=aY;have s:=aZ;have F:=bn;have HB:=bE;clear aT aU aV aW aX aY aZ bn bE;(try clear hb);(try clear hk)))
 go_meet
 case rel=>exact⟨_,(true),sr,H',⟨by first|omega|exact Nat.le_refl _⟩,⟨by(with_reducible repeat(first|apply Kd.S_alloc|apply Kd.S_drewN|apply Kd.S_drew));exact Kd.S_mono A.out (fun _ hk=>⟨hk.2.1,hk.2.2⟩)⟩,⟨by exact sT c.out⟩,⟨by exact sT a.out⟩,⟨by exact sT b.out⟩,⟨by exact sT q.out⟩,⟨by exact sT s.out⟩,⟨by exact sT F.out⟩,⟨sb⟩⟩)
 rw[if_neg bt]at H
 have c95b0:(aR !=aD)=false:=by simpa using bt
 (try(have c95b1:decide (aR=aD)=true:=by simpa using bt))
 (try(have c95b2:(aR==aD)=true:=by simpa using bt))
 clear bt
 (first|rw[c95b0]|(simp only[i64_w,i32_w];rw[c95b0])|rw[c95b2]|skip)
 have H':=zM H
 clear H
 have g3:=a0.out
 have g4:=an.out
 have g5:=a1.out
 have g6:=ad.out
 have g7:=a2.out
 have g8:=ae.out
 have g9:=a3.out
 have ha:=ao.out
 have hc:=a4.out
 have he:=al.out
 obtain⟨hf,hh,hj,hl,hm,hn,ho,hp⟩:=cells4 F.out
 have hq:=ap.out
 have hs:=W.out
 have ht:=az.out
 have hu:=T.out
 have hv:=aA.out
 have hw:=U.out
 have hx:=bP.out
 have hy:=bX.out
 obtain⟨hz,hA,hB,hC,hD,hE,hF,hG⟩:=cells4 q.out
 go_wp2_with (first|((with_reducible refine gate_callee (f:=15) rfl ?_);refine sC (some 55) Try.func15 #[.agg #[.int .i64 av,.int .i64 aw,.string ax,.int .i64 ay],.agg #[.int .i64 Y,.int .i64 Z,.string aa,.int .i64 ab]] (laws_eqValue.calls av aw ax ay Y Z aa ab true _ ch.out) ?_;rintro e hH ⟨rfl,hb⟩;refine⟨_,rfl,?_⟩;have aT:=zM (Kd.S_below (by(with_reducible repeat(first|apply Kd.S_alloc|apply Kd.S_drewN|apply Kd.S_drew));exact(Kd.S_mono (Kd.S_far (p:=⟨y,3,none⟩) (Kd.S_far (p:=⟨y,2,none⟩) (Kd.S_far (p:=⟨y,1,none⟩) (Kd.S_far (p:=⟨y,0,none⟩) (Kd.S_mono u.out (fun D hk=>(⟨hk,hk.2.2⟩:_∧D≠y))) (fun _ hk=>hk.2) (.int .i64 av)) (fun _ hk=>hk.2) (.int .i64 aw)) (fun _ hk=>hk.2) (.string ax)) (fun _ hk=>hk.2) (.int .i64 ay)) (fun _ h_=>h_.1))) hb);have aU:=zM (Kd.S_below (by(with_reducible repeat(first|apply Kd.S_alloc|apply Kd.S_drewN|apply Kd.S_drew));exact(Kd.S_mono (Kd.S_far (p:=⟨y,3,none⟩) (Kd.S_far (p:=⟨y,2,none⟩) (Kd.S_far (p:=⟨y,1,none⟩) (Kd.S_far (p:=⟨y,0,none⟩) (Kd.S_mono A.out (fun D hk=>(⟨hk,hk.2.2⟩:_∧D≠y))) (fun _ hk=>hk.2) (.int .i64 av)) (fun _ hk=>hk.2) (.int .i64 aw)) (fun _ hk=>hk.2) (.string ax)) (fun _ hk=>hk.2) (.int .i64 ay)) (fun _ h_=>h_.1))) hb);have aV:=zM (blk_below (g:=x) (o:= .cells #[.int .i64 a0_0,.slice A0_1 l0_1.length c0_1] 24 (0,0)) (by(with_reducible repeat(first|refine blk_drewN ?_ _|refine blk_drew ?_|refine blk_alloc ?_ _));refine blk_far ?_ an.out _;(with_reducible repeat(first|refine blk_drewN ?_ _|refine blk_drew ?_|refine blk_alloc ?_ _));refine blk_far ?_ an.out _;(with_reducible repeat(first|refine blk_drewN ?_ _|refine blk_drew ?_|refine blk_alloc ?_ _));refine blk_far ?_ an.out _;(with_reducible repeat(first|refine blk_drewN ?_ _|refine blk_drew ?_|refine blk_alloc ?_ _));refine blk_far ?_ an.out _;exact sT c.out) hb);have aW:=zM (blk_below (g:=d) (o:= .cells #[.int .i64 a1_0,.int .i64 a1_1,.string a1_2,.int .i64 a1_3] 26 (0,0)) (by(with_reducible repeat(first|refine blk_drewN ?_ _|refine blk_drew ?_|refine blk_alloc ?_ _));refine blk_far ?_ ad.out _;(with_reducible repeat(first|refine blk_drewN ?_ _|refine blk_drew ?_|refine blk_alloc ?_ _));refine blk_far ?_ ad.out _;(with_reducible repeat(first|refine blk_drewN ?_ _|refine blk_drew ?_|refine blk_alloc ?_ _));refine blk_far ?_ ad.out _;(with_reducible repeat(first|refine blk_drewN ?_ _|refine blk_drew ?_|refine blk_alloc ?_ _));refine blk_far ?_ ad.out _;exact sT a.out) hb);have aX:=zM (blk_below (g:=l) (o:= .cells #[.int .i64 a2_0,.int .i64 a2_1,.string a2_2,.int .i64 a2_3] 26 (0,0)) (by(with_reducible repeat(first|refine blk_drewN ?_ _|refine blk_drew ?_|refine blk_alloc ?_ _));refine blk_far ?_ ae.out _;(with_reducible repeat(first|refine blk_drewN ?_ _|refine blk_drew ?_|refine blk_alloc ?_ _));refine blk_far ?_ ae.out _;(with_reducible repeat(first|refine blk_drewN ?_ _|refine blk_drew ?_|refine blk_alloc ?_ _));refine blk_far ?_ ae.out _;(with_reducible repeat(first|refine blk_drewN ?_ _|refine blk_drew ?_|refine blk_alloc ?_ _));refine blk_far ?_ ae.out _;exact sT b.out) hb);have aY:=zM (blk_below (g:=m) (o:= .cells #[.int .i64 Y,.int .i64 Z,.string aa,.int .i64 ab] 29 (0,0)) (by(with_reducible repeat(first|refine blk_drewN ?_ _|refine blk_drew ?_|refine blk_alloc ?_ _));refine blk_far ?_ ao.out _;(with_reducible repeat(first|refine blk_drewN ?_ _|refine blk_drew ?_|refine blk_alloc ?_ _));refine blk_far ?_ ao.out _;(with_reducible repeat(first|refine blk_drewN ?_ _|refine blk_drew ?_|refine blk_alloc ?_ _));refine blk_far ?_ ao.out _;(with_reducible repeat(first|refine blk_drewN ?_ _|refine blk_drew ?_|refine blk_alloc ?_ _));refine blk_far ?_ ao.out _;exact sT q.out) hb);have aZ:=zM (blk_below (g:=J) (o:= .cells #[.int .i64 G,.slice Q z.length R] 34 (0,0)) (by(with_reducible repeat(first|refine blk_drewN ?_ _|refine blk_drew ?_|refine blk_alloc ?_ _));refine blk_far ?_ al.out _;(with_reducible repeat(first|refine blk_drewN ?_ _|refine blk_drew ?_|refine blk_alloc ?_ _));refine blk_far ?_ al.out _;(with_reducible repeat(first|refine blk_drewN ?_ _|refine blk_drew ?_|refine blk_alloc ?_ _));refine blk_far ?_ al.out _;(with_reducible repeat(first|refine blk_drewN ?_ _|refine blk_drew ?_|refine blk_alloc ?_ _));refine blk_far ?_ al.out _;exact sT s.out) hb);have bn:=zM (blk_below (g:=y) (o:= .cells #[.int .i64 av,.int .i64 aw,.string ax,.int .i64 ay] 29 (0,0)) (by exact sP4 (sT F.out)) hb);have bE:=sB HB hb;clear u;clear A;clear c;clear a;clear b;clear q;clear s;clear F;clear HB;have u:=aT;have A:=aU;have c:=aV;have a:=aW;have b:=aX;have q:=aY;have s:=aZ;have F:=bn;have HB:=bE;clear aT aU aV aW aX aY aZ bn bE;(try clear hb);(try clear hk)))
 go_meet
 case rel=>exact⟨_,((bw !=bb)),sr,H',⟨by first|omega|exact Nat.le_refl _⟩,⟨by(with_reducible repeat(first|apply Kd.S_alloc|apply Kd.S_drewN|apply Kd.S_drew));exact Kd.S_mono A.out (fun _ hk=>⟨hk.2.1,hk.2.2⟩)⟩,⟨by exact sT c.out⟩,⟨by exact sT a.out⟩,⟨by exact sT b.out⟩,⟨by exact sT q.out⟩,⟨by exact sT s.out⟩,⟨by exact sT F.out⟩,⟨sb⟩⟩)
 replace bZ:=zB bZ
 subst bZ
 rewrite[if_neg zQ]at H
 have H':=zM H
 clear H
 have hI:=a0.out
 have hJ:=an.out
 have hL:=a1.out
 have hM:=ad.out
 have hN:=a2.out
 have hO:=ae.out
 have hP:=a3.out
 have hQ:=ao.out
 have hR:=a4.out
 have hS:=al.out
 obtain⟨hT,hU,hV,hW,hX,hY,hZ,h0⟩:=cells4 F.out
 have h1:=ap.out
 have h2:=W.out
 have h3:=az.out
 have h4:=T.out
 have h5:=aA.out
 have h6:=U.out
 have h7:=bP.out
 have h8:=bX.out
 obtain⟨h9,ia,ib,ic,ie,ig,ih,ii⟩:=cells4 q.out
 go_wp2_with (first|((with_reducible refine gate_callee (f:=15) rfl ?_);refine sC (some 55) Try.func15 #[.agg #[.int .i64 av,.int .i64 aw,.string ax,.int .i64 ay],.agg #[.int .i64 Y,.int .i64 Z,.string aa,.int .i64 ab]] (laws_eqValue.calls av aw ax ay Y Z aa ab false _ ch.out) ?_;rintro e ij ⟨rfl,hb⟩;refine⟨_,rfl,?_⟩;have aT:=zM (Kd.S_below (by(with_reducible repeat(first|apply Kd.S_alloc|apply Kd.S_drewN|apply Kd.S_drew));exact(Kd.S_mono (Kd.S_far (p:=⟨y,3,none⟩) (Kd.S_far (p:=⟨y,2,none⟩) (Kd.S_far (p:=⟨y,1,none⟩) (Kd.S_far (p:=⟨y,0,none⟩) (Kd.S_mono u.out (fun D hk=>(⟨hk,hk.2.2⟩:_∧D≠y))) (fun _ hk=>hk.2) (.int .i64 av)) (fun _ hk=>hk.2) (.int .i64 aw)) (fun _ hk=>hk.2) (.string ax)) (fun _ hk=>hk.2) (.int .i64 ay)) (fun _ h_=>h_.1))) hb);have aU:=zM (Kd.S_below (by(with_reducible repeat(first|apply Kd.S_alloc|apply Kd.S_drewN|apply Kd.S_drew));exact(Kd.S_mono (Kd.S_far (p:=⟨y,3,none⟩) (Kd.S_far (p:=⟨y,2,none⟩) (Kd.S_far (p:=⟨y,1,none⟩) (Kd.S_far (p:=⟨y,0,none⟩) (Kd.S_mono A.out (fun D hk=>(⟨hk,hk.2.2⟩:_∧D≠y))) (fun _ hk=>hk.2) (.int .i64 av)) (fun _ hk=>hk.2) (.int .i64 aw)) (fun _ hk=>hk.2) (.string ax)) (fun _ hk=>hk.2) (.int .i64 ay)) (fun _ h_=>h_.1))) hb);have aV:=zM (blk_below (g:=x) (o:= .cells #[.int .i64 a0_0,.slice A0_1 l0_1.length c0_1] 24 (0,0)) (by(with_reducible repeat(first|refine blk_drewN ?_ _|refine blk_drew ?_|refine blk_alloc ?_ _));refine blk_far ?_ an.out _;(with_reducible repeat(first|refine blk_drewN ?_ _|refine blk_drew ?_|refine blk_alloc ?_ _));refine blk_far ?_ an.out _;(with_reducible repeat(first|refine blk_drewN ?_ _|refine blk_drew ?_|refine blk_alloc ?_ _));refine blk_far ?_ an.out _;(with_reducible repeat(first|refine blk_drewN ?_ _|refine blk_drew ?_|refine blk_alloc ?_ _));refine blk_far ?_ an.out _;exact sT c.out) hb);have aW:=zM (blk_below (g:=d) (o:= .cells #[.int .i64 a1_0,.int .i64 a1_1,.string a1_2,.int .i64 a1_3] 26 (0,0)) (by(with_reducible repeat(first|refine blk_drewN ?_ _|refine blk_drew ?_|refine blk_alloc ?_ _));refine blk_far ?_ ad.out _;(with_reducible repeat(first|refine blk_drewN ?_ _|refine blk_drew ?_|refine blk_alloc ?_ _));refine blk_far ?_ ad.out _;(with_reducible repeat(first|refine blk_drewN ?_ _|refine blk_drew ?_|refine blk_alloc ?_ _));refine blk_far ?_ ad.out _;(with_reducible repeat(first|refine blk_drewN ?_ _|refine blk_drew ?_|refine blk_alloc ?_ _));refine blk_far ?_ ad.out _;exact sT a.out) hb);have aX:=zM (blk_below (g:=l) (o:= .cells #[.int .i64 a2_0,.int .i64 a2_1,.string a2_2,.int .i64 a2_3] 26 (0,0)) (by(with_reducible repeat(first|refine blk_drewN ?_ _|refine blk_drew ?_|refine blk_alloc ?_ _));refine blk_far ?_ ae.out _;(with_reducible repeat(first|refine blk_drewN ?_ _|refine blk_drew ?_|refine blk_alloc ?_ _));refine blk_far ?_ ae.out _;(with_reducible repeat(first|refine blk_drewN ?_ _|refine blk_drew ?_|refine blk_alloc ?_ _));refine blk_far ?_ ae.out _;(with_reducible repeat(first|refine blk_drewN ?_ _|refine blk_drew ?_|refine blk_alloc ?_ _));refine blk_far ?_ ae.out _;exact sT b.out) hb);have aY:=zM (blk_below (g:=m) (o:= .cells #[.int .i64 Y,.int .i64 Z,.string aa,.int .i64 ab] 29 (0,0)) (by(with_reducible repeat(first|refine blk_drewN ?_ _|refine blk_drew ?_|refine blk_alloc ?_ _));refine blk_far ?_ ao.out _;(with_reducible repeat(first|refine blk_drewN ?_ _|refine blk_drew ?_|refine blk_alloc ?_ _));refine blk_far ?_ ao.out _;(with_reducible repeat(first|refine blk_drewN ?_ _|refine blk_drew ?_|refine blk_alloc ?_ _));refine blk_far ?_ ao.out _;(with_reducible repeat(first|refine blk_drewN ?_ _|refine blk_drew ?_|refine blk_alloc ?_ _));refine blk_far ?_ ao.out _;exact sT q.out) hb);have aZ:=zM (blk_below (g:=J) (o:= .cells #[.int .i64 G,.slice Q z.length R] 34 (0,0)) (by(with_reducible repeat(first|refine blk_drewN ?_ _|refine blk_drew ?_|refine blk_alloc ?_ _));refine blk_far ?_ al.out _;(with_reducible repeat(first|refine blk_drewN ?_ _|refine blk_drew ?_|refine blk_alloc ?_ _));refine blk_far ?_ al.out _;(with_reducible repeat(first|refine blk_drewN ?_ _|refine blk_drew ?_|refine blk_alloc ?_ _));refine blk_far ?_ al.out _;(with_reducible repeat(first|refine blk_drewN ?_ _|refine blk_drew ?_|refine blk_alloc ?_ _));refine blk_far ?_ al.out _;exact sT s.out) hb);have bn:=zM (blk_below (g:=y) (o:= .cells #[.int .i64 av,.int .i64 aw,.string ax,.int .i64 ay] 29 (0,0)) (by exact sP4 (sT F.out)) hb);have bE:=sB HB hb;clear u;clear A;clear c;clear a;clear b;clear q;clear s;clear F;clear HB;have u:=aT;have A:=aU;have c:=aV;have a:=aW;have b:=aX;have q:=aY;have s:=aZ;have F:=bn;have HB:=bE;clear aT aU aV aW aX aY aZ bn bE;(try clear hb);(try clear hk)))
 go_meet
 case rel=>exact⟨_,(true),sr,H',⟨by first|omega|exact Nat.le_refl _⟩,⟨by(with_reducible repeat(first|apply Kd.S_alloc|apply Kd.S_drewN|apply Kd.S_drew));exact Kd.S_mono A.out (fun _ hk=>⟨hk.2.1,hk.2.2⟩)⟩,⟨by exact sT c.out⟩,⟨by exact sT a.out⟩,⟨by exact sT b.out⟩,⟨by exact sT q.out⟩,⟨by exact sT s.out⟩,⟨by exact sT F.out⟩,⟨sb⟩⟩)
 case rest=>(
 clear b9
 obtain⟨kq,bY,rfl,HA,ik,bu,c,a,b,q,s,F,HB⟩:=hcut
 cases kq with
 |zero=>exact absurd HA.out (by simp[laws_FnExactGetElement.j0])
 |succ kj46=>(
 have H:=HA.out
 clear HA
 simp only[laws_FnExactGetElement.j0]at H
 by_cases b0:bY=true
 ·(
 subst b0
 rewrite[if_pos rfl]at H
 exact absurd H (by simp))
 replace b0:=zB b0
 subst b0
 rewrite[if_neg zQ]at H
 replace H:=Option.bind_eq_some_iff.mp H
 obtain⟨⟨b1,b2⟩,cP,H⟩:=H
 replace H:((laws_eqHeap.f kj46 G z b1 b2).bind fun ci=>(if ci=true then(some true)else(some false)))=some true:=H
 have c6:=zM cP
 clear cP
 obtain⟨ci,c7,H⟩:=sO H
 by_cases b3:ci=true
 ·(
 subst b3
 have H1:(some true)=some true:=rfl
 clear H
 have H:=H1
 clear H1
 clear H
 try go_wp2
 replace bu:=zM (Kd.S_drew bu.out)
 replace c:=zM (blk_drew c.out)
 replace a:=zM (blk_drew a.out)
 replace b:=zM (blk_drew b.out)
 replace q:=zM (blk_drew q.out)
 replace s:=zM (blk_drew s.out)
 replace F:=zM (blk_drew F.out)
 replace HB:=zM (below_drew1 HB.out)
 refine start_ (n:=5) (S:=fun w'=>w'.cell? ⟨J,0,none⟩=some (.int .i64 G)∧w'.cell? ⟨J,1,none⟩=some (.slice Q z.length R)∧w'.cell? ⟨x,0,none⟩=some (.int .i64 a0_0)∧w'.cell? ⟨x,1,none⟩=some (.slice A0_1 l0_1.length c0_1)) (ds:=[]) #[false,false,false,false,false] (by kernel_rfl) rfl rfl ⟨(blk_cell s.out 0).trans rfl,(blk_cell s.out 1).trans rfl,(blk_cell c.out 0).trans rfl,(blk_cell c.out 1).trans rfl⟩ (fun hHeld=>?_)
 generalize wc.drew=w136 at bu c a b q s F HB hHeld ⊢
 refine take_ (i:=0) (N:=some 67) (v:=?_) (a':=?_) #[true,false,false,false,false] rfl rfl (by kernel_rfl) (fun _ _ _ h=>h) (Or.inl ⟨by rfl,?_⟩) hHeld ?_ ?_
 rotate_left
 ·(
 rintro w' ⟨s0,s1,s2,s3⟩
 go_simp
 with_reducible rfl)
 rotate_left
 ·(
 simp only[zP,i64_w,i32_w]
 rfl)
 refine take_ (i:=1) (N:=some 68) (v:=?_) (a':=?_) #[true,true,false,false,false] rfl rfl (by kernel_rfl) (fun _ _ _ h=>h) (Or.inl ⟨by rfl,?_⟩) hHeld ?_ ?_
 rotate_left
 ·(
 rintro w' ⟨s0,s1,s2,s3⟩
 go_simp
 with_reducible rfl)
 rotate_left
 ·(
 simp only[zP,i64_w,i32_w]
 rfl)
 refine one_ (i:=2) (N:=some 69) #[true,true,true,false,false] rfl rfl (by kernel_rfl) (by decide) (fun K hK=>?_)
 refine goes_ Try.func12 (by kernel_rfl) rfl #[.agg #[.int .i64 a0_0,.slice A0_1 l0_1.length c0_1]] (by rfl) rfl rfl (by(try simp only[List.map_toArray,List.map_cons,List.map_nil]);first|done|rfl|(simp only[List.length_drop,List.length_take];rfl)) ?_
 with_reducible refine(laws_toHeap.calls kj46 a0_0 _ _ l0_1 b1 b2 _ ?side1 ?side2 c6.out).mono ?_
 (case side1=>exact sD (zC bz.out HB.out))
 (case side2=>exact bA.out)
 rintro e il ⟨im,rfl,bl,hb⟩
 refine⟨_,rfl,?_⟩
 have bV:=zM (Kd.S_lower (Kd.S_newB (Kd.S_newB (Kd.S_new' bl (Kd.S_lt (sI bu.out))) (g:=m) (o:= .cells #[.int .i64 Y,.int .i64 Z,.string aa,.int .i64 ab] 29 (0,0)) (sT q.out)) (g:=y) (o:= .cells #[.int .i64 av,.int .i64 aw,.string ax,.int .i64 ay] 29 (0,0)) (sT F.out)) (below_size (by repeat(first|(with_reducible first|exact HB.out|apply below_alloc|apply pw_below_drewN|apply below_drew1|refine below_set ?_ aq.out|refine below_set ?_ ar.out|refine below_set ?_ au.out|refine below_set ?_ L.out|refine below_set ?_ bU.out|refine below_set ?_ bm.out)|exact HB.out))))
 replace bu:=zM (Kd.S_elder' (sI bu.out) (Kd.S_base bl) hb)
 replace c:=sK c hb
 replace a:=sK a hb
 replace b:=sK b hb
 replace q:=sK q hb
 replace s:=sK s hb
 replace F:=sK F hb
 replace HB:=sB HB hb
 (try clear hb)
 (try clear hb2)
 (try clear hk)
 (try clear hi)
 (try clear bl)
 obtain⟨c8,c9,cQ⟩:=Kd.S_slice bV.out
 (first|subst cQ|(injection cQ with bB bR bC;have bS:=bB.symm;have bT:=bC.symm;clear bB bR bC;subst bS;subst bT))
 refine hK.out _ _ ⟨(blk_cell s.out 0).trans rfl,(blk_cell s.out 1).trans rfl,(blk_cell c.out 0).trans rfl,(blk_cell c.out 1).trans rfl⟩ (fun hHeld=>?_)
 clear hK K
 refine norm_ (a':=?_) ?_ ?_
 rotate_left
 ·(
 show Act.put _ (some 69) _=_
 simp only[zP,i64_w,i32_w]
 rfl)
 refine one_ (i:=3) (N:=some 70) #[true,true,true,true,false] rfl rfl (by kernel_rfl) (by decide) (fun K hK=>?_)
 refine goes_ Try.func16 (by kernel_rfl) rfl #[.agg #[.int .i64 G,.slice Q z.length R],.agg #[.int .i64 b1,.slice c8 b2.length c9]] (by rfl) rfl rfl (by(try simp only[List.map_toArray,List.map_cons,List.map_nil]);first|done|rfl|(simp only[List.length_drop,List.length_take];rfl)) ?_
 with_reducible refine(laws_eqHeap.calls kj46 G _ _ z b1 _ _ b2 true _ ?side1 ?side2 ?side3 ?side4 c7.out).mono ?_
 (case side1=>exact sD ((Kd.S_reads' bu.out).2.2))
 (case side2=>exact(Kd.S_reads' bu.out).2.1)
 (case side3=>exact sD ((Kd.S_reads' bV.out).2.2))
 (case side4=>exact(Kd.S_reads' bV.out).2.1)
 rintro e ip ⟨rfl,hb⟩
 refine⟨_,rfl,?_⟩
 replace bu:=zM (Kd.S_below (sI bu.out) hb)
 replace bV:=zM (Kd.S_below (sI bV.out) hb)
 replace c:=sK c hb
 replace a:=sK a hb
 replace b:=sK b hb
 replace q:=sK q hb
 replace s:=sK s hb
 replace F:=sK F hb
 replace HB:=sB HB hb
 (try clear hb)
 (try clear hb2)
 (try clear hk)
 (try clear hi)
 refine hK.out _ _ ⟨(blk_cell s.out 0).trans rfl,(blk_cell s.out 1).trans rfl,(blk_cell c.out 0).trans rfl,(blk_cell c.out 1).trans rfl⟩ (fun hHeld=>?_)
 clear hK K
 refine norm_ (a':=?_) ?_ ?_
 rotate_left
 ·(
 show Act.put _ (some 70) _=_
 simp only[zP,i64_w,i32_w]
 rfl)
 refine pure_ (i:=4) (N:=some 71) (v:=?_) (a':=?_) #[true,true,true,true,true] rfl rfl (by kernel_rfl) (fun _ _ _ h=>h) (Or.inl ⟨by rfl,?_⟩) ?_ ?_
 rotate_left
 ·(
 intro w'
 go_simp
 with_reducible rfl)
 rotate_left
 ·(
 simp only[zP,i64_w,i32_w]
 rfl)
 refine done_ (by kernel_rfl) ?_
 try go_wp2
 go_ret
 exact⟨sq,sb⟩)
 replace b3:=zB b3
 subst b3
 rewrite[if_neg zQ]at H
 exact absurd H (by simp)))
end Go.Proofs.Ytengilknjiobiaa.PFnExactGetElement
