/- Printed functions: laws_FnExactRefsOf. -/
import Derived.Test.YtengilknjiobiaaYRoP0
import Derived.Test.YtengilknjiobiaaYRoP1
import Derived.Test.YtengilknjiobiaaYRoP2
import Derived.Test.YtengilknjiobiaaYRoP9
import Derived.Test.YtengilknjiobiaaYRoP11
import Derived.Test.YtengilknjiobiaaYRoP17
import Derived.Test.YtengilknjiobiaaYRoP18
import Derived.Test.YtengilknjiobiaaYRoP19
import Derived.Test.YtengilknjiobiaaYRoP20
namespace Go.Proofs.Ytengilknjiobiaa.PFnExactRefsOf
open Go.RowKit Go.Proofs.YtengilknjiobiaaG Go.Proofs.YtengilknjiobiaaW.PrintWords Go.Proofs.YtengilknjiobiaaW.PrintLast Go.Proofs.YtengilknjiobiaaW.PrintMore
attribute [local go_sem] max2_int min2_int max_two min_two max_three min_three max_four min_four
set_option linter.unusedVariables false
set_option linter.unusedSimpArgs false
def laws_FnExactRefsOf.j0 : Nat → List Int → List Int → Bool → Int → Int → ByteArray → Int → List (S26) → List (S26) → Int → Int → ByteArray → Int → Option (Bool)
 |0,_,_,_,_,_,_,_,_,_,_,_,_,_=>none
 |k+1,x4,x6,x42,x466000,x466001,x466002,x466003,x466004,x466005,x466006,x466007,x466008,x466009=>if x42=true then(some false)else((laws_markInt64S.f k x6 1).bind fun bt522=>((laws_heldInt64S.f k bt522.2 1).bind fun t524=>(if t524<0 then(some false)else(if t524=bt522.1 then((laws_toObject.f k x466000 x466001 x466002 x466003 x466004 x466005 x466006 x466007 x466008 x466009).bind fun bt525=>((impl_RefsOf.f k bt525.1 bt525.2.1 bt525.2.2.1 bt525.2.2.2.1 bt525.2.2.2.2.1 bt525.2.2.2.2.2.1 bt525.2.2.2.2.2.2.1 bt525.2.2.2.2.2.2.2.1 bt525.2.2.2.2.2.2.2.2.1 bt525.2.2.2.2.2.2.2.2.2).bind fun t539=>((laws_eqInt64S.f k t539 x4).bind fun t542=>(if t542=true then((laws_heldInt64S.f k bt522.2 1).bind fun t543=>(if t543<0 then(some false)else(if t543=bt522.1 then(some true)else(some false))))else(some false)))))else(some false)))))
def laws_FnExactRefsOf.f (k:Nat) (a0_0:Int) (a0_1:Int) (a0_2:ByteArray) (a0_3:Int) (l0_4:List (S26)) (l0_5:List (S26)) (a0_6:Int) (a0_7:Int) (a0_8:ByteArray) (a0_9:Int):Option (Bool):=(laws_szObject.f k a0_0 a0_1 a0_2 a0_3 l0_4 l0_5 a0_6 a0_7 a0_8 a0_9 1048576).bind fun t466=>(if t466<0 then(some true)else((laws_toObject.f k a0_0 a0_1 a0_2 a0_3 l0_4 l0_5 a0_6 a0_7 a0_8 a0_9).bind fun bt467=>((spec_RefsOf.f k bt467.1 bt467.2.1 bt467.2.2.1 bt467.2.2.2.1 bt467.2.2.2.2.1 bt467.2.2.2.2.2.1 bt467.2.2.2.2.2.2.1 bt467.2.2.2.2.2.2.2.1 bt467.2.2.2.2.2.2.2.2.1 bt467.2.2.2.2.2.2.2.2.2).bind fun t481=>((laws_toObject.f k a0_0 a0_1 a0_2 a0_3 l0_4 l0_5 a0_6 a0_7 a0_8 a0_9).bind fun bt484=>((impl_RefsOf.f k bt484.1 bt484.2.1 bt484.2.2.1 bt484.2.2.2.1 bt484.2.2.2.2.1 bt484.2.2.2.2.2.1 bt484.2.2.2.2.2.2.1 bt484.2.2.2.2.2.2.2.1 bt484.2.2.2.2.2.2.2.2.1 bt484.2.2.2.2.2.2.2.2.2).bind fun t499=>((laws_eqInt64S.f k t499 t481).bind fun t502=>(if t502=true then((laws_toObject.f k a0_0 a0_1 a0_2 a0_3 l0_4 l0_5 a0_6 a0_7 a0_8 a0_9).bind fun bt503=>((laws_eqObject.f k bt484.1 bt484.2.1 bt484.2.2.1 bt484.2.2.2.1 bt484.2.2.2.2.1 bt484.2.2.2.2.2.1 bt484.2.2.2.2.2.2.1 bt484.2.2.2.2.2.2.2.1 bt484.2.2.2.2.2.2.2.2.1 bt484.2.2.2.2.2.2.2.2.2 bt503.1 bt503.2.1 bt503.2.2.1 bt503.2.2.2.1 bt503.2.2.2.2.1 bt503.2.2.2.2.2.1 bt503.2.2.2.2.2.2.1 bt503.2.2.2.2.2.2.2.1 bt503.2.2.2.2.2.2.2.2.1 bt503.2.2.2.2.2.2.2.2.2).bind fun t517=>(if t517=true then((laws_markObject.f k bt484.1 bt484.2.1 bt484.2.2.1 bt484.2.2.2.1 bt484.2.2.2.2.1 bt484.2.2.2.2.2.1 bt484.2.2.2.2.2.2.1 bt484.2.2.2.2.2.2.2.1 bt484.2.2.2.2.2.2.2.2.1 bt484.2.2.2.2.2.2.2.2.2 1).bind fun bt518=>(if bt518.1<0 then(laws_FnExactRefsOf.j0 k t481 t499 true a0_0 a0_1 a0_2 a0_3 l0_4 l0_5 a0_6 a0_7 a0_8 a0_9)else((laws_eqInt64S.f k t499 t481).bind fun t521=>(laws_FnExactRefsOf.j0 k t481 t499 (!t521) a0_0 a0_1 a0_2 a0_3 l0_4 l0_5 a0_6 a0_7 a0_8 a0_9))))else(some false))))else(some false))))))))
set_option maxHeartbeats 8000000 in
set_option maxRecDepth 100000 in
theorem laws_FnExactRefsOf.calls (k:Nat) (a0_0:Int) (a0_1:Int) (a0_2:ByteArray) (a0_3:Int) (A0_4:Option Addr) (c0_4:Nat) (l0_4:List (S26)) (A0_5:Option Addr) (c0_5:Nat) (l0_5:List (S26)) (a0_6:Int) (a0_7:Int) (a0_8:ByteArray) (a0_9:Int) (w:World) (hr0_4:Kd.C k26 w A0_4 l0_4.length l0_4) (hc0_4:l0_4.length≤c0_4) (hr0_5:Kd.C k26 w A0_5 l0_5.length l0_5) (hc0_5:l0_5.length≤c0_5) (h:laws_FnExactRefsOf.f k a0_0 a0_1 a0_2 a0_3 l0_4 l0_5 a0_6 a0_7 a0_8 a0_9=some true):
  Calls Try.prog 6 #[.agg #[.int .i64 a0_0,.int .i64 a0_1,.string a0_2,.int .i64 a0_3,.slice A0_4 l0_4.length c0_4,.slice A0_5 l0_5.length c0_5,.int .i64 a0_6,.int .i64 a0_7,.string a0_8,.int .i64 a0_9]] w fun e w'=>e= .returned (.bool true)∧Below w.heap.size w w':=by
 have em:=Try.underlying51
 have en:=Try.underlying56
 have aO:=zM hr0_4
 have aP:=zM hc0_4
 clear hr0_4 hc0_4
 have aQ:=zM hr0_5
 have aR:=zM hc0_5
 clear hr0_5 hc0_5
 have HB:=zM (Below.refl w.heap.size w)
 have H:((laws_szObject.f k a0_0 a0_1 a0_2 a0_3 l0_4 l0_5 a0_6 a0_7 a0_8 a0_9 1048576).bind fun aV=>(if aV<0 then(some true)else((laws_toObject.f k a0_0 a0_1 a0_2 a0_3 l0_4 l0_5 a0_6 a0_7 a0_8 a0_9).bind fun ar=>((spec_RefsOf.f k ar.1 ar.2.1 ar.2.2.1 ar.2.2.2.1 ar.2.2.2.2.1 ar.2.2.2.2.2.1 ar.2.2.2.2.2.2.1 ar.2.2.2.2.2.2.2.1 ar.2.2.2.2.2.2.2.2.1 ar.2.2.2.2.2.2.2.2.2).bind fun q=>((laws_toObject.f k a0_0 a0_1 a0_2 a0_3 l0_4 l0_5 a0_6 a0_7 a0_8 a0_9).bind fun j=>((impl_RefsOf.f k j.1 j.2.1 j.2.2.1 j.2.2.2.1 j.2.2.2.2.1 j.2.2.2.2.2.1 j.2.2.2.2.2.2.1 j.2.2.2.2.2.2.2.1 j.2.2.2.2.2.2.2.2.1 j.2.2.2.2.2.2.2.2.2).bind fun p=>((laws_eqInt64S.f k p q).bind fun aB=>(if aB=true then((laws_toObject.f k a0_0 a0_1 a0_2 a0_3 l0_4 l0_5 a0_6 a0_7 a0_8 a0_9).bind fun r=>((laws_eqObject.f k j.1 j.2.1 j.2.2.1 j.2.2.2.1 j.2.2.2.2.1 j.2.2.2.2.2.1 j.2.2.2.2.2.2.1 j.2.2.2.2.2.2.2.1 j.2.2.2.2.2.2.2.2.1 j.2.2.2.2.2.2.2.2.2 r.1 r.2.1 r.2.2.1 r.2.2.2.1 r.2.2.2.2.1 r.2.2.2.2.2.1 r.2.2.2.2.2.2.1 r.2.2.2.2.2.2.2.1 r.2.2.2.2.2.2.2.2.1 r.2.2.2.2.2.2.2.2.2).bind fun aA=>(if aA=true then((laws_markObject.f k j.1 j.2.1 j.2.2.1 j.2.2.2.1 j.2.2.2.2.1 j.2.2.2.2.2.1 j.2.2.2.2.2.2.1 j.2.2.2.2.2.2.2.1 j.2.2.2.2.2.2.2.2.1 j.2.2.2.2.2.2.2.2.2 1).bind fun aC=>(if aC.1<0 then(laws_FnExactRefsOf.j0 k q p true a0_0 a0_1 a0_2 a0_3 l0_4 l0_5 a0_6 a0_7 a0_8 a0_9)else((laws_eqInt64S.f k p q).bind fun ai=>(laws_FnExactRefsOf.j0 k q p (!ai) a0_0 a0_1 a0_2 a0_3 l0_4 l0_5 a0_6 a0_7 a0_8 a0_9))))else(some false))))else(some false)))))))))=some true:=h
 clear h
 obtain⟨aV,A2,H⟩:=sO H
 by_cases c3:aV<0
 ·(
 rw[if_pos c3]at H
 have c3b0:=zT c3
 clear c3
 clear H
 go_enter Try.func6,Try.ntmps6
 go_wp2_with (first|((with_reducible refine gate_dst (N:=1) rfl ?_);refine sV (N:=1) (cs:= #[.int .i64 a0_0,.int .i64 a0_1,.string a0_2,.int .i64 a0_3,.slice A0_4 l0_4.length c0_4,.slice A0_5 l0_5.length c0_5,.int .i64 a0_6,.int .i64 a0_7,.string a0_8,.int .i64 a0_9]) (t:=51) ?_;intro ac hg w4 hbox hb;have b:=zM (hbox);have b3:=sG HB hg;have T:=sG HB hg;replace HB:=sB HB hb;clear hb hbox hg;obtain⟨eo,ep,er,es,et,eu,ev,ew,ex,ey,ez,eA,eB,eC,eD,eE,eF,eG,eH,eI⟩:=cells10 b.out)|((with_reducible refine gate_callee (f:=25) rfl ?_);refine sC (some 13) Try.func25 #[.agg #[.int .i64 a0_0,.int .i64 a0_1,.string a0_2,.int .i64 a0_3,.slice A0_4 l0_4.length c0_4,.slice A0_5 l0_5.length c0_5,.int .i64 a0_6,.int .i64 a0_7,.string a0_8,.int .i64 a0_9],.int .i64 1048576] (laws_szObject.calls k a0_0 a0_1 a0_2 a0_3 _ _ l0_4 _ _ l0_5 a0_6 a0_7 a0_8 a0_9 1048576 aV _ ?side1 ?side2 ?side3 ?side4 A2.out) ?_;(case side1=>exact sD (zC aO.out HB.out));(case side2=>exact aP.out);(case side3=>exact sD (zC aQ.out HB.out));(case side4=>exact aR.out);rintro e w6 ⟨rfl,hb⟩;refine⟨_,rfl,?_⟩;replace b:=sK b hb;replace HB:=sB HB hb;(try clear hb)))
 go_ret
 exact⟨sq,sb⟩)
 rw[if_neg c3]at H
 have c3b0:=zF c3
 clear c3
 replace H:=Option.bind_eq_some_iff.mp H
 obtain⟨⟨bd,be,bf,bg,ad,ae,bh,bi,bj,bk⟩,bT,H⟩:=H
 replace H:((spec_RefsOf.f k bd be bf bg ad ae bh bi bj bk).bind fun q=>((laws_toObject.f k a0_0 a0_1 a0_2 a0_3 l0_4 l0_5 a0_6 a0_7 a0_8 a0_9).bind fun j=>((impl_RefsOf.f k j.1 j.2.1 j.2.2.1 j.2.2.2.1 j.2.2.2.2.1 j.2.2.2.2.2.1 j.2.2.2.2.2.2.1 j.2.2.2.2.2.2.2.1 j.2.2.2.2.2.2.2.2.1 j.2.2.2.2.2.2.2.2.2).bind fun p=>((laws_eqInt64S.f k p q).bind fun aB=>(if aB=true then((laws_toObject.f k a0_0 a0_1 a0_2 a0_3 l0_4 l0_5 a0_6 a0_7 a0_8 a0_9).bind fun r=>((laws_eqObject.f k j.1 j.2.1 j.2.2.1 j.2.2.2.1 j.2.2.2.2.1 j.2.2.2.2.2.1 j.2.2.2.2.2.2.1 j.2.2.2.2.2.2.2.1 j.2.2.2.2.2.2.2.2.1 j.2.2.2.2.2.2.2.2.2 r.1 r.2.1 r.2.2.1 r.2.2.2.1 r.2.2.2.2.1 r.2.2.2.2.2.1 r.2.2.2.2.2.2.1 r.2.2.2.2.2.2.2.1 r.2.2.2.2.2.2.2.2.1 r.2.2.2.2.2.2.2.2.2).bind fun aA=>(if aA=true then((laws_markObject.f k j.1 j.2.1 j.2.2.1 j.2.2.2.1 j.2.2.2.2.1 j.2.2.2.2.2.1 j.2.2.2.2.2.2.1 j.2.2.2.2.2.2.2.1 j.2.2.2.2.2.2.2.2.1 j.2.2.2.2.2.2.2.2.2 1).bind fun aC=>(if aC.1<0 then(laws_FnExactRefsOf.j0 k q p true a0_0 a0_1 a0_2 a0_3 l0_4 l0_5 a0_6 a0_7 a0_8 a0_9)else((laws_eqInt64S.f k p q).bind fun ai=>(laws_FnExactRefsOf.j0 k q p (!ai) a0_0 a0_1 a0_2 a0_3 l0_4 l0_5 a0_6 a0_7 a0_8 a0_9))))else(some false))))else(some false))))))=some true:=H
 have A7:=zM bT
 clear bT
 obtain⟨q,A8,H⟩:=sO H
 replace H:=Option.bind_eq_some_iff.mp H
 obtain⟨⟨U,V,W,X,x,y,Y,Z,aa,ab⟩,bU,H⟩:=H
 replace H:((impl_RefsOf.f k U V W X x y Y Z aa ab).bind fun p=>((laws_eqInt64S.f k p q).bind fun aB=>(if aB=true then((laws_toObject.f k a0_0 a0_1 a0_2 a0_3 l0_4 l0_5 a0_6 a0_7 a0_8 a0_9).bind fun r=>((laws_eqObject.f k U V W X x y Y Z aa ab r.1 r.2.1 r.2.2.1 r.2.2.2.1 r.2.2.2.2.1 r.2.2.2.2.2.1 r.2.2.2.2.2.2.1 r.2.2.2.2.2.2.2.1 r.2.2.2.2.2.2.2.2.1 r.2.2.2.2.2.2.2.2.2).bind fun aA=>(if aA=true then((laws_markObject.f k U V W X x y Y Z aa ab 1).bind fun aC=>(if aC.1<0 then(laws_FnExactRefsOf.j0 k q p true a0_0 a0_1 a0_2 a0_3 l0_4 l0_5 a0_6 a0_7 a0_8 a0_9)else((laws_eqInt64S.f k p q).bind fun ai=>(laws_FnExactRefsOf.j0 k q p (!ai) a0_0 a0_1 a0_2 a0_3 l0_4 l0_5 a0_6 a0_7 a0_8 a0_9))))else(some false))))else(some false))))=some true:=H
 have A9:=zM bU
 clear bU
 obtain⟨p,b4,H⟩:=sO H
 obtain⟨aB,b5,H⟩:=sO H
 by_cases aW:aB=true
 ·(
 subst aW
 rewrite[if_pos rfl]at H
 replace H:=Option.bind_eq_some_iff.mp H
 obtain⟨⟨bl,bm,bn,bo,aD,aE,bp,bq,br,bs⟩,bV,H⟩:=H
 replace H:((laws_eqObject.f k U V W X x y Y Z aa ab bl bm bn bo aD aE bp bq br bs).bind fun aA=>(if aA=true then((laws_markObject.f k U V W X x y Y Z aa ab 1).bind fun aC=>(if aC.1<0 then(laws_FnExactRefsOf.j0 k q p true a0_0 a0_1 a0_2 a0_3 l0_4 l0_5 a0_6 a0_7 a0_8 a0_9)else((laws_eqInt64S.f k p q).bind fun ai=>(laws_FnExactRefsOf.j0 k q p (!ai) a0_0 a0_1 a0_2 a0_3 l0_4 l0_5 a0_6 a0_7 a0_8 a0_9))))else(some false)))=some true:=H
 have b6:=zM bV
 clear bV
 obtain⟨aA,b7,H⟩:=sO H
 by_cases aX:aA=true
 ·(
 subst aX
 rewrite[if_pos rfl]at H
 replace H:=Option.bind_eq_some_iff.mp H
 obtain⟨⟨bL,bM,bN⟩,bW,H⟩:=H
 replace H:(if bL<0 then(laws_FnExactRefsOf.j0 k q p true a0_0 a0_1 a0_2 a0_3 l0_4 l0_5 a0_6 a0_7 a0_8 a0_9)else((laws_eqInt64S.f k p q).bind fun ai=>(laws_FnExactRefsOf.j0 k q p (!ai) a0_0 a0_1 a0_2 a0_3 l0_4 l0_5 a0_6 a0_7 a0_8 a0_9)))=some true:=H
 have b8:=zM bW
 clear bW
 have bO:=zM H
 clear H
 go_enter Try.func6,Try.ntmps6
 try go_wp2_with (first|((with_reducible refine gate_dst (N:=1) rfl ?_);refine sV (N:=1) (cs:= #[.int .i64 a0_0,.int .i64 a0_1,.string a0_2,.int .i64 a0_3,.slice A0_4 l0_4.length c0_4,.slice A0_5 l0_5.length c0_5,.int .i64 a0_6,.int .i64 a0_7,.string a0_8,.int .i64 a0_9]) (t:=51) ?_;intro ac hg eJ hbox hb;have b:=zM (hbox);have b3:=sG HB hg;have T:=sG HB hg;replace HB:=sB HB hb;clear hb hbox hg;obtain⟨b9,ca,cb,cc,cd,ce,cf,cg,ch,ci,cj,ck,cl,cm,cn,co,cp,cq,cr,ct⟩:=cells10 b.out)|((with_reducible refine gate_callee (f:=25) rfl ?_);refine sC (some 13) Try.func25 #[.agg #[.int .i64 a0_0,.int .i64 a0_1,.string a0_2,.int .i64 a0_3,.slice A0_4 l0_4.length c0_4,.slice A0_5 l0_5.length c0_5,.int .i64 a0_6,.int .i64 a0_7,.string a0_8,.int .i64 a0_9],.int .i64 1048576] (laws_szObject.calls k a0_0 a0_1 a0_2 a0_3 _ _ l0_4 _ _ l0_5 a0_6 a0_7 a0_8 a0_9 1048576 aV _ ?side1 ?side2 ?side3 ?side4 A2.out) ?_;(case side1=>exact sD (zC aO.out HB.out));(case side2=>exact aP.out);(case side3=>exact sD (zC aQ.out HB.out));(case side4=>exact aR.out);rintro e eK ⟨rfl,hb⟩;refine⟨_,rfl,?_⟩;replace b:=sK b hb;replace HB:=sB HB hb;(try clear hb);obtain⟨cu,cv,cw,cx,cy,cz,cA,cB,cC,cD,cE,cF,cG,cH,cI,cJ,cK,cL,cM,cN⟩:=cells10 b.out)|((with_reducible refine gate_callee (f:=27) rfl ?_);refine sC (some 17) Try.func27 #[.agg #[.int .i64 a0_0,.int .i64 a0_1,.string a0_2,.int .i64 a0_3,.slice A0_4 l0_4.length c0_4,.slice A0_5 l0_5.length c0_5,.int .i64 a0_6,.int .i64 a0_7,.string a0_8,.int .i64 a0_9]] (laws_toObject.calls k a0_0 a0_1 a0_2 a0_3 _ _ l0_4 _ _ l0_5 a0_6 a0_7 a0_8 a0_9 bd be bf bg ad ae bh bi bj bk _ ?side1 ?side2 ?side3 ?side4 A7.out) ?_;(case side1=>exact sD (zC aO.out HB.out));(case side2=>exact aP.out);(case side3=>exact sD (zC aQ.out HB.out));(case side4=>exact aR.out);rintro e eL ⟨eM,eN,rfl,z,P,hb⟩;refine⟨_,rfl,?_⟩;have B:=zM (Kd.R_lower z (below_size zzR));have D:=zM (Kd.R_lower P (below_size zzR));replace b:=sK b hb;replace HB:=sB HB hb;(try clear hb);(try clear z);(try clear P);obtain⟨au,av,cO⟩:=Kd.R_slice B.out;subst cO;obtain⟨aw,ax,cP⟩:=Kd.R_slice D.out;subst cP)|((with_reducible refine gate_callee (f:=26) rfl ?_);refine sC (some 18) Try.func26 #[.agg #[.int .i64 bd,.int .i64 be,.string bf,.int .i64 bg,.slice au ad.length av,.slice aw ae.length ax,.int .i64 bh,.int .i64 bi,.string bj,.int .i64 bk]] (spec_RefsOf.calls k bd be bf bg _ _ ad _ _ ae bh bi bj bk q _ ?side1 ?side2 ?side3 ?side4 A8.out) ?_;(case side1=>exact sD ((Kd.R_reads' B.out).2.2));(case side2=>exact(Kd.R_reads' B.out).2.1);(case side3=>exact sD ((Kd.R_reads' D.out).2.2));(case side4=>exact(Kd.R_reads' D.out).2.1);rintro e eO ⟨eP,rfl,z,hb⟩;refine⟨_,rfl,?_⟩;replace B:=zM (Kd.R_below (sE B.out) hb);replace D:=zM (Kd.R_below (sE D.out) hb);have E:=zM (Kd.R_lower z (below_size zzR));replace b:=sK b hb;replace HB:=sB HB hb;(try clear hb);(try clear z);obtain⟨cQ,cR,cS,cT,cU,cV,cW,cX,cY,cZ,c0,c1,c2,c4,c5,c6,c7,c8,c9,da⟩:=cells10 b.out)|((with_reducible refine gate_callee (f:=27) rfl ?_);refine sC (some 20) Try.func27 #[.agg #[.int .i64 a0_0,.int .i64 a0_1,.string a0_2,.int .i64 a0_3,.slice A0_4 l0_4.length c0_4,.slice A0_5 l0_5.length c0_5,.int .i64 a0_6,.int .i64 a0_7,.string a0_8,.int .i64 a0_9]] (laws_toObject.calls k a0_0 a0_1 a0_2 a0_3 _ _ l0_4 _ _ l0_5 a0_6 a0_7 a0_8 a0_9 U V W X x y Y Z aa ab _ ?side1 ?side2 ?side3 ?side4 A9.out) ?_;(case side1=>exact sD (zC aO.out HB.out));(case side2=>exact aP.out);(case side3=>exact sD (zC aQ.out HB.out));(case side4=>exact aR.out);rintro e eQ ⟨eR,eS,rfl,z,P,hb⟩;refine⟨_,rfl,?_⟩;replace E:=zM (Kd.R_below (sE E.out) hb);have s:=zM (Kd.R_lower (Kd.R_new' (Kd.R_new' z (Kd.R_lt (sE B.out))) (Kd.R_lt (sE D.out))) (below_size zzR));have u:=zM (Kd.R_lower (Kd.R_new' (Kd.R_new' P (Kd.R_lt (sE B.out))) (Kd.R_lt (sE D.out))) (below_size zzR));replace B:=zM (Kd.R_mono (Kd.R_told (Kd.R_told (Kd.R_old (sE B.out) hb) (Kd.R_base z)) (Kd.R_base P)) (fun _ A=>A.1));replace D:=zM (Kd.R_mono (Kd.R_told (Kd.R_told (Kd.R_old (sE D.out) hb) (Kd.R_base z)) (Kd.R_base P)) (fun _ A=>A.1));replace b:=sK b hb;replace HB:=sB HB hb;(try clear hb);(try clear z);(try clear P))|((with_reducible refine gate_dst (N:=5) rfl ?_);refine sV (N:=5) (cs:= #[.int .i64 0,.int .i64 0,.string (⟨#[]⟩:ByteArray),.int .i64 0,.slice none 0 0,.slice none 0 0,.int .i64 0,.int .i64 0,.string (⟨#[]⟩:ByteArray),.int .i64 0]) (t:=56) ?_;intro L hg eT hbox hb;replace B:=zM (Kd.R_below (sE B.out) hb);replace D:=zM (Kd.R_below (sE D.out) hb);replace E:=zM (Kd.R_below (sE E.out) hb);replace s:=zM (Kd.R_below (sE s.out) hb);replace u:=zM (Kd.R_below (sE u.out) hb);have d:=zM (hbox);have eU:=sG HB hg;have an:=sG HB hg;replace HB:=sB HB hb;have aj:=sN b hg;have bX:=sM b hg;replace b:=sK b hb;clear hb hbox hg;have eV:=bX.out;have eW:=aj.out;obtain⟨db,dc,dd,de,df,dg,dh,di,dj,dk,dl,dm,dn,dp,dq,dr,dt,du,dv,dw⟩:=cells10 d.out;obtain⟨M,G,dx⟩:=Kd.R_slice s.out;subst dx;obtain⟨O,I,dy⟩:=Kd.R_slice u.out;subst dy)|((with_reducible refine gate_callee (f:=28) rfl ?_);refine sC (some 22) Try.func28 #[.agg #[.int .i64 U,.int .i64 V,.string W,.int .i64 X,.slice M x.length G,.slice O y.length I,.int .i64 Y,.int .i64 Z,.string aa,.int .i64 ab]] (impl_RefsOf.calls k U V W X _ _ x _ _ y Y Z aa ab p _ ?side1 ?side2 ?side3 ?side4 b4.out) ?_;(case side1=>refine(Kd.R_reads' (e:=29) (base:=w.heap.size) (ok:=fun a=>((some a≠(.slice O y.length I:Value).ownBlock∧some a≠(.slice au ad.length av:Value).ownBlock)∧some a≠(.slice aw ae.length ax:Value).ownBlock)) (n:=x.length) (c:=G) ?_).2.2;exact(by(with_reducible repeat(first|apply Kd.R_alloc|apply Kd.R_drewN|apply Kd.R_drew));exact(Kd.R_mono (sRF10 (g:=L) (Kd.R_types s.out d.out (by decide)) (fun _ hk=>hk.2)) (fun _ A=>A.1))));(case side2=>exact(Kd.R_reads' s.out).2.1);(case side3=>refine(Kd.R_reads' (e:=29) (base:=w.heap.size) (ok:=fun a=>((some a≠(.slice M x.length G:Value).ownBlock∧some a≠(.slice au ad.length av:Value).ownBlock)∧some a≠(.slice aw ae.length ax:Value).ownBlock)) (n:=y.length) (c:=I) ?_).2.2;exact(by(with_reducible repeat(first|apply Kd.R_alloc|apply Kd.R_drewN|apply Kd.R_drew));exact(Kd.R_mono (sRF10 (g:=L) (Kd.R_types u.out d.out (by decide)) (fun _ hk=>hk.2)) (fun _ A=>A.1))));(case side4=>exact(Kd.R_reads' u.out).2.1);rintro e ag ⟨eX,rfl,z,hb⟩;refine⟨_,rfl,?_⟩;have aY:=zM (Kd.R_below (by(with_reducible repeat(first|apply Kd.R_alloc|apply Kd.R_drewN|apply Kd.R_drew));exact(Kd.R_mono (sRF10 (g:=L) (Kd.R_types B.out d.out (by decide)) (fun _ hk=>hk.2)) (fun _ A=>A.1))) hb);have aZ:=zM (Kd.R_below (by(with_reducible repeat(first|apply Kd.R_alloc|apply Kd.R_drewN|apply Kd.R_drew));exact(Kd.R_mono (sRF10 (g:=L) (Kd.R_types D.out d.out (by decide)) (fun _ hk=>hk.2)) (fun _ A=>A.1))) hb);have a0:=zM (Kd.R_elder' (by(with_reducible repeat(first|apply Kd.R_alloc|apply Kd.R_drewN|apply Kd.R_drew));exact(Kd.R_mono (sRF10 (g:=L) (Kd.R_types E.out d.out (by decide)) (fun _ hk=>hk.2)) (fun _ A=>A.1))) (Kd.R_base z) hb);have a1:=zM (Kd.R_below (by(with_reducible repeat(first|apply Kd.R_alloc|apply Kd.R_drewN|apply Kd.R_drew));exact(Kd.R_mono (sRF10 (g:=L) (Kd.R_types s.out d.out (by decide)) (fun _ hk=>hk.2)) (fun _ A=>A.1))) hb);have a2:=zM (Kd.R_below (by(with_reducible repeat(first|apply Kd.R_alloc|apply Kd.R_drewN|apply Kd.R_drew));exact(Kd.R_mono (sRF10 (g:=L) (Kd.R_types u.out d.out (by decide)) (fun _ hk=>hk.2)) (fun _ A=>A.1))) hb);have a3:=zM (Kd.R_lower (Kd.R_new' z (Kd.R_lt (by(with_reducible repeat(first|apply Kd.R_alloc|apply Kd.R_drewN|apply Kd.R_drew));exact(Kd.R_mono (sRF10 (g:=L) (Kd.R_types E.out d.out (by decide)) (fun _ hk=>hk.2)) (fun _ A=>A.1))))) (below_size zzR));have a4:=zM (blk_below (g:=ac) (o:= .cells #[.int .i64 a0_0,.int .i64 a0_1,.string a0_2,.int .i64 a0_3,.slice A0_4 l0_4.length c0_4,.slice A0_5 l0_5.length c0_5,.int .i64 a0_6,.int .i64 a0_7,.string a0_8,.int .i64 a0_9] 51 (0,0)) (by(with_reducible repeat(first|refine blk_drewN ?_ _|refine blk_drew ?_|refine blk_alloc ?_ _));refine blk_far ?_ aj.out _;(with_reducible repeat(first|refine blk_drewN ?_ _|refine blk_drew ?_|refine blk_alloc ?_ _));refine blk_far ?_ aj.out _;(with_reducible repeat(first|refine blk_drewN ?_ _|refine blk_drew ?_|refine blk_alloc ?_ _));refine blk_far ?_ aj.out _;(with_reducible repeat(first|refine blk_drewN ?_ _|refine blk_drew ?_|refine blk_alloc ?_ _));refine blk_far ?_ aj.out _;(with_reducible repeat(first|refine blk_drewN ?_ _|refine blk_drew ?_|refine blk_alloc ?_ _));refine blk_far ?_ aj.out _;(with_reducible repeat(first|refine blk_drewN ?_ _|refine blk_drew ?_|refine blk_alloc ?_ _));refine blk_far ?_ aj.out _;(with_reducible repeat(first|refine blk_drewN ?_ _|refine blk_drew ?_|refine blk_alloc ?_ _));refine blk_far ?_ aj.out _;(with_reducible repeat(first|refine blk_drewN ?_ _|refine blk_drew ?_|refine blk_alloc ?_ _));refine blk_far ?_ aj.out _;(with_reducible repeat(first|refine blk_drewN ?_ _|refine blk_drew ?_|refine blk_alloc ?_ _));refine blk_far ?_ aj.out _;(with_reducible repeat(first|refine blk_drewN ?_ _|refine blk_drew ?_|refine blk_alloc ?_ _));refine blk_far ?_ aj.out _;exact sT b.out) hb);have a5:=zM (blk_below (g:=L) (o:= .cells #[.int .i64 U,.int .i64 V,.string W,.int .i64 X,.slice M x.length G,.slice O y.length I,.int .i64 Y,.int .i64 Z,.string aa,.int .i64 ab] 56 (0,0)) (by exact sP10 (sT d.out)) hb);have a6:=sB HB hb;clear B;clear D;clear E;clear s;clear u;clear b;clear d;clear HB;have B:=aY;have D:=aZ;have E:=a0;have s:=a1;have u:=a2;have Q:=a3;have b:=a4;have d:=a5;have HB:=a6;clear aY aZ a0 a1 a2 a3 a4 a5 a6;(try clear hb);(try clear hk);(try clear z);obtain⟨ak,al,dz⟩:=Kd.R_slice Q.out;subst dz;obtain⟨aF,aG,dA⟩:=Kd.R_slice E.out;subst dA)|((with_reducible refine gate_callee (f:=29) rfl ?_);refine sC (some 25) Try.func29 #[.slice ak p.length al,.slice aF q.length aG] (laws_eqInt64S.calls k _ _ p _ _ q true _ ?side1 ?side2 ?side3 ?side4 b5.out) ?_;(case side1=>exact sD ((Kd.R_reads' Q.out).2.2));(case side2=>exact(Kd.R_reads' Q.out).2.1);(case side3=>exact sD ((Kd.R_reads' E.out).2.2));(case side4=>exact(Kd.R_reads' E.out).2.1);rintro e w' ⟨rfl,⟨nd,rfl⟩⟩;refine⟨_,rfl,?_⟩))
 (try(rw[drewN_self ag];generalize hq_:World.drewN ag _=ag;have aY:Aside0 (Kd.R k29 29 ag w.heap.size (fun a=>some a≠(.slice aw ae.length ax:Value).ownBlock∧some a≠(.slice M x.length G:Value).ownBlock∧some a≠(.slice O y.length I:Value).ownBlock) (.slice au ad.length av) ad):=⟨by rw[←hq_];exact(by(with_reducible repeat(first|apply Kd.R_alloc|apply Kd.R_drewN|apply Kd.R_drew));exact Kd.R_mono B.out (fun _ hk=>⟨hk.1.1,⟨hk.1.2,hk.2⟩⟩))⟩;have aZ:Aside0 (Kd.R k29 29 ag w.heap.size (fun a=>some a≠(.slice au ad.length av:Value).ownBlock∧some a≠(.slice M x.length G:Value).ownBlock∧some a≠(.slice O y.length I:Value).ownBlock) (.slice aw ae.length ax) ae):=⟨by rw[←hq_];exact(by(with_reducible repeat(first|apply Kd.R_alloc|apply Kd.R_drewN|apply Kd.R_drew));exact Kd.R_mono D.out (fun _ hk=>⟨hk.1.1,⟨hk.1.2,hk.2⟩⟩))⟩;have a0:Aside0 (Kd.R (Kd.int .i64) 2 ag w.heap.size (fun a=>some a≠(.slice ak p.length al:Value).ownBlock) (.slice aF q.length aG) q):=⟨by rw[←hq_];exact(by(with_reducible repeat(first|apply Kd.R_alloc|apply Kd.R_drewN|apply Kd.R_drew));exact Kd.R_mono E.out (fun _ hk=>hk.2))⟩;have a1:Aside0 (Kd.R k29 29 ag w.heap.size (fun a=>some a≠(.slice au ad.length av:Value).ownBlock∧some a≠(.slice aw ae.length ax:Value).ownBlock∧some a≠(.slice O y.length I:Value).ownBlock) (.slice M x.length G) x):=⟨by rw[←hq_];exact(by(with_reducible repeat(first|apply Kd.R_alloc|apply Kd.R_drewN|apply Kd.R_drew));exact Kd.R_mono s.out (fun _ hk=>⟨hk.1.2,⟨hk.2,hk.1.1⟩⟩))⟩;have a2:Aside0 (Kd.R k29 29 ag w.heap.size (fun a=>some a≠(.slice au ad.length av:Value).ownBlock∧some a≠(.slice aw ae.length ax:Value).ownBlock∧some a≠(.slice M x.length G:Value).ownBlock) (.slice O y.length I) y):=⟨by rw[←hq_];exact(by(with_reducible repeat(first|apply Kd.R_alloc|apply Kd.R_drewN|apply Kd.R_drew));exact Kd.R_mono u.out (fun _ hk=>⟨hk.1.2,⟨hk.2,hk.1.1⟩⟩))⟩;have a3:Aside0 (Kd.R (Kd.int .i64) 2 ag w.heap.size (fun a=>some a≠(.slice aF q.length aG:Value).ownBlock) (.slice ak p.length al) p):=⟨by rw[←hq_];exact(by(with_reducible repeat(first|apply Kd.R_alloc|apply Kd.R_drewN|apply Kd.R_drew));exact Kd.R_mono Q.out (fun _ hk=>hk.2))⟩;have a4:Aside0 (ag.heap[ac]?=some (.cells #[.int .i64 a0_0,.int .i64 a0_1,.string a0_2,.int .i64 a0_3,.slice A0_4 l0_4.length c0_4,.slice A0_5 l0_5.length c0_5,.int .i64 a0_6,.int .i64 a0_7,.string a0_8,.int .i64 a0_9] 51 (0,0))):=⟨by rw[←hq_];exact(sT b.out)⟩;have a5:Aside0 (ag.heap[L]?=some (.cells #[.int .i64 U,.int .i64 V,.string W,.int .i64 X,.slice M x.length G,.slice O y.length I,.int .i64 Y,.int .i64 Z,.string aa,.int .i64 ab] 56 (0,0))):=⟨by rw[←hq_];exact(sT d.out)⟩;have a6:Aside0 (Below w.heap.size w ag):=⟨by rw[←hq_];exact zzR⟩;clear B D E s u Q b d HB hq_;have B:=aY;have D:=aZ;have E:=a0;have s:=a1;have u:=a2;have Q:=a3;have b:=a4;have d:=a5;have HB:=a6;clear aY aZ a0 a1 a2 a3 a4 a5 a6));obtain⟨eY,eZ,e0,e1,e2,e3,e4,e5,e6,e7,e8,e9,fa,fb,fc,fd,fe,ff,fg,fh⟩:=cells10 b.out;obtain⟨fi,fj,fk,fl,fm,fn,fo,fp,fq,fr,fs,ft,fu,fv,fw,fx,fy,fz,fA,fB⟩:=cells10 d.out
 replace B:=zM (Kd.R_drew B.out)
 replace D:=zM (Kd.R_drew D.out)
 replace E:=zM (Kd.R_drew E.out)
 replace s:=zM (Kd.R_drew s.out)
 replace u:=zM (Kd.R_drew u.out)
 replace Q:=zM (Kd.R_drew Q.out)
 replace b:=zM (blk_drew b.out)
 replace d:=zM (blk_drew d.out)
 replace HB:=zM (below_drew1 HB.out)
 refine start_ (n:=5) (S:=fun w'=>w'.cell? ⟨L,0,none⟩=some (.int .i64 U)∧w'.cell? ⟨L,1,none⟩=some (.int .i64 V)∧w'.cell? ⟨L,2,none⟩=some (.string W)∧w'.cell? ⟨L,3,none⟩=some (.int .i64 X)∧w'.cell? ⟨L,4,none⟩=some (.slice M x.length G)∧w'.cell? ⟨L,5,none⟩=some (.slice O y.length I)∧w'.cell? ⟨L,6,none⟩=some (.int .i64 Y)∧w'.cell? ⟨L,7,none⟩=some (.int .i64 Z)∧w'.cell? ⟨L,8,none⟩=some (.string aa)∧w'.cell? ⟨L,9,none⟩=some (.int .i64 ab)∧w'.cell? ⟨ac,0,none⟩=some (.int .i64 a0_0)∧w'.cell? ⟨ac,1,none⟩=some (.int .i64 a0_1)∧w'.cell? ⟨ac,2,none⟩=some (.string a0_2)∧w'.cell? ⟨ac,3,none⟩=some (.int .i64 a0_3)∧w'.cell? ⟨ac,4,none⟩=some (.slice A0_4 l0_4.length c0_4)∧w'.cell? ⟨ac,5,none⟩=some (.slice A0_5 l0_5.length c0_5)∧w'.cell? ⟨ac,6,none⟩=some (.int .i64 a0_6)∧w'.cell? ⟨ac,7,none⟩=some (.int .i64 a0_7)∧w'.cell? ⟨ac,8,none⟩=some (.string a0_8)∧w'.cell? ⟨ac,9,none⟩=some (.int .i64 a0_9)) (ds:=[]) #[false,false,false,false,false] (by kernel_rfl) rfl rfl ⟨(blk_cell d.out 0).trans rfl,(blk_cell d.out 1).trans rfl,(blk_cell d.out 2).trans rfl,(blk_cell d.out 3).trans rfl,(blk_cell d.out 4).trans rfl,(blk_cell d.out 5).trans rfl,(blk_cell d.out 6).trans rfl,(blk_cell d.out 7).trans rfl,(blk_cell d.out 8).trans rfl,(blk_cell d.out 9).trans rfl,(blk_cell b.out 0).trans rfl,(blk_cell b.out 1).trans rfl,(blk_cell b.out 2).trans rfl,(blk_cell b.out 3).trans rfl,(blk_cell b.out 4).trans rfl,(blk_cell b.out 5).trans rfl,(blk_cell b.out 6).trans rfl,(blk_cell b.out 7).trans rfl,(blk_cell b.out 8).trans rfl,(blk_cell b.out 9).trans rfl⟩ (fun hHeld=>?_)
 generalize ag.drew=w36 at B D E s u Q b d HB hHeld ⊢
 refine take_ (i:=0) (N:=some 27) (v:=?_) (a':=?_) #[true,false,false,false,false] rfl rfl (by kernel_rfl) (fun _ _ _ h=>h) (Or.inl ⟨by rfl,?_⟩) hHeld ?_ ?_
 rotate_left
 ·(
 rintro w' ⟨s0,s1,s2,s3,s4,s5,s6,s7,s8,s9,dB,dC,dD,dE,dF,dG,dH,dI,dJ,dK⟩
 go_simp
 with_reducible rfl)
 rotate_left
 ·(
 simp only[zP,i64_w,i32_w]
 rfl)
 refine take_ (i:=1) (N:=some 28) (v:=?_) (a':=?_) #[true,true,false,false,false] rfl rfl (by kernel_rfl) (fun _ _ _ h=>h) (Or.inl ⟨by rfl,?_⟩) hHeld ?_ ?_
 rotate_left
 ·(
 rintro w' ⟨s0,s1,s2,s3,s4,s5,s6,s7,s8,s9,dB,dC,dD,dE,dF,dG,dH,dI,dJ,dK⟩
 go_simp
 with_reducible rfl)
 rotate_left
 ·(
 simp only[zP,i64_w,i32_w]
 rfl)
 refine one_ (i:=2) (N:=some 29) #[true,true,true,false,false] rfl rfl (by kernel_rfl) (by decide) (fun K hK=>?_)
 refine goes_ Try.func27 (by kernel_rfl) rfl #[.agg #[.int .i64 a0_0,.int .i64 a0_1,.string a0_2,.int .i64 a0_3,.slice A0_4 l0_4.length c0_4,.slice A0_5 l0_5.length c0_5,.int .i64 a0_6,.int .i64 a0_7,.string a0_8,.int .i64 a0_9]] (by rfl) rfl rfl (by(try simp only[List.map_toArray,List.map_cons,List.map_nil]);first|done|rfl|(simp only[List.length_drop,List.length_take];rfl)) ?_
 with_reducible refine(laws_toObject.calls k a0_0 a0_1 a0_2 a0_3 _ _ l0_4 _ _ l0_5 a0_6 a0_7 a0_8 a0_9 bl bm bn bo aD aE bp bq br bs _ ?side1 ?side2 ?side3 ?side4 b6.out).mono ?_
 (case side1=>exact sD (zC aO.out HB.out))
 (case side2=>exact aP.out)
 (case side3=>exact sD (zC aQ.out HB.out))
 (case side4=>exact aR.out)
 rintro e fC ⟨fD,fE,rfl,z,P,hb⟩
 refine⟨_,rfl,?_⟩
 replace E:=zM (Kd.R_below (sE E.out) hb)
 replace Q:=zM (Kd.R_below (sE Q.out) hb)
 have aH:=zM (Kd.R_lower (Kd.R_new' (Kd.R_new' (Kd.R_new' (Kd.R_new' z (Kd.R_lt (sE B.out))) (Kd.R_lt (sE D.out))) (Kd.R_lt (sE s.out))) (Kd.R_lt (sE u.out))) (below_size zzR))
 have aI:=zM (Kd.R_lower (Kd.R_new' (Kd.R_new' (Kd.R_new' (Kd.R_new' P (Kd.R_lt (sE B.out))) (Kd.R_lt (sE D.out))) (Kd.R_lt (sE s.out))) (Kd.R_lt (sE u.out))) (below_size zzR))
 replace B:=zM (Kd.R_mono (Kd.R_told (Kd.R_told (Kd.R_old (sE B.out) hb) (Kd.R_base z)) (Kd.R_base P)) (fun _ A=>A.1))
 replace D:=zM (Kd.R_mono (Kd.R_told (Kd.R_told (Kd.R_old (sE D.out) hb) (Kd.R_base z)) (Kd.R_base P)) (fun _ A=>A.1))
 replace s:=zM (Kd.R_mono (Kd.R_told (Kd.R_told (Kd.R_old (sE s.out) hb) (Kd.R_base z)) (Kd.R_base P)) (fun _ A=>A.1))
 replace u:=zM (Kd.R_mono (Kd.R_told (Kd.R_told (Kd.R_old (sE u.out) hb) (Kd.R_base z)) (Kd.R_base P)) (fun _ A=>A.1))
 replace b:=sK b hb
 replace d:=sK d hb
 replace HB:=sB HB hb
 (try clear hb)
 (try clear hb2)
 (try clear hk)
 (try clear hi)
 (try clear z)
 (try clear P)
 obtain⟨bt,bu,bY⟩:=Kd.R_slice aH.out
 (first|subst bY|(injection bY with a7 bP a8;have bQ:=a7.symm;have bR:=a8.symm;clear a7 bP a8;subst bQ;subst bR))
 obtain⟨bv,bw,bZ⟩:=Kd.R_slice aI.out
 (first|subst bZ|(injection bZ with a7 bP a8;have bQ:=a7.symm;have bR:=a8.symm;clear a7 bP a8;subst bQ;subst bR))
 refine hK.out _ _ ⟨(blk_cell d.out 0).trans rfl,(blk_cell d.out 1).trans rfl,(blk_cell d.out 2).trans rfl,(blk_cell d.out 3).trans rfl,(blk_cell d.out 4).trans rfl,(blk_cell d.out 5).trans rfl,(blk_cell d.out 6).trans rfl,(blk_cell d.out 7).trans rfl,(blk_cell d.out 8).trans rfl,(blk_cell d.out 9).trans rfl,(blk_cell b.out 0).trans rfl,(blk_cell b.out 1).trans rfl,(blk_cell b.out 2).trans rfl,(blk_cell b.out 3).trans rfl,(blk_cell b.out 4).trans rfl,(blk_cell b.out 5).trans rfl,(blk_cell b.out 6).trans rfl,(blk_cell b.out 7).trans rfl,(blk_cell b.out 8).trans rfl,(blk_cell b.out 9).trans rfl⟩ (fun hHeld=>?_)
 clear hK K
 refine norm_ (a':=?_) ?_ ?_
 rotate_left
 ·(
 show Act.put _ (some 29) _=_
 simp only[zP,i64_w,i32_w]
 rfl)
 refine one_ (i:=3) (N:=some 30) #[true,true,true,true,false] rfl rfl (by kernel_rfl) (by decide) (fun K hK=>?_)
 refine goes_ Try.func30 (by kernel_rfl) rfl #[.agg #[.int .i64 U,.int .i64 V,.string W,.int .i64 X,.slice M x.length G,.slice O y.length I,.int .i64 Y,.int .i64 Z,.string aa,.int .i64 ab],.agg #[.int .i64 bl,.int .i64 bm,.string bn,.int .i64 bo,.slice bt aD.length bu,.slice bv aE.length bw,.int .i64 bp,.int .i64 bq,.string br,.int .i64 bs]] (by rfl) rfl rfl (by(try simp only[List.map_toArray,List.map_cons,List.map_nil]);first|done|rfl|(simp only[List.length_drop,List.length_take];rfl)) ?_
 with_reducible refine(laws_eqObject.calls k U V W X _ _ x _ _ y Y Z aa ab bl bm bn bo _ _ aD _ _ aE bp bq br bs true _ ?side1 ?side2 ?side3 ?side4 ?side5 ?side6 ?side7 ?side8 b7.out).mono ?_
 (case side1=>exact sD ((Kd.R_reads' s.out).2.2))
 (case side2=>exact(Kd.R_reads' s.out).2.1)
 (case side3=>exact sD ((Kd.R_reads' u.out).2.2))
 (case side4=>exact(Kd.R_reads' u.out).2.1)
 (case side5=>exact sD ((Kd.R_reads' aH.out).2.2))
 (case side6=>exact(Kd.R_reads' aH.out).2.1)
 (case side7=>exact sD ((Kd.R_reads' aI.out).2.2))
 (case side8=>exact(Kd.R_reads' aI.out).2.1)
 rintro e fF ⟨rfl,hb⟩
 refine⟨_,rfl,?_⟩
 replace B:=zM (Kd.R_below (sE B.out) hb)
 replace D:=zM (Kd.R_below (sE D.out) hb)
 replace E:=zM (Kd.R_below (sE E.out) hb)
 replace s:=zM (Kd.R_below (sE s.out) hb)
 replace u:=zM (Kd.R_below (sE u.out) hb)
 replace Q:=zM (Kd.R_below (sE Q.out) hb)
 replace aH:=zM (Kd.R_below (sE aH.out) hb)
 replace aI:=zM (Kd.R_below (sE aI.out) hb)
 replace b:=sK b hb
 replace d:=sK d hb
 replace HB:=sB HB hb
 (try clear hb)
 (try clear hb2)
 (try clear hk)
 (try clear hi)
 refine hK.out _ _ ⟨(blk_cell d.out 0).trans rfl,(blk_cell d.out 1).trans rfl,(blk_cell d.out 2).trans rfl,(blk_cell d.out 3).trans rfl,(blk_cell d.out 4).trans rfl,(blk_cell d.out 5).trans rfl,(blk_cell d.out 6).trans rfl,(blk_cell d.out 7).trans rfl,(blk_cell d.out 8).trans rfl,(blk_cell d.out 9).trans rfl,(blk_cell b.out 0).trans rfl,(blk_cell b.out 1).trans rfl,(blk_cell b.out 2).trans rfl,(blk_cell b.out 3).trans rfl,(blk_cell b.out 4).trans rfl,(blk_cell b.out 5).trans rfl,(blk_cell b.out 6).trans rfl,(blk_cell b.out 7).trans rfl,(blk_cell b.out 8).trans rfl,(blk_cell b.out 9).trans rfl⟩ (fun hHeld=>?_)
 clear hK K
 refine norm_ (a':=?_) ?_ ?_
 rotate_left
 ·(
 show Act.put _ (some 30) _=_
 simp only[zP,i64_w,i32_w]
 rfl)
 refine pure_ (i:=4) (N:=some 31) (v:=?_) (a':=?_) #[true,true,true,true,true] rfl rfl (by kernel_rfl) (fun _ _ _ h=>h) (Or.inl ⟨by rfl,?_⟩) ?_ ?_
 rotate_left
 ·(
 intro w'
 go_simp
 with_reducible rfl)
 rotate_left
 ·(
 simp only[zP,i64_w,i32_w]
 rfl)
 refine done_ (by kernel_rfl) ?_
 obtain⟨dL,dM,dN,dO,dP,dQ,dR,dS,dT,dU,dV,dW,dX,dY,dZ,d0,d1,d2,d3,d4⟩:=cells10 d.out
 go_upto_region 14 with(first|((with_reducible refine gate_callee (f:=31) rfl ?_);refine sC (some 34) Try.func31 #[.agg #[.int .i64 U,.int .i64 V,.string W,.int .i64 X,.slice M x.length G,.slice O y.length I,.int .i64 Y,.int .i64 Z,.string aa,.int .i64 ab],.int .i64 1] (laws_markObject.calls k U V W X (fun a=>some a=(.slice M x.length G:Value).ownBlock) (.slice M x.length G) x (fun a=>some a=(.slice O y.length I:Value).ownBlock) (.slice O y.length I) y Y Z aa ab 1 bL bM bN w _ ?side1 ?side2 ?side3 ?side4 ?side5 b8.out) ?_;(case side1=>repeat(first|(with_reducible first|exact HB.out|apply below_alloc|apply pw_below_drewN|apply below_drew1|refine below_set ?_ T.out|refine below_set ?_ an.out)|exact HB.out));(case side2=>exact Kd.R_tight rfl s.out);(case side3=>exact fun a m=>(s.out.1 a m.symm).1.1.2.2);(case side4=>exact Kd.R_tight rfl u.out);(case side5=>exact fun a m=>(u.out.1 a m.symm).1.1.2.2);rintro e fG ⟨rfl,a9,b0,hb,hkp⟩;refine⟨_,rfl,?_⟩;replace b:=zM (blk_kept (sT b.out) hkp (fun F=>Or.elim F (fun m=>(fun m=>(Kd.R_ne s.out b.out (by decide)) m) m) (fun m=>(fun m=>(Kd.R_ne u.out b.out (by decide)) m) m)));replace B:=zM (Kd.R_mono (ok':=fun a=>some a≠(.slice aw ae.length ax:Value).ownBlock∧some a≠(.slice M x.length G:Value).ownBlock∧some a≠(.slice O y.length I:Value).ownBlock∧some a≠(.slice bt aD.length bu:Value).ownBlock∧some a≠(.slice bv aE.length bw:Value).ownBlock) (Kd.R_keptB (B.out) hkp (fun a l F=>Or.elim F (fun m=>(l.1.1.2.1) m) (fun m=>(l.1.1.2.2) m))) (fun a l=>⟨l.1.1.1.1,l.1.1.1.2.1,l.1.1.1.2.2,l.1.1.2,l.1.2⟩));replace D:=zM (Kd.R_mono (ok':=fun a=>some a≠(.slice au ad.length av:Value).ownBlock∧some a≠(.slice M x.length G:Value).ownBlock∧some a≠(.slice O y.length I:Value).ownBlock∧some a≠(.slice bt aD.length bu:Value).ownBlock∧some a≠(.slice bv aE.length bw:Value).ownBlock) (Kd.R_keptB (D.out) hkp (fun a l F=>Or.elim F (fun m=>(l.1.1.2.1) m) (fun m=>(l.1.1.2.2) m))) (fun a l=>⟨l.1.1.1.1,l.1.1.1.2.1,l.1.1.1.2.2,l.1.1.2,l.1.2⟩));replace E:=zM (Kd.R_mono (ok':=fun a=>some a≠(.slice ak p.length al:Value).ownBlock) (Kd.R_keptB ((Kd.R_apart' (Kd.R_apart' E.out (Kd.R_typed s.out) (by decide)) (Kd.R_typed u.out) (by decide))) hkp (fun a l F=>Or.elim F (fun m=>(l.1.2) m) (fun m=>(l.2) m))) (fun a l=>l.1.1.1));replace d:=zM (blk_kept (sT d.out) hkp (fun F=>Or.elim F (fun m=>(fun m=>(Kd.R_ne s.out d.out (by decide)) m) m) (fun m=>(fun m=>(Kd.R_ne u.out d.out (by decide)) m) m)));replace Q:=zM (Kd.R_mono (ok':=fun a=>some a≠(.slice aF q.length aG:Value).ownBlock) (Kd.R_keptB ((Kd.R_apart' (Kd.R_apart' Q.out (Kd.R_typed s.out) (by decide)) (Kd.R_typed u.out) (by decide))) hkp (fun a l F=>Or.elim F (fun m=>(l.1.2) m) (fun m=>(l.2) m))) (fun a l=>l.1.1.1));replace s:=zM (Kd.R_reok rfl a9 (fun a m=>s.out.1 a m));replace u:=zM (Kd.R_reok rfl b0 (fun a m=>u.out.1 a m));replace aH:=zM (Kd.R_mono (ok':=fun a=>some a≠(.slice au ad.length av:Value).ownBlock∧some a≠(.slice aw ae.length ax:Value).ownBlock∧some a≠(.slice M x.length G:Value).ownBlock∧some a≠(.slice O y.length I:Value).ownBlock∧some a≠(.slice bv aE.length bw:Value).ownBlock) (Kd.R_keptB (aH.out) hkp (fun a l F=>Or.elim F (fun m=>(l.1.2) m) (fun m=>(l.2) m))) (fun a l=>⟨l.1.1.1.1.2,l.1.1.1.2,l.1.1.2,l.1.2,l.1.1.1.1.1⟩));replace aI:=zM (Kd.R_mono (ok':=fun a=>some a≠(.slice au ad.length av:Value).ownBlock∧some a≠(.slice aw ae.length ax:Value).ownBlock∧some a≠(.slice M x.length G:Value).ownBlock∧some a≠(.slice O y.length I:Value).ownBlock∧some a≠(.slice bt aD.length bu:Value).ownBlock) (Kd.R_keptB (aI.out) hkp (fun a l F=>Or.elim F (fun m=>(l.1.2) m) (fun m=>(l.2) m))) (fun a l=>⟨l.1.1.1.1.2,l.1.1.1.2,l.1.1.2,l.1.2,l.1.1.1.1.1⟩));replace HB:=zM (hb);(try clear hb);(try clear hkp);(try clear a9);(try clear b0)))
 (try simp only[zP])
 go_cut [42] (fun d5 wc=>∃(kq:Nat) (bx:Bool),d5= .bool bx∧Aside0 (laws_FnExactRefsOf.j0 kq q p bx a0_0 a0_1 a0_2 a0_3 l0_4 l0_5 a0_6 a0_7 a0_8 a0_9=some true)∧Aside0 (kq≤k)∧Aside0 (Kd.R (Kd.int .i64) 2 wc w.heap.size (fun a=>some a≠((.slice ak p.length al):Value).ownBlock) (.slice aF q.length aG) q)∧Aside0 (Kd.R (Kd.int .i64) 2 wc w.heap.size (fun a=>some a≠((.slice aF q.length aG):Value).ownBlock) (.slice ak p.length al) p)∧Aside0 (Kd.R k29 29 wc w.heap.size (fun a=>some a≠((.slice O y.length I):Value).ownBlock) (.slice M x.length G) bM)∧Aside0 (Kd.R k29 29 wc w.heap.size (fun a=>some a≠((.slice M x.length G):Value).ownBlock) (.slice O y.length I) bN)∧Aside0 (wc.heap[ac]?=some (.cells #[.int .i64 a0_0,.int .i64 a0_1,.string a0_2,.int .i64 a0_3,(.slice A0_4 l0_4.length c0_4),(.slice A0_5 l0_5.length c0_5),.int .i64 a0_6,.int .i64 a0_7,.string a0_8,.int .i64 a0_9] 51 (0,0)))∧Aside0 (wc.heap[L]?=some (.cells #[.int .i64 U,.int .i64 V,.string W,.int .i64 X,(.slice M x.length G),(.slice O y.length I),.int .i64 Y,.int .i64 Z,.string aa,.int .i64 ab] 56 (0,0)))∧Aside0 (Below w.heap.size w wc))
 case first=>(
 have H:=bO.out
 clear bO
 by_cases aS:bL<0
 ·(
 rw[if_pos aS]at H
 have c43b0:=zT aS
 clear aS
 (first|rw[c43b0]|(simp only[i64_w,i32_w];rw[c43b0])|rw[c43b2]|skip)
 have H':=zM H
 clear H
 go_wp2
 go_meet
 case rel=>exact⟨_,(true),sr,H',⟨by first|omega|exact Nat.le_refl _⟩,⟨by exact sE E.out⟩,⟨by exact sE Q.out⟩,⟨by(with_reducible repeat(first|apply Kd.R_alloc|apply Kd.R_drewN|apply Kd.R_drew));exact Kd.R_mono s.out (fun _ hk=>hk.1.1.2.2)⟩,⟨by(with_reducible repeat(first|apply Kd.R_alloc|apply Kd.R_drewN|apply Kd.R_drew));exact Kd.R_mono u.out (fun _ hk=>hk.1.1.2.2)⟩,⟨by exact sT b.out⟩,⟨by exact sT d.out⟩,⟨sb⟩⟩)
 rw[if_neg aS]at H
 have c43b0:=zF aS
 clear aS
 (first|rw[c43b0]|(simp only[i64_w,i32_w];rw[c43b0])|rw[c43b2]|skip)
 obtain⟨ai,d6,H⟩:=sO H
 have H':=zM H
 clear H
 go_wp2_with (first|(go_at_call 29;(with_reducible refine(laws_eqInt64S.calls k _ _ p _ _ q ai _ ?side1 ?side2 ?side3 ?side4 d6.out).mono ?_);(case side1=>exact sD ((Kd.R_reads' Q.out).2.2));(case side2=>exact(Kd.R_reads' Q.out).2.1);(case side3=>exact sD ((Kd.R_reads' E.out).2.2));(case side4=>exact(Kd.R_reads' E.out).2.1);rintro e w' ⟨rfl,⟨nd,rfl⟩⟩))
 go_meet
 case rel=>exact⟨_,(!ai),sr,H',⟨by first|omega|exact Nat.le_refl _⟩,⟨by exact sE E.out⟩,⟨by exact sE Q.out⟩,⟨by(with_reducible repeat(first|apply Kd.R_alloc|apply Kd.R_drewN|apply Kd.R_drew));exact Kd.R_mono s.out (fun _ hk=>hk.1.1.2.2)⟩,⟨by(with_reducible repeat(first|apply Kd.R_alloc|apply Kd.R_drewN|apply Kd.R_drew));exact Kd.R_mono u.out (fun _ hk=>hk.1.1.2.2)⟩,⟨by exact sT b.out⟩,⟨by exact sT d.out⟩,⟨sb⟩⟩)
 case rest=>(
 clear bO
 try clear c3
 try clear c3b0
 try clear aW
 try clear aX
 try clear b9
 try clear ca
 try clear cb
 try clear cc
 try clear cd
 try clear ce
 try clear cf
 try clear cg
 try clear ch
 try clear ci
 try clear cu
 try clear cv
 try clear cw
 try clear cx
 try clear cy
 try clear cz
 try clear cA
 try clear cB
 try clear cC
 try clear cD
 try clear cQ
 try clear cR
 try clear cS
 try clear cT
 try clear cU
 try clear cV
 try clear cW
 try clear cX
 try clear cY
 try clear cZ
 try clear db
 try clear dc
 try clear dd
 try clear de
 try clear df
 try clear dg
 try clear dh
 try clear di
 try clear dj
 try clear dk
 try clear dL
 try clear dM
 try clear dN
 try clear dO
 try clear dP
 try clear dQ
 try clear dR
 try clear dS
 try clear dT
 try clear dU
 try clear cj
 try clear ck
 try clear cl
 try clear cm
 try clear cn
 try clear co
 try clear cp
 try clear cq
 try clear cr
 try clear ct
 try clear cE
 try clear cF
 try clear cG
 try clear cH
 try clear cI
 try clear cJ
 try clear cK
 try clear cL
 try clear cM
 try clear cN
 try clear c0
 try clear c1
 try clear c2
 try clear c4
 try clear c5
 try clear c6
 try clear c7
 try clear c8
 try clear c9
 try clear da
 try clear dl
 try clear dm
 try clear dn
 try clear dp
 try clear dq
 try clear dr
 try clear dt
 try clear du
 try clear dv
 try clear dw
 try clear dV
 try clear dW
 try clear dX
 try clear dY
 try clear dZ
 try clear d0
 try clear d1
 try clear d2
 try clear d3
 try clear d4
 obtain⟨kq,bx,rfl,HA,fH,ao,J,ap,aq,b,d,HB⟩:=hcut
 have aJ:=(Kd.R_reads' ap.out).1
 rw[aJ]at ap
 (try simp only[aJ])
 (try simp only[aJ]at b)
 (try simp only[aJ]at d)
 (try simp only[aJ]at ao)
 (try simp only[aJ]at J)
 (try simp only[aJ]at aq)
 have aK:=(Kd.R_reads' aq.out).1
 rw[aK]at aq
 (try simp only[aK])
 (try simp only[aK]at b)
 (try simp only[aK]at d)
 (try simp only[aK]at ao)
 (try simp only[aK]at J)
 (try simp only[aK]at ap)
 cases kq with
 |zero=>exact absurd HA.out (by simp[laws_FnExactRefsOf.j0])
 |succ kj16=>(
 have H:=HA.out
 clear HA
 simp only[laws_FnExactRefsOf.j0]at H
 by_cases bz:bx=true
 ·(
 subst bz
 rewrite[if_pos rfl]at H
 exact absurd H (by simp))
 replace bz:=zB bz
 subst bz
 rewrite[if_neg zQ]at H
 replace H:=Option.bind_eq_some_iff.mp H
 obtain⟨⟨af,am⟩,b1,H⟩:=H
 replace H:((laws_heldInt64S.f kj16 am 1).bind fun ay=>(if ay<0 then(some false)else(if ay=af then((laws_toObject.f kj16 a0_0 a0_1 a0_2 a0_3 l0_4 l0_5 a0_6 a0_7 a0_8 a0_9).bind fun az=>((impl_RefsOf.f kj16 az.1 az.2.1 az.2.2.1 az.2.2.2.1 az.2.2.2.2.1 az.2.2.2.2.2.1 az.2.2.2.2.2.2.1 az.2.2.2.2.2.2.2.1 az.2.2.2.2.2.2.2.2.1 az.2.2.2.2.2.2.2.2.2).bind fun aL=>((laws_eqInt64S.f kj16 aL q).bind fun ba=>(if ba=true then((laws_heldInt64S.f kj16 am 1).bind fun ah=>(if ah<0 then(some false)else(if ah=af then(some true)else(some false))))else(some false)))))else(some false))))=some true:=H
 have d7:=zM b1
 clear b1
 obtain⟨ay,d8,H⟩:=sO H
 by_cases aT:ay<0
 ·(
 rw[if_pos aT]at H
 have c48b0:=zT aT
 clear aT
 exact absurd H (by simp))
 rw[if_neg aT]at H
 have c48b0:=zF aT
 clear aT
 by_cases aM:ay=af
 ·(
 rw[if_pos aM]at H
 have c49b0:(ay==af)=true:=zE aM
 have c49b1:(ay !=af)=false:=zY aM
 clear aM
 replace H:=Option.bind_eq_some_iff.mp H
 obtain⟨⟨bA,bB,bC,bD,bE,bF,bG,bH,bI,bJ⟩,b2,H⟩:=H
 replace H:((impl_RefsOf.f kj16 bA bB bC bD bE bF bG bH bI bJ).bind fun aL=>((laws_eqInt64S.f kj16 aL q).bind fun ba=>(if ba=true then((laws_heldInt64S.f kj16 am 1).bind fun ah=>(if ah<0 then(some false)else(if ah=af then(some true)else(some false))))else(some false))))=some true:=H
 have d9:=zM b2
 clear b2
 obtain⟨aL,ea,H⟩:=sO H
 obtain⟨ba,eb,H⟩:=sO H
 by_cases bK:ba=true
 ·(
 subst bK
 rewrite[if_pos rfl]at H
 obtain⟨ah,ec,H⟩:=sO H
 by_cases aU:ah<0
 ·(
 rw[if_pos aU]at H
 have c55b0:=zT aU
 clear aU
 exact absurd H (by simp))
 rw[if_neg aU]at H
 have c55b0:=zF aU
 clear aU
 by_cases aN:ah=af
 ·(
 rw[if_pos aN]at H
 have c56b0:(ah==af)=true:=zE aN
 have c56b1:(ah !=af)=false:=zY aN
 clear aN
 clear H
 go_wp2_with (first|((with_reducible refine gate_callee (f:=32) rfl ?_);refine sC (some 45) Try.func32 #[.slice ak p.length al,.int .i64 1] (laws_markInt64S.calls kj16 (fun a=>some a=(.slice ak p.length al:Value).ownBlock) (.slice ak p.length al) p 1 af am w _ ?side1 ?side2 d7.out) ?_;(case side1=>repeat(first|(with_reducible first|exact HB.out|apply below_alloc|apply pw_below_drewN|apply below_drew1|refine below_set ?_ T.out|refine below_set ?_ an.out)|exact HB.out));(case side2=>exact Kd.R_tight rfl J.out);rintro e fI ⟨rfl,a9,hb,hkp⟩;refine⟨_,rfl,?_⟩;replace ao:=zM (Kd.R_mono (ok':=fun a=>some a≠(.slice ak p.length al:Value).ownBlock) (Kd.R_keptB (ao.out) hkp (fun a l F=>(l) F)) (fun a l=>l.1));replace ap:=zM (Kd.R_mono (ok':=fun a=>some a≠(.slice O bN.length I:Value).ownBlock) (Kd.R_keptB ((Kd.R_apart' ap.out (Kd.R_typed J.out) (by decide))) hkp (fun a l F=>(l.2) F)) (fun a l=>l.1.1));replace aq:=zM (Kd.R_mono (ok':=fun a=>some a≠(.slice M bM.length G:Value).ownBlock) (Kd.R_keptB ((Kd.R_apart' aq.out (Kd.R_typed J.out) (by decide))) hkp (fun a l F=>(l.2) F)) (fun a l=>l.1.1));replace b:=zM (blk_kept (sT b.out) hkp (fun F=>(fun m=>(Kd.R_ne J.out b.out (by decide)) m) F));replace d:=zM (blk_kept (sT d.out) hkp (fun F=>(fun m=>(Kd.R_ne J.out d.out (by decide)) m) F));replace J:=zM (Kd.R_reok rfl a9 (fun a m=>J.out.1 a m));replace HB:=zM (hb);(try clear hb);(try clear hkp);(try clear a9))|((with_reducible refine gate_callee (f:=33) rfl ?_);refine goesL_ (some 48) rfl rfl Try.func33 (by kernel_rfl) rfl #[.slice ak am.length al,.int .i64 1] rfl (by(try simp only[List.map_toArray,List.map_cons,List.map_nil]);first|done|(rw[show am.length=p.length from(Kd.R_reads' J.out).1.symm]<;>rfl)|rfl|(simp only[List.length_drop,List.length_take];rfl)) ?_;(with_reducible refine(laws_heldInt64S.calls kj16 _ _ am 1 ay _ ?side1 ?side2 d8.out).mono ?_);(case side1=>exact sD ((Kd.R_reads' J.out).2.2));(case side2=>rw[show am.length=p.length from(Kd.R_reads' J.out).1.symm];exact(Kd.R_reads' J.out).2.1);rintro e w' ⟨rfl,⟨nd,rfl⟩⟩;refine⟨_,rfl,?_⟩;have fJ:=aj.out;have fK:=bX.out;obtain⟨fL,fM,fN,fO,fP,fQ,fR,fS,fT,fU,fV,fW,fX,fY,fZ,f0,f1,f2,f3,f4⟩:=cells10 b.out)|((with_reducible refine gate_callee (f:=27) rfl ?_);refine sC (some 55) Try.func27 #[.agg #[.int .i64 a0_0,.int .i64 a0_1,.string a0_2,.int .i64 a0_3,.slice A0_4 l0_4.length c0_4,.slice A0_5 l0_5.length c0_5,.int .i64 a0_6,.int .i64 a0_7,.string a0_8,.int .i64 a0_9]] (laws_toObject.calls kj16 a0_0 a0_1 a0_2 a0_3 _ _ l0_4 _ _ l0_5 a0_6 a0_7 a0_8 a0_9 bA bB bC bD bE bF bG bH bI bJ _ ?side1 ?side2 ?side3 ?side4 d9.out) ?_;(case side1=>exact sD (zC aO.out zzR));(case side2=>exact aP.out);(case side3=>exact sD (zC aQ.out zzR));(case side4=>exact aR.out);rintro e f5 ⟨f6,f7,rfl,z,P,hb⟩;refine⟨_,rfl,?_⟩;replace ao:=zM (Kd.R_below (sE ao.out) hb);replace J:=zM (Kd.R_below (sE J.out) hb);have bb:=zM (Kd.R_lower (Kd.R_new' (Kd.R_new' z (Kd.R_lt (sE ap.out))) (Kd.R_lt (sE aq.out))) (below_size zzR));have bc:=zM (Kd.R_lower (Kd.R_new' (Kd.R_new' P (Kd.R_lt (sE ap.out))) (Kd.R_lt (sE aq.out))) (below_size zzR));replace ap:=zM (Kd.R_mono (Kd.R_told (Kd.R_told (Kd.R_old (sE ap.out) hb) (Kd.R_base z)) (Kd.R_base P)) (fun _ A=>A.1));replace aq:=zM (Kd.R_mono (Kd.R_told (Kd.R_told (Kd.R_old (sE aq.out) hb) (Kd.R_base z)) (Kd.R_base P)) (fun _ A=>A.1));replace b:=sK b hb;replace d:=sK d hb;replace HB:=sB HB hb;(try clear hb);(try clear z);(try clear P);obtain⟨ed,ee,ef⟩:=Kd.R_slice bb.out;subst ef;obtain⟨eg,eh,ei⟩:=Kd.R_slice bc.out;subst ei)|((with_reducible refine gate_callee (f:=28) rfl ?_);refine sC (some 56) Try.func28 #[.agg #[.int .i64 bA,.int .i64 bB,.string bC,.int .i64 bD,.slice ed bE.length ee,.slice eg bF.length eh,.int .i64 bG,.int .i64 bH,.string bI,.int .i64 bJ]] (impl_RefsOf.calls kj16 bA bB bC bD _ _ bE _ _ bF bG bH bI bJ aL _ ?side1 ?side2 ?side3 ?side4 ea.out) ?_;(case side1=>exact sD ((Kd.R_reads' bb.out).2.2));(case side2=>exact(Kd.R_reads' bb.out).2.1);(case side3=>exact sD ((Kd.R_reads' bc.out).2.2));(case side4=>exact(Kd.R_reads' bc.out).2.1);rintro e f8 ⟨f9,rfl,z,hb⟩;refine⟨_,rfl,?_⟩;replace ap:=zM (Kd.R_below (sE ap.out) hb);replace aq:=zM (Kd.R_below (sE aq.out) hb);replace bb:=zM (Kd.R_below (sE bb.out) hb);replace bc:=zM (Kd.R_below (sE bc.out) hb);have bS:=zM (Kd.R_lower (Kd.R_new' (Kd.R_new' z (Kd.R_lt (sE ao.out))) (Kd.R_lt (sE J.out))) (below_size zzR));replace ao:=zM (Kd.R_elder' (sE ao.out) (Kd.R_base z) hb);replace J:=zM (Kd.R_elder' (sE J.out) (Kd.R_base z) hb);replace b:=sK b hb;replace d:=sK d hb;replace HB:=sB HB hb;(try clear hb);(try clear z);obtain⟨ej,ek,el⟩:=Kd.R_slice bS.out;subst el)|((with_reducible refine gate_callee (f:=29) rfl ?_);refine sC (some 59) Try.func29 #[.slice ej aL.length ek,.slice aF q.length aG] (laws_eqInt64S.calls kj16 _ _ aL _ _ q true _ ?side1 ?side2 ?side3 ?side4 eb.out) ?_;(case side1=>exact sD ((Kd.R_reads' bS.out).2.2));(case side2=>exact(Kd.R_reads' bS.out).2.1);(case side3=>exact sD ((Kd.R_reads' ao.out).2.2));(case side4=>exact(Kd.R_reads' ao.out).2.1);rintro e w' ⟨rfl,⟨nd,rfl⟩⟩;refine⟨_,rfl,?_⟩)|((with_reducible refine gate_callee (f:=33) rfl ?_);refine goesL_ (some 63) rfl rfl Try.func33 (by kernel_rfl) rfl #[.slice ak am.length al,.int .i64 1] rfl (by(try simp only[List.map_toArray,List.map_cons,List.map_nil]);first|done|(rw[show am.length=p.length from(Kd.R_reads' J.out).1.symm]<;>rfl)|rfl|(simp only[List.length_drop,List.length_take];rfl)) ?_;(with_reducible refine(laws_heldInt64S.calls kj16 _ _ am 1 ah _ ?side1 ?side2 ec.out).mono ?_);(case side1=>exact sD ((Kd.R_reads' J.out).2.2));(case side2=>rw[show am.length=p.length from(Kd.R_reads' J.out).1.symm];exact(Kd.R_reads' J.out).2.1);rintro e w' ⟨rfl,⟨nd,rfl⟩⟩;refine⟨_,rfl,?_⟩))
 go_ret
 exact⟨sq,sb⟩)
 rw[if_neg aN]at H
 have c56b0:(ah==af)=false:=zN aN
 have c56b1:(ah !=af)=true:=zX aN
 exact absurd H (by simp))
 replace bK:=zB bK
 subst bK
 rewrite[if_neg zQ]at H
 exact absurd H (by simp))
 rw[if_neg aM]at H
 have c49b0:(ay==af)=false:=zN aM
 have c49b1:(ay !=af)=true:=zX aM
 exact absurd H (by simp))))
 replace aX:=zB aX
 subst aX
 rewrite[if_neg zQ]at H
 exact absurd H (by simp))
 replace aW:=zB aW
 subst aW
 rewrite[if_neg zQ]at H
 exact absurd H (by simp)
end Go.Proofs.Ytengilknjiobiaa.PFnExactRefsOf
