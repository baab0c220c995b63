/- Printed functions: laws_FnExactSameMemory. -/
import Derived.Test.YtnneadpahjkhgaaYSmP0
import Derived.Test.YtnneadpahjkhgaaYSmP3
import Derived.Test.YtnneadpahjkhgaaYSmP13
import Derived.Test.YtnneadpahjkhgaaYSmP16
import Derived.Test.YtnneadpahjkhgaaYSmP23
import Derived.Test.YtnneadpahjkhgaaYSmP38
namespace Go.Proofs.Ytnneadpahjkhgaa.PFnExactSameMemory
open Go.RowKit Go.Proofs.YtnneadpahjkhgaaG Go.Proofs.YtnneadpahjkhgaaW.PrintWords Go.Proofs.YtnneadpahjkhgaaW.PrintLast Go.Proofs.YtnneadpahjkhgaaW.PrintMore
attribute [local go_sem] max2_int min2_int max_two min_two max_three min_three max_four min_four
set_option linter.unusedVariables false
set_option linter.unusedSimpArgs false
def laws_FnExactSameMemory.f (k:Nat) (a0_0:Int) (l0_1:List (S166)) (l0_2:List (S134)) (l0_3:List (S136)) (l0_4:List (S138)) (l0_5:List ByteArray) (a0_6:Int) (l0_7:List ByteArray) (l0_8:List (S127)) (l0_9:List ByteArray) (a1_0:Int) (l1_1:List (S166)) (l1_2:List (S134)) (l1_3:List (S136)) (l1_4:List (S138)) (l1_5:List ByteArray) (a1_6:Int) (l1_7:List ByteArray) (l1_8:List (S127)) (l1_9:List ByteArray):Option (Bool):=(laws_szMemory.f k a0_0 l0_1 l0_2 l0_3 l0_4 l0_5 a0_6 l0_7 l0_8 l0_9 1048576).bind fun t503=>(if t503<0 then(some true)else((laws_szMemory.f k a1_0 l1_1 l1_2 l1_3 l1_4 l1_5 a1_6 l1_7 l1_8 l1_9 t503).bind fun t504=>(if t504<0 then(some true)else((laws_toMemory.f k a0_0 l0_1 l0_2 l0_3 l0_4 l0_5 a0_6 l0_7 l0_8 l0_9).bind fun bt505=>((laws_toMemory.f k a1_0 l1_1 l1_2 l1_3 l1_4 l1_5 a1_6 l1_7 l1_8 l1_9).bind fun bt531=>((spec_SameMemory.f k bt505.1 bt505.2.1 bt505.2.2.1 bt505.2.2.2.1 bt505.2.2.2.2.1 bt505.2.2.2.2.2.1 bt505.2.2.2.2.2.2.1 bt505.2.2.2.2.2.2.2.1 bt505.2.2.2.2.2.2.2.2.1 bt505.2.2.2.2.2.2.2.2.2 bt531.1 bt531.2.1 bt531.2.2.1 bt531.2.2.2.1 bt531.2.2.2.2.1 bt531.2.2.2.2.2.1 bt531.2.2.2.2.2.2.1 bt531.2.2.2.2.2.2.2.1 bt531.2.2.2.2.2.2.2.2.1 bt531.2.2.2.2.2.2.2.2.2).bind fun t557=>((laws_toMemory.f k a0_0 l0_1 l0_2 l0_3 l0_4 l0_5 a0_6 l0_7 l0_8 l0_9).bind fun bt558=>((laws_toMemory.f k a1_0 l1_1 l1_2 l1_3 l1_4 l1_5 a1_6 l1_7 l1_8 l1_9).bind fun bt585=>((impl_SameMemory.f k bt558.1 bt558.2.1 bt558.2.2.1 bt558.2.2.2.1 bt558.2.2.2.2.1 bt558.2.2.2.2.2.1 bt558.2.2.2.2.2.2.1 bt558.2.2.2.2.2.2.2.1 bt558.2.2.2.2.2.2.2.2.1 bt558.2.2.2.2.2.2.2.2.2 bt585.1 bt585.2.1 bt585.2.2.1 bt585.2.2.2.1 bt585.2.2.2.2.1 bt585.2.2.2.2.2.1 bt585.2.2.2.2.2.2.1 bt585.2.2.2.2.2.2.2.1 bt585.2.2.2.2.2.2.2.2.1 bt585.2.2.2.2.2.2.2.2.2).bind fun t612=>(if(t612 !=t557)=true then(some false)else((laws_toMemory.f k a0_0 l0_1 l0_2 l0_3 l0_4 l0_5 a0_6 l0_7 l0_8 l0_9).bind fun bt613=>((laws_eqMemory.f k bt558.1 bt558.2.1 bt558.2.2.1 bt558.2.2.2.1 bt558.2.2.2.2.1 bt558.2.2.2.2.2.1 bt558.2.2.2.2.2.2.1 bt558.2.2.2.2.2.2.2.1 bt558.2.2.2.2.2.2.2.2.1 bt558.2.2.2.2.2.2.2.2.2 bt613.1 bt613.2.1 bt613.2.2.1 bt613.2.2.2.1 bt613.2.2.2.2.1 bt613.2.2.2.2.2.1 bt613.2.2.2.2.2.2.1 bt613.2.2.2.2.2.2.2.1 bt613.2.2.2.2.2.2.2.2.1 bt613.2.2.2.2.2.2.2.2.2).bind fun t639=>(if t639=true then((laws_toMemory.f k a1_0 l1_1 l1_2 l1_3 l1_4 l1_5 a1_6 l1_7 l1_8 l1_9).bind fun bt640=>((laws_eqMemory.f k bt585.1 bt585.2.1 bt585.2.2.1 bt585.2.2.2.1 bt585.2.2.2.2.1 bt585.2.2.2.2.2.1 bt585.2.2.2.2.2.2.1 bt585.2.2.2.2.2.2.2.1 bt585.2.2.2.2.2.2.2.2.1 bt585.2.2.2.2.2.2.2.2.2 bt640.1 bt640.2.1 bt640.2.2.1 bt640.2.2.2.1 bt640.2.2.2.2.1 bt640.2.2.2.2.2.1 bt640.2.2.2.2.2.2.1 bt640.2.2.2.2.2.2.2.1 bt640.2.2.2.2.2.2.2.2.1 bt640.2.2.2.2.2.2.2.2.2).bind fun t666=>(if t666=true then(some true)else(some false))))else(some false))))))))))))))
set_option maxHeartbeats 8000000 in
set_option maxRecDepth 100000 in
theorem laws_FnExactSameMemory.calls (k:Nat) (a0_0:Int) (A0_1:Option Addr) (c0_1:Nat) (l0_1:List (S166)) (A0_2:Option Addr) (c0_2:Nat) (l0_2:List (S134)) (A0_3:Option Addr) (c0_3:Nat) (l0_3:List (S136)) (A0_4:Option Addr) (c0_4:Nat) (l0_4:List (S138)) (A0_5:Option Addr) (c0_5:Nat) (l0_5:List ByteArray) (a0_6:Int) (A0_7:Option Addr) (c0_7:Nat) (l0_7:List ByteArray) (A0_8:Option Addr) (c0_8:Nat) (l0_8:List (S127)) (A0_9:Option Addr) (c0_9:Nat) (l0_9:List ByteArray) (a1_0:Int) (A1_1:Option Addr) (c1_1:Nat) (l1_1:List (S166)) (A1_2:Option Addr) (c1_2:Nat) (l1_2:List (S134)) (A1_3:Option Addr) (c1_3:Nat) (l1_3:List (S136)) (A1_4:Option Addr) (c1_4:Nat) (l1_4:List (S138)) (A1_5:Option Addr) (c1_5:Nat) (l1_5:List ByteArray) (a1_6:Int) (A1_7:Option Addr) (c1_7:Nat) (l1_7:List ByteArray) (A1_8:Option Addr) (c1_8:Nat) (l1_8:List (S127)) (A1_9:Option Addr) (c1_9:Nat) (l1_9:List ByteArray) (w:World) (hr0_1:Kd.C k166 w A0_1 l0_1.length l0_1) (hc0_1:l0_1.length≤c0_1) (hr0_2:Kd.C k134 w A0_2 l0_2.length l0_2) (hc0_2:l0_2.length≤c0_2) (hr0_3:Kd.C k136 w A0_3 l0_3.length l0_3) (hc0_3:l0_3.length≤c0_3) (hr0_4:Kd.C k138 w A0_4 l0_4.length l0_4) (hc0_4:l0_4.length≤c0_4) (hr0_5:Kd.C Kd.string w A0_5 l0_5.length l0_5) (hc0_5:l0_5.length≤c0_5) (hr0_7:Kd.C Kd.string w A0_7 l0_7.length l0_7) (hc0_7:l0_7.length≤c0_7) (hr0_8:Kd.C k127 w A0_8 l0_8.length l0_8) (hc0_8:l0_8.length≤c0_8) (hr0_9:Kd.C Kd.string w A0_9 l0_9.length l0_9) (hc0_9:l0_9.length≤c0_9) (hr1_1:Kd.C k166 w A1_1 l1_1.length l1_1) (hc1_1:l1_1.length≤c1_1) (hr1_2:Kd.C k134 w A1_2 l1_2.length l1_2) (hc1_2:l1_2.length≤c1_2) (hr1_3:Kd.C k136 w A1_3 l1_3.length l1_3) (hc1_3:l1_3.length≤c1_3) (hr1_4:Kd.C k138 w A1_4 l1_4.length l1_4) (hc1_4:l1_4.length≤c1_4) (hr1_5:Kd.C Kd.string w A1_5 l1_5.length l1_5) (hc1_5:l1_5.length≤c1_5) (hr1_7:Kd.C Kd.string w A1_7 l1_7.length l1_7) (hc1_7:l1_7.length≤c1_7) (hr1_8:Kd.C k127 w A1_8 l1_8.length l1_8) (hc1_8:l1_8.length≤c1_8) (hr1_9:Kd.C Kd.string w A1_9 l1_9.length l1_9) (hc1_9:l1_9.length≤c1_9) (h:laws_FnExactSameMemory.f k a0_0 l0_1 l0_2 l0_3 l0_4 l0_5 a0_6 l0_7 l0_8 l0_9 a1_0 l1_1 l1_2 l1_3 l1_4 l1_5 a1_6 l1_7 l1_8 l1_9=some true):
  Calls Try.prog 7 #[.agg #[.int .i64 a0_0,.slice A0_1 l0_1.length c0_1,.slice A0_2 l0_2.length c0_2,.slice A0_3 l0_3.length c0_3,.slice A0_4 l0_4.length c0_4,.slice A0_5 l0_5.length c0_5,.int .i64 a0_6,.slice A0_7 l0_7.length c0_7,.slice A0_8 l0_8.length c0_8,.slice A0_9 l0_9.length c0_9],.agg #[.int .i64 a1_0,.slice A1_1 l1_1.length c1_1,.slice A1_2 l1_2.length c1_2,.slice A1_3 l1_3.length c1_3,.slice A1_4 l1_4.length c1_4,.slice A1_5 l1_5.length c1_5,.int .i64 a1_6,.slice A1_7 l1_7.length c1_7,.slice A1_8 l1_8.length c1_8,.slice A1_9 l1_9.length c1_9]] w fun e w'=>e= .returned (.bool true)∧Below w.heap.size w w':=by
 have gk:=Try.underlying64
 have gl:=Try.underlying71
 have bY:=zM hr0_1
 have bZ:=zM hc0_1
 clear hr0_1 hc0_1
 have b0:=zM hr0_2
 have b1:=zM hc0_2
 clear hr0_2 hc0_2
 have b2:=zM hr0_3
 have b3:=zM hc0_3
 clear hr0_3 hc0_3
 have b4:=zM hr0_4
 have b5:=zM hc0_4
 clear hr0_4 hc0_4
 have b6:=zM hr0_5
 have b7:=zM hc0_5
 clear hr0_5 hc0_5
 have b8:=zM hr0_7
 have b9:=zM hc0_7
 clear hr0_7 hc0_7
 have ca:=zM hr0_8
 have cb:=zM hc0_8
 clear hr0_8 hc0_8
 have cc:=zM hr0_9
 have cd:=zM hc0_9
 clear hr0_9 hc0_9
 have cv:=zM hr1_1
 have cw:=zM hc1_1
 clear hr1_1 hc1_1
 have cx:=zM hr1_2
 have cy:=zM hc1_2
 clear hr1_2 hc1_2
 have cz:=zM hr1_3
 have cA:=zM hc1_3
 clear hr1_3 hc1_3
 have cB:=zM hr1_4
 have cC:=zM hc1_4
 clear hr1_4 hc1_4
 have cD:=zM hr1_5
 have cE:=zM hc1_5
 clear hr1_5 hc1_5
 have cF:=zM hr1_7
 have cG:=zM hc1_7
 clear hr1_7 hc1_7
 have cH:=zM hr1_8
 have cI:=zM hc1_8
 clear hr1_8 hc1_8
 have cJ:=zM hr1_9
 have cK:=zM hc1_9
 clear hr1_9 hc1_9
 have HB:=zM (Below.refl w.heap.size w)
 have H:((laws_szMemory.f k a0_0 l0_1 l0_2 l0_3 l0_4 l0_5 a0_6 l0_7 l0_8 l0_9 1048576).bind fun bE=>(if bE<0 then(some true)else((laws_szMemory.f k a1_0 l1_1 l1_2 l1_3 l1_4 l1_5 a1_6 l1_7 l1_8 l1_9 bE).bind fun cL=>(if cL<0 then(some true)else((laws_toMemory.f k a0_0 l0_1 l0_2 l0_3 l0_4 l0_5 a0_6 l0_7 l0_8 l0_9).bind fun bN=>((laws_toMemory.f k a1_0 l1_1 l1_2 l1_3 l1_4 l1_5 a1_6 l1_7 l1_8 l1_9).bind fun aJ=>((spec_SameMemory.f k bN.1 bN.2.1 bN.2.2.1 bN.2.2.2.1 bN.2.2.2.2.1 bN.2.2.2.2.2.1 bN.2.2.2.2.2.2.1 bN.2.2.2.2.2.2.2.1 bN.2.2.2.2.2.2.2.2.1 bN.2.2.2.2.2.2.2.2.2 aJ.1 aJ.2.1 aJ.2.2.1 aJ.2.2.2.1 aJ.2.2.2.2.1 aJ.2.2.2.2.2.1 aJ.2.2.2.2.2.2.1 aJ.2.2.2.2.2.2.2.1 aJ.2.2.2.2.2.2.2.2.1 aJ.2.2.2.2.2.2.2.2.2).bind fun aO=>((laws_toMemory.f k a0_0 l0_1 l0_2 l0_3 l0_4 l0_5 a0_6 l0_7 l0_8 l0_9).bind fun I=>((laws_toMemory.f k a1_0 l1_1 l1_2 l1_3 l1_4 l1_5 a1_6 l1_7 l1_8 l1_9).bind fun y=>((impl_SameMemory.f k I.1 I.2.1 I.2.2.1 I.2.2.2.1 I.2.2.2.2.1 I.2.2.2.2.2.1 I.2.2.2.2.2.2.1 I.2.2.2.2.2.2.2.1 I.2.2.2.2.2.2.2.2.1 I.2.2.2.2.2.2.2.2.2 y.1 y.2.1 y.2.2.1 y.2.2.2.1 y.2.2.2.2.1 y.2.2.2.2.2.1 y.2.2.2.2.2.2.1 y.2.2.2.2.2.2.2.1 y.2.2.2.2.2.2.2.2.1 y.2.2.2.2.2.2.2.2.2).bind fun aK=>(if(aK !=aO)=true then(some false)else((laws_toMemory.f k a0_0 l0_1 l0_2 l0_3 l0_4 l0_5 a0_6 l0_7 l0_8 l0_9).bind fun R=>((laws_eqMemory.f k I.1 I.2.1 I.2.2.1 I.2.2.2.1 I.2.2.2.2.1 I.2.2.2.2.2.1 I.2.2.2.2.2.2.1 I.2.2.2.2.2.2.2.1 I.2.2.2.2.2.2.2.2.1 I.2.2.2.2.2.2.2.2.2 R.1 R.2.1 R.2.2.1 R.2.2.2.1 R.2.2.2.2.1 R.2.2.2.2.2.1 R.2.2.2.2.2.2.1 R.2.2.2.2.2.2.2.1 R.2.2.2.2.2.2.2.2.1 R.2.2.2.2.2.2.2.2.2).bind fun be=>(if be=true then((laws_toMemory.f k a1_0 l1_1 l1_2 l1_3 l1_4 l1_5 a1_6 l1_7 l1_8 l1_9).bind fun z=>((laws_eqMemory.f k y.1 y.2.1 y.2.2.1 y.2.2.2.1 y.2.2.2.2.1 y.2.2.2.2.2.1 y.2.2.2.2.2.2.1 y.2.2.2.2.2.2.2.1 y.2.2.2.2.2.2.2.2.1 y.2.2.2.2.2.2.2.2.2 z.1 z.2.1 z.2.2.1 z.2.2.2.1 z.2.2.2.2.1 z.2.2.2.2.2.1 z.2.2.2.2.2.2.1 z.2.2.2.2.2.2.2.1 z.2.2.2.2.2.2.2.2.1 z.2.2.2.2.2.2.2.2.2).bind fun a5=>(if a5=true then(some true)else(some false))))else(some false)))))))))))))))=some true:=h
 clear h
 obtain⟨bE,A3,H⟩:=sO H
 by_cases c4:bE<0
 ·(
 rw[if_pos c4]at H
 have c4b0:=zT c4
 clear c4
 clear H
 go_enter Try.func7,Try.ntmps7
 go_wp2_with (first|((with_reducible refine gate_dst (N:=2) rfl ?_);refine sV (N:=2) (cs:= #[.int .i64 a0_0,.slice A0_1 l0_1.length c0_1,.slice A0_2 l0_2.length c0_2,.slice A0_3 l0_3.length c0_3,.slice A0_4 l0_4.length c0_4,.slice A0_5 l0_5.length c0_5,.int .i64 a0_6,.slice A0_7 l0_7.length c0_7,.slice A0_8 l0_8.length c0_8,.slice A0_9 l0_9.length c0_9]) (t:=64) ?_;intro aE hg w5 hbox hb;have j:=zM (hbox);have ez:=sG HB hg;have L:=sG HB hg;replace HB:=sB HB hb;clear hb hbox hg)|((with_reducible refine gate_dst (N:=3) rfl ?_);refine sV (N:=3) (cs:= #[.int .i64 a1_0,.slice A1_1 l1_1.length c1_1,.slice A1_2 l1_2.length c1_2,.slice A1_3 l1_3.length c1_3,.slice A1_4 l1_4.length c1_4,.slice A1_5 l1_5.length c1_5,.int .i64 a1_6,.slice A1_7 l1_7.length c1_7,.slice A1_8 l1_8.length c1_8,.slice A1_9 l1_9.length c1_9]) (t:=64) ?_;intro aF hg w6 hbox hb;have l:=zM (hbox);have eA:=sG HB hg;have M:=sG HB hg;replace HB:=sB HB hb;have cM:=sN j hg;have cN:=sM j hg;replace j:=sK j hb;clear hb hbox hg;have gm:=cM.out;have gn:=cN.out;obtain⟨go,gp,gq,gr,gs,gu,gv,gw,gx,gy,gz,gA,gB,gC,gD,gE,gF,gG,gH,gI⟩:=cells10 j.out)|((with_reducible refine gate_callee (f:=25) rfl ?_);refine sC (some 12) Try.func25 #[.agg #[.int .i64 a0_0,.slice A0_1 l0_1.length c0_1,.slice A0_2 l0_2.length c0_2,.slice A0_3 l0_3.length c0_3,.slice A0_4 l0_4.length c0_4,.slice A0_5 l0_5.length c0_5,.int .i64 a0_6,.slice A0_7 l0_7.length c0_7,.slice A0_8 l0_8.length c0_8,.slice A0_9 l0_9.length c0_9],.int .i64 1048576] (laws_szMemory.calls k a0_0 _ _ l0_1 _ _ l0_2 _ _ l0_3 _ _ l0_4 _ _ l0_5 a0_6 _ _ l0_7 _ _ l0_8 _ _ l0_9 1048576 bE _ ?side1 ?side2 ?side3 ?side4 ?side5 ?side6 ?side7 ?side8 ?side9 ?side10 ?side11 ?side12 ?side13 ?side14 ?side15 ?side16 A3.out) ?_;(case side1=>exact sD (zC bY.out HB.out));(case side2=>exact bZ.out);(case side3=>exact sD (zC b0.out HB.out));(case side4=>exact b1.out);(case side5=>exact sD (zC b2.out HB.out));(case side6=>exact b3.out);(case side7=>exact sD (zC b4.out HB.out));(case side8=>exact b5.out);(case side9=>exact sD (zC b6.out HB.out));(case side10=>exact b7.out);(case side11=>exact sD (zC b8.out HB.out));(case side12=>exact b9.out);(case side13=>exact sD (zC ca.out HB.out));(case side14=>exact cb.out);(case side15=>exact sD (zC cc.out HB.out));(case side16=>exact cd.out);rintro e w9 ⟨rfl,hb⟩;refine⟨_,rfl,?_⟩;replace j:=sK j hb;replace l:=sK l hb;replace HB:=sB HB hb;(try clear hb)))
 go_ret
 exact⟨sq,sb⟩)
 rw[if_neg c4]at H
 have c4b0:=zF c4
 clear c4
 obtain⟨cL,eB,H⟩:=sO H
 by_cases ce:cL<0
 ·(
 rw[if_pos ce]at H
 have c11b0:=zT ce
 clear ce
 clear H
 go_enter Try.func7,Try.ntmps7
 go_wp2_with (first|((with_reducible refine gate_dst (N:=2) rfl ?_);refine sV (N:=2) (cs:= #[.int .i64 a0_0,.slice A0_1 l0_1.length c0_1,.slice A0_2 l0_2.length c0_2,.slice A0_3 l0_3.length c0_3,.slice A0_4 l0_4.length c0_4,.slice A0_5 l0_5.length c0_5,.int .i64 a0_6,.slice A0_7 l0_7.length c0_7,.slice A0_8 l0_8.length c0_8,.slice A0_9 l0_9.length c0_9]) (t:=64) ?_;intro aE hg gJ hbox hb;have j:=zM (hbox);have ez:=sG HB hg;have L:=sG HB hg;replace HB:=sB HB hb;clear hb hbox hg)|((with_reducible refine gate_dst (N:=3) rfl ?_);refine sV (N:=3) (cs:= #[.int .i64 a1_0,.slice A1_1 l1_1.length c1_1,.slice A1_2 l1_2.length c1_2,.slice A1_3 l1_3.length c1_3,.slice A1_4 l1_4.length c1_4,.slice A1_5 l1_5.length c1_5,.int .i64 a1_6,.slice A1_7 l1_7.length c1_7,.slice A1_8 l1_8.length c1_8,.slice A1_9 l1_9.length c1_9]) (t:=64) ?_;intro aF hg gK hbox hb;have l:=zM (hbox);have eA:=sG HB hg;have M:=sG HB hg;replace HB:=sB HB hb;have cM:=sN j hg;have cN:=sM j hg;replace j:=sK j hb;clear hb hbox hg;have gL:=cM.out;have gM:=cN.out;obtain⟨gN,gO,gP,gQ,gR,gS,gT,gU,gV,gW,gX,gY,gZ,g0,g1,g2,g3,g4,g5,g6⟩:=cells10 j.out)|((with_reducible refine gate_callee (f:=25) rfl ?_);refine sC (some 12) Try.func25 #[.agg #[.int .i64 a0_0,.slice A0_1 l0_1.length c0_1,.slice A0_2 l0_2.length c0_2,.slice A0_3 l0_3.length c0_3,.slice A0_4 l0_4.length c0_4,.slice A0_5 l0_5.length c0_5,.int .i64 a0_6,.slice A0_7 l0_7.length c0_7,.slice A0_8 l0_8.length c0_8,.slice A0_9 l0_9.length c0_9],.int .i64 1048576] (laws_szMemory.calls k a0_0 _ _ l0_1 _ _ l0_2 _ _ l0_3 _ _ l0_4 _ _ l0_5 a0_6 _ _ l0_7 _ _ l0_8 _ _ l0_9 1048576 bE _ ?side1 ?side2 ?side3 ?side4 ?side5 ?side6 ?side7 ?side8 ?side9 ?side10 ?side11 ?side12 ?side13 ?side14 ?side15 ?side16 A3.out) ?_;(case side1=>exact sD (zC bY.out HB.out));(case side2=>exact bZ.out);(case side3=>exact sD (zC b0.out HB.out));(case side4=>exact b1.out);(case side5=>exact sD (zC b2.out HB.out));(case side6=>exact b3.out);(case side7=>exact sD (zC b4.out HB.out));(case side8=>exact b5.out);(case side9=>exact sD (zC b6.out HB.out));(case side10=>exact b7.out);(case side11=>exact sD (zC b8.out HB.out));(case side12=>exact b9.out);(case side13=>exact sD (zC ca.out HB.out));(case side14=>exact cb.out);(case side15=>exact sD (zC cc.out HB.out));(case side16=>exact cd.out);rintro e g7 ⟨rfl,hb⟩;refine⟨_,rfl,?_⟩;replace j:=sK j hb;replace l:=sK l hb;replace HB:=sB HB hb;(try clear hb);obtain⟨g8,g9,ha,hc,hd,he,hf,hh,hj,hl,hm,hn,ho,hp,hq,hr,hs,ht,hu,hv⟩:=cells10 l.out)|((with_reducible refine gate_callee (f:=25) rfl ?_);refine sC (some 17) Try.func25 #[.agg #[.int .i64 a1_0,.slice A1_1 l1_1.length c1_1,.slice A1_2 l1_2.length c1_2,.slice A1_3 l1_3.length c1_3,.slice A1_4 l1_4.length c1_4,.slice A1_5 l1_5.length c1_5,.int .i64 a1_6,.slice A1_7 l1_7.length c1_7,.slice A1_8 l1_8.length c1_8,.slice A1_9 l1_9.length c1_9],.int .i64 bE] (laws_szMemory.calls k a1_0 _ _ l1_1 _ _ l1_2 _ _ l1_3 _ _ l1_4 _ _ l1_5 a1_6 _ _ l1_7 _ _ l1_8 _ _ l1_9 bE cL _ ?side1 ?side2 ?side3 ?side4 ?side5 ?side6 ?side7 ?side8 ?side9 ?side10 ?side11 ?side12 ?side13 ?side14 ?side15 ?side16 eB.out) ?_;(case side1=>exact sD (zC cv.out HB.out));(case side2=>exact cw.out);(case side3=>exact sD (zC cx.out HB.out));(case side4=>exact cy.out);(case side5=>exact sD (zC cz.out HB.out));(case side6=>exact cA.out);(case side7=>exact sD (zC cB.out HB.out));(case side8=>exact cC.out);(case side9=>exact sD (zC cD.out HB.out));(case side10=>exact cE.out);(case side11=>exact sD (zC cF.out HB.out));(case side12=>exact cG.out);(case side13=>exact sD (zC cH.out HB.out));(case side14=>exact cI.out);(case side15=>exact sD (zC cJ.out HB.out));(case side16=>exact cK.out);rintro e hw ⟨rfl,hb⟩;refine⟨_,rfl,?_⟩;replace j:=sK j hb;replace l:=sK l hb;replace HB:=sB HB hb;(try clear hb)))
 go_ret
 exact⟨sq,sb⟩)
 rw[if_neg ce]at H
 have c11b0:=zF ce
 clear ce
 replace H:=Option.bind_eq_some_iff.mp H
 obtain⟨⟨cO,bO,bP,bQ,bR,aP,cP,aQ,bS,aR⟩,eC,H⟩:=H
 replace H:((laws_toMemory.f k a1_0 l1_1 l1_2 l1_3 l1_4 l1_5 a1_6 l1_7 l1_8 l1_9).bind fun aJ=>((spec_SameMemory.f k cO bO bP bQ bR aP cP aQ bS aR aJ.1 aJ.2.1 aJ.2.2.1 aJ.2.2.2.1 aJ.2.2.2.2.1 aJ.2.2.2.2.2.1 aJ.2.2.2.2.2.2.1 aJ.2.2.2.2.2.2.2.1 aJ.2.2.2.2.2.2.2.2.1 aJ.2.2.2.2.2.2.2.2.2).bind fun aO=>((laws_toMemory.f k a0_0 l0_1 l0_2 l0_3 l0_4 l0_5 a0_6 l0_7 l0_8 l0_9).bind fun I=>((laws_toMemory.f k a1_0 l1_1 l1_2 l1_3 l1_4 l1_5 a1_6 l1_7 l1_8 l1_9).bind fun y=>((impl_SameMemory.f k I.1 I.2.1 I.2.2.1 I.2.2.2.1 I.2.2.2.2.1 I.2.2.2.2.2.1 I.2.2.2.2.2.2.1 I.2.2.2.2.2.2.2.1 I.2.2.2.2.2.2.2.2.1 I.2.2.2.2.2.2.2.2.2 y.1 y.2.1 y.2.2.1 y.2.2.2.1 y.2.2.2.2.1 y.2.2.2.2.2.1 y.2.2.2.2.2.2.1 y.2.2.2.2.2.2.2.1 y.2.2.2.2.2.2.2.2.1 y.2.2.2.2.2.2.2.2.2).bind fun aK=>(if(aK !=aO)=true then(some false)else((laws_toMemory.f k a0_0 l0_1 l0_2 l0_3 l0_4 l0_5 a0_6 l0_7 l0_8 l0_9).bind fun R=>((laws_eqMemory.f k I.1 I.2.1 I.2.2.1 I.2.2.2.1 I.2.2.2.2.1 I.2.2.2.2.2.1 I.2.2.2.2.2.2.1 I.2.2.2.2.2.2.2.1 I.2.2.2.2.2.2.2.2.1 I.2.2.2.2.2.2.2.2.2 R.1 R.2.1 R.2.2.1 R.2.2.2.1 R.2.2.2.2.1 R.2.2.2.2.2.1 R.2.2.2.2.2.2.1 R.2.2.2.2.2.2.2.1 R.2.2.2.2.2.2.2.2.1 R.2.2.2.2.2.2.2.2.2).bind fun be=>(if be=true then((laws_toMemory.f k a1_0 l1_1 l1_2 l1_3 l1_4 l1_5 a1_6 l1_7 l1_8 l1_9).bind fun z=>((laws_eqMemory.f k y.1 y.2.1 y.2.2.1 y.2.2.2.1 y.2.2.2.2.1 y.2.2.2.2.2.1 y.2.2.2.2.2.2.1 y.2.2.2.2.2.2.2.1 y.2.2.2.2.2.2.2.2.1 y.2.2.2.2.2.2.2.2.2 z.1 z.2.1 z.2.2.1 z.2.2.2.1 z.2.2.2.2.1 z.2.2.2.2.2.1 z.2.2.2.2.2.2.1 z.2.2.2.2.2.2.2.1 z.2.2.2.2.2.2.2.2.1 z.2.2.2.2.2.2.2.2.2).bind fun a5=>(if a5=true then(some true)else(some false))))else(some false))))))))))=some true:=H
 have ff:=zM eC
 clear eC
 replace H:=Option.bind_eq_some_iff.mp H
 obtain⟨⟨dQ,cf,cg,ch,ci,aV,dR,aW,cj,aX⟩,eD,H⟩:=H
 replace H:((spec_SameMemory.f k cO bO bP bQ bR aP cP aQ bS aR dQ cf cg ch ci aV dR aW cj aX).bind fun aO=>((laws_toMemory.f k a0_0 l0_1 l0_2 l0_3 l0_4 l0_5 a0_6 l0_7 l0_8 l0_9).bind fun I=>((laws_toMemory.f k a1_0 l1_1 l1_2 l1_3 l1_4 l1_5 a1_6 l1_7 l1_8 l1_9).bind fun y=>((impl_SameMemory.f k I.1 I.2.1 I.2.2.1 I.2.2.2.1 I.2.2.2.2.1 I.2.2.2.2.2.1 I.2.2.2.2.2.2.1 I.2.2.2.2.2.2.2.1 I.2.2.2.2.2.2.2.2.1 I.2.2.2.2.2.2.2.2.2 y.1 y.2.1 y.2.2.1 y.2.2.2.1 y.2.2.2.2.1 y.2.2.2.2.2.1 y.2.2.2.2.2.2.1 y.2.2.2.2.2.2.2.1 y.2.2.2.2.2.2.2.2.1 y.2.2.2.2.2.2.2.2.2).bind fun aK=>(if(aK !=aO)=true then(some false)else((laws_toMemory.f k a0_0 l0_1 l0_2 l0_3 l0_4 l0_5 a0_6 l0_7 l0_8 l0_9).bind fun R=>((laws_eqMemory.f k I.1 I.2.1 I.2.2.1 I.2.2.2.1 I.2.2.2.2.1 I.2.2.2.2.2.1 I.2.2.2.2.2.2.1 I.2.2.2.2.2.2.2.1 I.2.2.2.2.2.2.2.2.1 I.2.2.2.2.2.2.2.2.2 R.1 R.2.1 R.2.2.1 R.2.2.2.1 R.2.2.2.2.1 R.2.2.2.2.2.1 R.2.2.2.2.2.2.1 R.2.2.2.2.2.2.2.1 R.2.2.2.2.2.2.2.2.1 R.2.2.2.2.2.2.2.2.2).bind fun be=>(if be=true then((laws_toMemory.f k a1_0 l1_1 l1_2 l1_3 l1_4 l1_5 a1_6 l1_7 l1_8 l1_9).bind fun z=>((laws_eqMemory.f k y.1 y.2.1 y.2.2.1 y.2.2.2.1 y.2.2.2.2.1 y.2.2.2.2.2.1 y.2.2.2.2.2.2.1 y.2.2.2.2.2.2.2.1 y.2.2.2.2.2.2.2.2.1 y.2.2.2.2.2.2.2.2.2 z.1 z.2.1 z.2.2.1 z.2.2.2.1 z.2.2.2.2.1 z.2.2.2.2.2.1 z.2.2.2.2.2.2.1 z.2.2.2.2.2.2.2.1 z.2.2.2.2.2.2.2.2.1 z.2.2.2.2.2.2.2.2.2).bind fun a5=>(if a5=true then(some true)else(some false))))else(some false)))))))))=some true:=H
 have fg:=zM eD
 clear eD
 obtain⟨aO,fh,H⟩:=sO H
 replace H:=Option.bind_eq_some_iff.mp H
 obtain⟨⟨bf,a6,a7,a8,a9,aB,bg,aC,ba,aD⟩,eE,H⟩:=H
 replace H:((laws_toMemory.f k a1_0 l1_1 l1_2 l1_3 l1_4 l1_5 a1_6 l1_7 l1_8 l1_9).bind fun y=>((impl_SameMemory.f k bf a6 a7 a8 a9 aB bg aC ba aD y.1 y.2.1 y.2.2.1 y.2.2.2.1 y.2.2.2.2.1 y.2.2.2.2.2.1 y.2.2.2.2.2.2.1 y.2.2.2.2.2.2.2.1 y.2.2.2.2.2.2.2.2.1 y.2.2.2.2.2.2.2.2.2).bind fun aK=>(if(aK !=aO)=true then(some false)else((laws_toMemory.f k a0_0 l0_1 l0_2 l0_3 l0_4 l0_5 a0_6 l0_7 l0_8 l0_9).bind fun R=>((laws_eqMemory.f k bf a6 a7 a8 a9 aB bg aC ba aD R.1 R.2.1 R.2.2.1 R.2.2.2.1 R.2.2.2.2.1 R.2.2.2.2.2.1 R.2.2.2.2.2.2.1 R.2.2.2.2.2.2.2.1 R.2.2.2.2.2.2.2.2.1 R.2.2.2.2.2.2.2.2.2).bind fun be=>(if be=true then((laws_toMemory.f k a1_0 l1_1 l1_2 l1_3 l1_4 l1_5 a1_6 l1_7 l1_8 l1_9).bind fun z=>((laws_eqMemory.f k y.1 y.2.1 y.2.2.1 y.2.2.2.1 y.2.2.2.2.1 y.2.2.2.2.2.1 y.2.2.2.2.2.2.1 y.2.2.2.2.2.2.2.1 y.2.2.2.2.2.2.2.2.1 y.2.2.2.2.2.2.2.2.2 z.1 z.2.1 z.2.2.1 z.2.2.2.1 z.2.2.2.2.1 z.2.2.2.2.2.1 z.2.2.2.2.2.2.1 z.2.2.2.2.2.2.2.1 z.2.2.2.2.2.2.2.2.1 z.2.2.2.2.2.2.2.2.2).bind fun a5=>(if a5=true then(some true)else(some false))))else(some false)))))))=some true:=H
 have fi:=zM eE
 clear eE
 replace H:=Option.bind_eq_some_iff.mp H
 obtain⟨⟨bF,bh,bi,bj,bk,aG,bG,aH,bl,aI⟩,eF,H⟩:=H
 replace H:((impl_SameMemory.f k bf a6 a7 a8 a9 aB bg aC ba aD bF bh bi bj bk aG bG aH bl aI).bind fun aK=>(if(aK !=aO)=true then(some false)else((laws_toMemory.f k a0_0 l0_1 l0_2 l0_3 l0_4 l0_5 a0_6 l0_7 l0_8 l0_9).bind fun R=>((laws_eqMemory.f k bf a6 a7 a8 a9 aB bg aC ba aD R.1 R.2.1 R.2.2.1 R.2.2.2.1 R.2.2.2.2.1 R.2.2.2.2.2.1 R.2.2.2.2.2.2.1 R.2.2.2.2.2.2.2.1 R.2.2.2.2.2.2.2.2.1 R.2.2.2.2.2.2.2.2.2).bind fun be=>(if be=true then((laws_toMemory.f k a1_0 l1_1 l1_2 l1_3 l1_4 l1_5 a1_6 l1_7 l1_8 l1_9).bind fun z=>((laws_eqMemory.f k bF bh bi bj bk aG bG aH bl aI z.1 z.2.1 z.2.2.1 z.2.2.2.1 z.2.2.2.2.1 z.2.2.2.2.2.1 z.2.2.2.2.2.2.1 z.2.2.2.2.2.2.2.1 z.2.2.2.2.2.2.2.2.1 z.2.2.2.2.2.2.2.2.2).bind fun a5=>(if a5=true then(some true)else(some false))))else(some false))))))=some true:=H
 have fj:=zM eF
 clear eF
 obtain⟨aK,fk,H⟩:=sO H
 by_cases bH:(aK !=aO)=true
 ·(
 rw[if_pos bH]at H
 have c25b0:(aK !=aO)=true:=bH
 (try(have c25b1:decide (aK=aO)=false:=by simpa using bH))
 (try(have c25b2:(aK==aO)=false:=by simpa using bH))
 (try(have c25b3:¬(aK=aO):=by simpa using bH))
 clear bH
 exact absurd H (by simp))
 rw[if_neg bH]at H
 have c25b0:(aK !=aO)=false:=by simpa using bH
 (try(have c25b1:decide (aK=aO)=true:=by simpa using bH))
 (try(have c25b2:(aK==aO)=true:=by simpa using bH))
 clear bH
 replace H:=Option.bind_eq_some_iff.mp H
 obtain⟨⟨dS,dT,dU,dV,dW,dX,dY,dZ,d0,d1⟩,eG,H⟩:=H
 replace H:((laws_eqMemory.f k bf a6 a7 a8 a9 aB bg aC ba aD dS dT dU dV dW dX dY dZ d0 d1).bind fun be=>(if be=true then((laws_toMemory.f k a1_0 l1_1 l1_2 l1_3 l1_4 l1_5 a1_6 l1_7 l1_8 l1_9).bind fun z=>((laws_eqMemory.f k bF bh bi bj bk aG bG aH bl aI z.1 z.2.1 z.2.2.1 z.2.2.2.1 z.2.2.2.2.1 z.2.2.2.2.2.1 z.2.2.2.2.2.2.1 z.2.2.2.2.2.2.2.1 z.2.2.2.2.2.2.2.2.1 z.2.2.2.2.2.2.2.2.2).bind fun a5=>(if a5=true then(some true)else(some false))))else(some false)))=some true:=H
 have fl:=zM eG
 clear eG
 obtain⟨be,fm,H⟩:=sO H
 by_cases d2:be=true
 ·(
 subst d2
 rewrite[if_pos rfl]at H
 replace H:=Option.bind_eq_some_iff.mp H
 obtain⟨⟨d3,d4,d5,d6,d7,d8,d9,ea,eb,ec⟩,eH,H⟩:=H
 replace H:((laws_eqMemory.f k bF bh bi bj bk aG bG aH bl aI d3 d4 d5 d6 d7 d8 d9 ea eb ec).bind fun a5=>(if a5=true then(some true)else(some false)))=some true:=H
 have fn:=zM eH
 clear eH
 obtain⟨a5,fo,H⟩:=sO H
 by_cases ed:a5=true
 ·(
 subst ed
 have H1:(some true)=some true:=rfl
 clear H
 have H:=H1
 clear H1
 clear H
 go_enter Try.func7,Try.ntmps7
 try go_wp2_with (first|((with_reducible refine gate_dst (N:=2) rfl ?_);refine sV (N:=2) (cs:= #[.int .i64 a0_0,.slice A0_1 l0_1.length c0_1,.slice A0_2 l0_2.length c0_2,.slice A0_3 l0_3.length c0_3,.slice A0_4 l0_4.length c0_4,.slice A0_5 l0_5.length c0_5,.int .i64 a0_6,.slice A0_7 l0_7.length c0_7,.slice A0_8 l0_8.length c0_8,.slice A0_9 l0_9.length c0_9]) (t:=64) ?_;intro aE hg hx hbox hb;have j:=zM (hbox);have ez:=sG HB hg;have L:=sG HB hg;replace HB:=sB HB hb;clear hb hbox hg)|((with_reducible refine gate_dst (N:=3) rfl ?_);refine sV (N:=3) (cs:= #[.int .i64 a1_0,.slice A1_1 l1_1.length c1_1,.slice A1_2 l1_2.length c1_2,.slice A1_3 l1_3.length c1_3,.slice A1_4 l1_4.length c1_4,.slice A1_5 l1_5.length c1_5,.int .i64 a1_6,.slice A1_7 l1_7.length c1_7,.slice A1_8 l1_8.length c1_8,.slice A1_9 l1_9.length c1_9]) (t:=64) ?_;intro aF hg hy hbox hb;have l:=zM (hbox);have eA:=sG HB hg;have M:=sG HB hg;replace HB:=sB HB hb;have cM:=sN j hg;have cN:=sM j hg;replace j:=sK j hb;clear hb hbox hg;have hz:=cM.out;have hA:=cN.out;obtain⟨hB,hC,hD,hE,hF,hG,hH,hI,hJ,hL,hM,hN,hO,hP,hQ,hR,hS,hT,hU,hV⟩:=cells10 j.out)|((with_reducible refine gate_callee (f:=25) rfl ?_);refine sC (some 12) Try.func25 #[.agg #[.int .i64 a0_0,.slice A0_1 l0_1.length c0_1,.slice A0_2 l0_2.length c0_2,.slice A0_3 l0_3.length c0_3,.slice A0_4 l0_4.length c0_4,.slice A0_5 l0_5.length c0_5,.int .i64 a0_6,.slice A0_7 l0_7.length c0_7,.slice A0_8 l0_8.length c0_8,.slice A0_9 l0_9.length c0_9],.int .i64 1048576] (laws_szMemory.calls k a0_0 _ _ l0_1 _ _ l0_2 _ _ l0_3 _ _ l0_4 _ _ l0_5 a0_6 _ _ l0_7 _ _ l0_8 _ _ l0_9 1048576 bE _ ?side1 ?side2 ?side3 ?side4 ?side5 ?side6 ?side7 ?side8 ?side9 ?side10 ?side11 ?side12 ?side13 ?side14 ?side15 ?side16 A3.out) ?_;(case side1=>exact sD (zC bY.out HB.out));(case side2=>exact bZ.out);(case side3=>exact sD (zC b0.out HB.out));(case side4=>exact b1.out);(case side5=>exact sD (zC b2.out HB.out));(case side6=>exact b3.out);(case side7=>exact sD (zC b4.out HB.out));(case side8=>exact b5.out);(case side9=>exact sD (zC b6.out HB.out));(case side10=>exact b7.out);(case side11=>exact sD (zC b8.out HB.out));(case side12=>exact b9.out);(case side13=>exact sD (zC ca.out HB.out));(case side14=>exact cb.out);(case side15=>exact sD (zC cc.out HB.out));(case side16=>exact cd.out);rintro e hW ⟨rfl,hb⟩;refine⟨_,rfl,?_⟩;replace j:=sK j hb;replace l:=sK l hb;replace HB:=sB HB hb;(try clear hb);obtain⟨hX,hY,hZ,h0,h1,h2,h3,h4,h5,h6,h7,h8,h9,ia,ib,ic,ie,ig,ih,ii⟩:=cells10 l.out)|((with_reducible refine gate_callee (f:=25) rfl ?_);refine sC (some 17) Try.func25 #[.agg #[.int .i64 a1_0,.slice A1_1 l1_1.length c1_1,.slice A1_2 l1_2.length c1_2,.slice A1_3 l1_3.length c1_3,.slice A1_4 l1_4.length c1_4,.slice A1_5 l1_5.length c1_5,.int .i64 a1_6,.slice A1_7 l1_7.length c1_7,.slice A1_8 l1_8.length c1_8,.slice A1_9 l1_9.length c1_9],.int .i64 bE] (laws_szMemory.calls k a1_0 _ _ l1_1 _ _ l1_2 _ _ l1_3 _ _ l1_4 _ _ l1_5 a1_6 _ _ l1_7 _ _ l1_8 _ _ l1_9 bE cL _ ?side1 ?side2 ?side3 ?side4 ?side5 ?side6 ?side7 ?side8 ?side9 ?side10 ?side11 ?side12 ?side13 ?side14 ?side15 ?side16 eB.out) ?_;(case side1=>exact sD (zC cv.out HB.out));(case side2=>exact cw.out);(case side3=>exact sD (zC cx.out HB.out));(case side4=>exact cy.out);(case side5=>exact sD (zC cz.out HB.out));(case side6=>exact cA.out);(case side7=>exact sD (zC cB.out HB.out));(case side8=>exact cC.out);(case side9=>exact sD (zC cD.out HB.out));(case side10=>exact cE.out);(case side11=>exact sD (zC cF.out HB.out));(case side12=>exact cG.out);(case side13=>exact sD (zC cH.out HB.out));(case side14=>exact cI.out);(case side15=>exact sD (zC cJ.out HB.out));(case side16=>exact cK.out);rintro e fp ⟨rfl,hb⟩;refine⟨_,rfl,?_⟩;replace j:=sK j hb;replace l:=sK l hb;replace HB:=sB HB hb;(try clear hb)))
 replace j:=zM (blk_drew j.out)
 replace l:=zM (blk_drew l.out)
 replace HB:=zM (below_drew1 HB.out)
 refine start_ (n:=6) (S:=fun w'=>w'.cell? ⟨aE,0,none⟩=some (.int .i64 a0_0)∧w'.cell? ⟨aE,1,none⟩=some (.slice A0_1 l0_1.length c0_1)∧w'.cell? ⟨aE,2,none⟩=some (.slice A0_2 l0_2.length c0_2)∧w'.cell? ⟨aE,3,none⟩=some (.slice A0_3 l0_3.length c0_3)∧w'.cell? ⟨aE,4,none⟩=some (.slice A0_4 l0_4.length c0_4)∧w'.cell? ⟨aE,5,none⟩=some (.slice A0_5 l0_5.length c0_5)∧w'.cell? ⟨aE,6,none⟩=some (.int .i64 a0_6)∧w'.cell? ⟨aE,7,none⟩=some (.slice A0_7 l0_7.length c0_7)∧w'.cell? ⟨aE,8,none⟩=some (.slice A0_8 l0_8.length c0_8)∧w'.cell? ⟨aE,9,none⟩=some (.slice A0_9 l0_9.length c0_9)∧w'.cell? ⟨aF,0,none⟩=some (.int .i64 a1_0)∧w'.cell? ⟨aF,1,none⟩=some (.slice A1_1 l1_1.length c1_1)∧w'.cell? ⟨aF,2,none⟩=some (.slice A1_2 l1_2.length c1_2)∧w'.cell? ⟨aF,3,none⟩=some (.slice A1_3 l1_3.length c1_3)∧w'.cell? ⟨aF,4,none⟩=some (.slice A1_4 l1_4.length c1_4)∧w'.cell? ⟨aF,5,none⟩=some (.slice A1_5 l1_5.length c1_5)∧w'.cell? ⟨aF,6,none⟩=some (.int .i64 a1_6)∧w'.cell? ⟨aF,7,none⟩=some (.slice A1_7 l1_7.length c1_7)∧w'.cell? ⟨aF,8,none⟩=some (.slice A1_8 l1_8.length c1_8)∧w'.cell? ⟨aF,9,none⟩=some (.slice A1_9 l1_9.length c1_9)) (ds:=[]) #[false,false,false,false,false,false] (by kernel_rfl) rfl rfl ⟨(blk_cell j.out 0).trans rfl,(blk_cell j.out 1).trans rfl,(blk_cell j.out 2).trans rfl,(blk_cell j.out 3).trans rfl,(blk_cell j.out 4).trans rfl,(blk_cell j.out 5).trans rfl,(blk_cell j.out 6).trans rfl,(blk_cell j.out 7).trans rfl,(blk_cell j.out 8).trans rfl,(blk_cell j.out 9).trans rfl,(blk_cell l.out 0).trans rfl,(blk_cell l.out 1).trans rfl,(blk_cell l.out 2).trans rfl,(blk_cell l.out 3).trans rfl,(blk_cell l.out 4).trans rfl,(blk_cell l.out 5).trans rfl,(blk_cell l.out 6).trans rfl,(blk_cell l.out 7).trans rfl,(blk_cell l.out 8).trans rfl,(blk_cell l.out 9).trans rfl⟩ (fun hHeld=>?_)
 generalize fp.drew=w39 at j l HB hHeld ⊢
 refine take_ (i:=0) (N:=some 20) (v:=?_) (a':=?_) #[true,false,false,false,false,false] rfl rfl (by kernel_rfl) (fun _ _ _ h=>h) (Or.inl ⟨by rfl,?_⟩) hHeld ?_ ?_
 rotate_left
 ·(
 rintro w' ⟨s0,s1,s2,s3,s4,s5,s6,s7,s8,s9,cQ,cR,cS,cT,cU,cV,cW,cX,cY,cZ⟩
 go_simp
 with_reducible rfl)
 rotate_left
 ·(
 simp only[zP,i64_w,i32_w]
 rfl)
 refine take_ (i:=2) (N:=some 22) (v:=?_) (a':=?_) #[true,false,true,false,false,false] rfl rfl (by kernel_rfl) (fun _ _ _ h=>h) (Or.inl ⟨by rfl,?_⟩) hHeld ?_ ?_
 rotate_left
 ·(
 rintro w' ⟨s0,s1,s2,s3,s4,s5,s6,s7,s8,s9,cQ,cR,cS,cT,cU,cV,cW,cX,cY,cZ⟩
 go_simp
 with_reducible rfl)
 rotate_left
 ·(
 simp only[zP,i64_w,i32_w]
 rfl)
 refine one_ (i:=1) (N:=some 21) #[true,true,true,false,false,false] rfl rfl (by kernel_rfl) (by decide) (fun K hK=>?_)
 refine goes_ Try.func27 (by kernel_rfl) rfl #[.agg #[.int .i64 a0_0,.slice A0_1 l0_1.length c0_1,.slice A0_2 l0_2.length c0_2,.slice A0_3 l0_3.length c0_3,.slice A0_4 l0_4.length c0_4,.slice A0_5 l0_5.length c0_5,.int .i64 a0_6,.slice A0_7 l0_7.length c0_7,.slice A0_8 l0_8.length c0_8,.slice A0_9 l0_9.length c0_9]] (by rfl) rfl rfl (by(try simp only[List.map_toArray,List.map_cons,List.map_nil]);first|done|rfl|(simp only[List.length_drop,List.length_take];rfl)) ?_
 with_reducible refine(laws_toMemory.calls k a0_0 _ _ l0_1 _ _ l0_2 _ _ l0_3 _ _ l0_4 _ _ l0_5 a0_6 _ _ l0_7 _ _ l0_8 _ _ l0_9 cO bO bP bQ bR aP cP aQ bS aR _ ?side1 ?side2 ?side3 ?side4 ?side5 ?side6 ?side7 ?side8 ?side9 ?side10 ?side11 ?side12 ?side13 ?side14 ?side15 ?side16 ff.out).mono ?_
 (case side1=>exact sD (zC bY.out HB.out))
 (case side2=>exact bZ.out)
 (case side3=>exact sD (zC b0.out HB.out))
 (case side4=>exact b1.out)
 (case side5=>exact sD (zC b2.out HB.out))
 (case side6=>exact b3.out)
 (case side7=>exact sD (zC b4.out HB.out))
 (case side8=>exact b5.out)
 (case side9=>exact sD (zC b6.out HB.out))
 (case side10=>exact b7.out)
 (case side11=>exact sD (zC b8.out HB.out))
 (case side12=>exact b9.out)
 (case side13=>exact sD (zC ca.out HB.out))
 (case side14=>exact cb.out)
 (case side15=>exact sD (zC cc.out HB.out))
 (case side16=>exact cd.out)
 rintro e ij ⟨ik,il,im,ip,iq,ir,it,iu,rfl,aj,ak,al,am,m,p,an,q,hb⟩
 refine⟨_,rfl,?_⟩
 have W:=zM (Kd.S_lower aj (below_size (by repeat(first|(with_reducible first|exact HB.out|apply below_alloc|apply pw_below_drewN|apply below_drew1|refine below_set ?_ L.out|refine below_set ?_ M.out)|exact HB.out))))
 have X:=zM (Kd.R_lower ak (below_size (by repeat(first|(with_reducible first|exact HB.out|apply below_alloc|apply pw_below_drewN|apply below_drew1|refine below_set ?_ L.out|refine below_set ?_ M.out)|exact HB.out))))
 have Y:=zM (Kd.S_lower al (below_size (by repeat(first|(with_reducible first|exact HB.out|apply below_alloc|apply pw_below_drewN|apply below_drew1|refine below_set ?_ L.out|refine below_set ?_ M.out)|exact HB.out))))
 have Z:=zM (Kd.S_lower am (below_size (by repeat(first|(with_reducible first|exact HB.out|apply below_alloc|apply pw_below_drewN|apply below_drew1|refine below_set ?_ L.out|refine below_set ?_ M.out)|exact HB.out))))
 have A:=zM (Kd.R_lower m (below_size (by repeat(first|(with_reducible first|exact HB.out|apply below_alloc|apply pw_below_drewN|apply below_drew1|refine below_set ?_ L.out|refine below_set ?_ M.out)|exact HB.out))))
 have B:=zM (Kd.R_lower p (below_size (by repeat(first|(with_reducible first|exact HB.out|apply below_alloc|apply pw_below_drewN|apply below_drew1|refine below_set ?_ L.out|refine below_set ?_ M.out)|exact HB.out))))
 have aa:=zM (Kd.S_lower an (below_size (by repeat(first|(with_reducible first|exact HB.out|apply below_alloc|apply pw_below_drewN|apply below_drew1|refine below_set ?_ L.out|refine below_set ?_ M.out)|exact HB.out))))
 have D:=zM (Kd.R_lower q (below_size (by repeat(first|(with_reducible first|exact HB.out|apply below_alloc|apply pw_below_drewN|apply below_drew1|refine below_set ?_ L.out|refine below_set ?_ M.out)|exact HB.out))))
 replace j:=sK j hb
 replace l:=sK l hb
 replace HB:=sB HB hb
 (try clear hb)
 (try clear hb2)
 (try clear hk)
 (try clear hi)
 (try clear aj)
 (try clear ak)
 (try clear al)
 (try clear am)
 (try clear m)
 (try clear p)
 (try clear an)
 (try clear q)
 refine hK.out _ _ ⟨(blk_cell j.out 0).trans rfl,(blk_cell j.out 1).trans rfl,(blk_cell j.out 2).trans rfl,(blk_cell j.out 3).trans rfl,(blk_cell j.out 4).trans rfl,(blk_cell j.out 5).trans rfl,(blk_cell j.out 6).trans rfl,(blk_cell j.out 7).trans rfl,(blk_cell j.out 8).trans rfl,(blk_cell j.out 9).trans rfl,(blk_cell l.out 0).trans rfl,(blk_cell l.out 1).trans rfl,(blk_cell l.out 2).trans rfl,(blk_cell l.out 3).trans rfl,(blk_cell l.out 4).trans rfl,(blk_cell l.out 5).trans rfl,(blk_cell l.out 6).trans rfl,(blk_cell l.out 7).trans rfl,(blk_cell l.out 8).trans rfl,(blk_cell l.out 9).trans rfl⟩ (fun hHeld=>?_)
 clear hK K
 refine norm_ (a':=?_) ?_ ?_
 rotate_left
 ·(
 show Act.put _ (some 21) _=_
 simp only[zP,i64_w,i32_w]
 rfl)
 refine one_ (i:=3) (N:=some 23) #[true,true,true,true,false,false] rfl rfl (by kernel_rfl) (by decide) (fun K hK=>?_)
 refine goes_ Try.func27 (by kernel_rfl) rfl #[.agg #[.int .i64 a1_0,.slice A1_1 l1_1.length c1_1,.slice A1_2 l1_2.length c1_2,.slice A1_3 l1_3.length c1_3,.slice A1_4 l1_4.length c1_4,.slice A1_5 l1_5.length c1_5,.int .i64 a1_6,.slice A1_7 l1_7.length c1_7,.slice A1_8 l1_8.length c1_8,.slice A1_9 l1_9.length c1_9]] (by rfl) rfl rfl (by(try simp only[List.map_toArray,List.map_cons,List.map_nil]);first|done|rfl|(simp only[List.length_drop,List.length_take];rfl)) ?_
 with_reducible refine(laws_toMemory.calls k a1_0 _ _ l1_1 _ _ l1_2 _ _ l1_3 _ _ l1_4 _ _ l1_5 a1_6 _ _ l1_7 _ _ l1_8 _ _ l1_9 dQ cf cg ch ci aV dR aW cj aX _ ?side1 ?side2 ?side3 ?side4 ?side5 ?side6 ?side7 ?side8 ?side9 ?side10 ?side11 ?side12 ?side13 ?side14 ?side15 ?side16 fg.out).mono ?_
 (case side1=>exact sD (zC cv.out HB.out))
 (case side2=>exact cw.out)
 (case side3=>exact sD (zC cx.out HB.out))
 (case side4=>exact cy.out)
 (case side5=>exact sD (zC cz.out HB.out))
 (case side6=>exact cA.out)
 (case side7=>exact sD (zC cB.out HB.out))
 (case side8=>exact cC.out)
 (case side9=>exact sD (zC cD.out HB.out))
 (case side10=>exact cE.out)
 (case side11=>exact sD (zC cF.out HB.out))
 (case side12=>exact cG.out)
 (case side13=>exact sD (zC cH.out HB.out))
 (case side14=>exact cI.out)
 (case side15=>exact sD (zC cJ.out HB.out))
 (case side16=>exact cK.out)
 rintro e iv ⟨iw,ix,iy,iz,iA,iB,iC,iD,rfl,aj,ak,al,am,m,p,an,q,hb⟩
 refine⟨_,rfl,?_⟩
 have ae:=zM (Kd.S_lower (Kd.S_new' aj (Kd.S_lt (sI W.out))) (below_size (by repeat(first|(with_reducible first|exact HB.out|apply below_alloc|apply pw_below_drewN|apply below_drew1|refine below_set ?_ L.out|refine below_set ?_ M.out)|exact HB.out))))
 replace W:=zM (Kd.S_elder' (sI W.out) (Kd.S_base aj) hb)
 have af:=zM (Kd.R_lower (Kd.R_new' ak (Kd.R_lt (sE X.out))) (below_size (by repeat(first|(with_reducible first|exact HB.out|apply below_alloc|apply pw_below_drewN|apply below_drew1|refine below_set ?_ L.out|refine below_set ?_ M.out)|exact HB.out))))
 replace X:=zM (Kd.R_elder' (sE X.out) (Kd.R_base ak) hb)
 have ag:=zM (Kd.S_lower (Kd.S_new' (Kd.S_new' (Kd.S_new' (Kd.S_new' al (Kd.S_lt (sI Y.out))) (Kd.R_lt (sE A.out))) (Kd.R_lt (sE B.out))) (Kd.R_lt (sE D.out))) (below_size (by repeat(first|(with_reducible first|exact HB.out|apply below_alloc|apply pw_below_drewN|apply below_drew1|refine below_set ?_ L.out|refine below_set ?_ M.out)|exact HB.out))))
 replace Y:=zM (Kd.S_mono (Kd.S_told (Kd.S_told (Kd.S_told (Kd.S_told (Kd.S_old (sI Y.out) hb) (Kd.S_base al)) (Kd.R_base m)) (Kd.R_base p)) (Kd.R_base q)) (fun _ a=>a.1))
 have ah:=zM (Kd.S_lower (Kd.S_new' (Kd.S_new' (Kd.S_new' (Kd.S_new' am (Kd.S_lt (sI Z.out))) (Kd.R_lt (sE A.out))) (Kd.R_lt (sE B.out))) (Kd.R_lt (sE D.out))) (below_size (by repeat(first|(with_reducible first|exact HB.out|apply below_alloc|apply pw_below_drewN|apply below_drew1|refine below_set ?_ L.out|refine below_set ?_ M.out)|exact HB.out))))
 replace Z:=zM (Kd.S_mono (Kd.S_told (Kd.S_told (Kd.S_told (Kd.S_told (Kd.S_old (sI Z.out) hb) (Kd.S_base am)) (Kd.R_base m)) (Kd.R_base p)) (Kd.R_base q)) (fun _ a=>a.1))
 have O:=zM (Kd.R_lower (Kd.R_new' (Kd.R_new' (Kd.R_new' m (Kd.R_lt (sE A.out))) (Kd.R_lt (sE B.out))) (Kd.R_lt (sE D.out))) (below_size (by repeat(first|(with_reducible first|exact HB.out|apply below_alloc|apply pw_below_drewN|apply below_drew1|refine below_set ?_ L.out|refine below_set ?_ M.out)|exact HB.out))))
 have P:=zM (Kd.R_lower (Kd.R_new' (Kd.R_new' (Kd.R_new' p (Kd.R_lt (sE A.out))) (Kd.R_lt (sE B.out))) (Kd.R_lt (sE D.out))) (below_size (by repeat(first|(with_reducible first|exact HB.out|apply below_alloc|apply pw_below_drewN|apply below_drew1|refine below_set ?_ L.out|refine below_set ?_ M.out)|exact HB.out))))
 have ai:=zM (Kd.S_lower (Kd.S_new' (Kd.S_new' (Kd.S_new' (Kd.S_new' an (Kd.R_lt (sE A.out))) (Kd.R_lt (sE B.out))) (Kd.S_lt (sI aa.out))) (Kd.R_lt (sE D.out))) (below_size (by repeat(first|(with_reducible first|exact HB.out|apply below_alloc|apply pw_below_drewN|apply below_drew1|refine below_set ?_ L.out|refine below_set ?_ M.out)|exact HB.out))))
 replace aa:=zM (Kd.S_mono (Kd.S_told (Kd.S_told (Kd.S_told (Kd.S_told (Kd.S_old (sI aa.out) hb) (Kd.R_base m)) (Kd.R_base p)) (Kd.S_base an)) (Kd.R_base q)) (fun _ a=>a.1))
 have Q:=zM (Kd.R_lower (Kd.R_new' (Kd.R_new' (Kd.R_new' q (Kd.R_lt (sE A.out))) (Kd.R_lt (sE B.out))) (Kd.R_lt (sE D.out))) (below_size (by repeat(first|(with_reducible first|exact HB.out|apply below_alloc|apply pw_below_drewN|apply below_drew1|refine below_set ?_ L.out|refine below_set ?_ M.out)|exact HB.out))))
 replace A:=zM (Kd.R_mono (Kd.R_told (Kd.R_told (Kd.R_told (Kd.R_old (sE A.out) hb) (Kd.R_base m)) (Kd.R_base p)) (Kd.R_base q)) (fun _ a=>a.1))
 replace B:=zM (Kd.R_mono (Kd.R_told (Kd.R_told (Kd.R_told (Kd.R_old (sE B.out) hb) (Kd.R_base m)) (Kd.R_base p)) (Kd.R_base q)) (fun _ a=>a.1))
 replace D:=zM (Kd.R_mono (Kd.R_told (Kd.R_told (Kd.R_told (Kd.R_old (sE D.out) hb) (Kd.R_base m)) (Kd.R_base p)) (Kd.R_base q)) (fun _ a=>a.1))
 replace j:=sK j hb
 replace l:=sK l hb
 replace HB:=sB HB hb
 (try clear hb)
 (try clear hb2)
 (try clear hk)
 (try clear hi)
 (try clear aj)
 (try clear ak)
 (try clear al)
 (try clear am)
 (try clear m)
 (try clear p)
 (try clear an)
 (try clear q)
 obtain⟨ee,ef,eI⟩:=Kd.S_slice W.out
 (first|subst eI|(injection eI with u E x;have F:=u.symm;have G:=x.symm;clear u E x;subst F;subst G))
 obtain⟨eg,eh,eJ⟩:=Kd.R_slice X.out
 (first|subst eJ|(injection eJ with u E x;have F:=u.symm;have G:=x.symm;clear u E x;subst F;subst G))
 obtain⟨ei,ej,eK⟩:=Kd.S_slice Y.out
 (first|subst eK|(injection eK with u E x;have F:=u.symm;have G:=x.symm;clear u E x;subst F;subst G))
 obtain⟨ek,el,eL⟩:=Kd.S_slice Z.out
 (first|subst eL|(injection eL with u E x;have F:=u.symm;have G:=x.symm;clear u E x;subst F;subst G))
 obtain⟨bm,bn,eM⟩:=Kd.R_slice A.out
 (first|subst eM|(injection eM with u E x;have F:=u.symm;have G:=x.symm;clear u E x;subst F;subst G))
 obtain⟨bo,bp,eN⟩:=Kd.R_slice B.out
 (first|subst eN|(injection eN with u E x;have F:=u.symm;have G:=x.symm;clear u E x;subst F;subst G))
 obtain⟨em,en,eO⟩:=Kd.S_slice aa.out
 (first|subst eO|(injection eO with u E x;have F:=u.symm;have G:=x.symm;clear u E x;subst F;subst G))
 obtain⟨bq,br,eP⟩:=Kd.R_slice D.out
 (first|subst eP|(injection eP with u E x;have F:=u.symm;have G:=x.symm;clear u E x;subst F;subst G))
 obtain⟨eo,ep,eQ⟩:=Kd.S_slice ae.out
 (first|subst eQ|(injection eQ with u E x;have F:=u.symm;have G:=x.symm;clear u E x;subst F;subst G))
 obtain⟨er,es,eR⟩:=Kd.R_slice af.out
 (first|subst eR|(injection eR with u E x;have F:=u.symm;have G:=x.symm;clear u E x;subst F;subst G))
 obtain⟨et,eu,eS⟩:=Kd.S_slice ag.out
 (first|subst eS|(injection eS with u E x;have F:=u.symm;have G:=x.symm;clear u E x;subst F;subst G))
 obtain⟨ev,ew,eT⟩:=Kd.S_slice ah.out
 (first|subst eT|(injection eT with u E x;have F:=u.symm;have G:=x.symm;clear u E x;subst F;subst G))
 obtain⟨bs,bt,eU⟩:=Kd.R_slice O.out
 (first|subst eU|(injection eU with u E x;have F:=u.symm;have G:=x.symm;clear u E x;subst F;subst G))
 obtain⟨bu,bv,eV⟩:=Kd.R_slice P.out
 (first|subst eV|(injection eV with u E x;have F:=u.symm;have G:=x.symm;clear u E x;subst F;subst G))
 obtain⟨ex,ey,eW⟩:=Kd.S_slice ai.out
 (first|subst eW|(injection eW with u E x;have F:=u.symm;have G:=x.symm;clear u E x;subst F;subst G))
 obtain⟨bw,bx,eX⟩:=Kd.R_slice Q.out
 (first|subst eX|(injection eX with u E x;have F:=u.symm;have G:=x.symm;clear u E x;subst F;subst G))
 refine hK.out _ _ ⟨(blk_cell j.out 0).trans rfl,(blk_cell j.out 1).trans rfl,(blk_cell j.out 2).trans rfl,(blk_cell j.out 3).trans rfl,(blk_cell j.out 4).trans rfl,(blk_cell j.out 5).trans rfl,(blk_cell j.out 6).trans rfl,(blk_cell j.out 7).trans rfl,(blk_cell j.out 8).trans rfl,(blk_cell j.out 9).trans rfl,(blk_cell l.out 0).trans rfl,(blk_cell l.out 1).trans rfl,(blk_cell l.out 2).trans rfl,(blk_cell l.out 3).trans rfl,(blk_cell l.out 4).trans rfl,(blk_cell l.out 5).trans rfl,(blk_cell l.out 6).trans rfl,(blk_cell l.out 7).trans rfl,(blk_cell l.out 8).trans rfl,(blk_cell l.out 9).trans rfl⟩ (fun hHeld=>?_)
 clear hK K
 refine norm_ (a':=?_) ?_ ?_
 rotate_left
 ·(
 show Act.put _ (some 23) _=_
 simp only[zP,i64_w,i32_w]
 rfl)
 refine one_ (i:=4) (N:=some 24) #[true,true,true,true,true,false] rfl rfl (by kernel_rfl) (by decide) (fun K hK=>?_)
 refine goes_ Try.func26 (by kernel_rfl) rfl #[.agg #[.int .i64 cO,.slice ee bO.length ef,.slice eg bP.length eh,.slice ei bQ.length ej,.slice ek bR.length el,.slice bm aP.length bn,.int .i64 cP,.slice bo aQ.length bp,.slice em bS.length en,.slice bq aR.length br],.agg #[.int .i64 dQ,.slice eo cf.length ep,.slice er cg.length es,.slice et ch.length eu,.slice ev ci.length ew,.slice bs aV.length bt,.int .i64 dR,.slice bu aW.length bv,.slice ex cj.length ey,.slice bw aX.length bx]] (by rfl) rfl rfl (by(try simp only[List.map_toArray,List.map_cons,List.map_nil]);first|done|rfl|(simp only[List.length_drop,List.length_take];rfl)) ?_
 with_reducible refine(spec_SameMemory.calls k cO _ _ bO _ _ bP _ _ bQ _ _ bR _ _ aP cP _ _ aQ _ _ bS _ _ aR dQ _ _ cf _ _ cg _ _ ch _ _ ci _ _ aV dR _ _ aW _ _ cj _ _ aX aO _ ?side1 ?side2 ?side3 ?side4 ?side5 ?side6 ?side7 ?side8 ?side9 ?side10 ?side11 ?side12 ?side13 ?side14 ?side15 ?side16 ?side17 ?side18 ?side19 ?side20 ?side21 ?side22 ?side23 ?side24 ?side25 ?side26 ?side27 ?side28 ?side29 ?side30 ?side31 ?side32 fh.out).mono ?_
 (case side1=>exact sD ((Kd.S_reads' W.out).2.2))
 (case side2=>exact(Kd.S_reads' W.out).2.1)
 (case side3=>exact sD ((Kd.R_reads' X.out).2.2))
 (case side4=>exact(Kd.R_reads' X.out).2.1)
 (case side5=>exact sD ((Kd.S_reads' Y.out).2.2))
 (case side6=>exact(Kd.S_reads' Y.out).2.1)
 (case side7=>exact sD ((Kd.S_reads' Z.out).2.2))
 (case side8=>exact(Kd.S_reads' Z.out).2.1)
 (case side9=>exact sD ((Kd.R_reads' A.out).2.2))
 (case side10=>exact(Kd.R_reads' A.out).2.1)
 (case side11=>exact sD ((Kd.R_reads' B.out).2.2))
 (case side12=>exact(Kd.R_reads' B.out).2.1)
 (case side13=>exact sD ((Kd.S_reads' aa.out).2.2))
 (case side14=>exact(Kd.S_reads' aa.out).2.1)
 (case side15=>exact sD ((Kd.R_reads' D.out).2.2))
 (case side16=>exact(Kd.R_reads' D.out).2.1)
 (case side17=>exact sD ((Kd.S_reads' ae.out).2.2))
 (case side18=>exact(Kd.S_reads' ae.out).2.1)
 (case side19=>exact sD ((Kd.R_reads' af.out).2.2))
 (case side20=>exact(Kd.R_reads' af.out).2.1)
 (case side21=>exact sD ((Kd.S_reads' ag.out).2.2))
 (case side22=>exact(Kd.S_reads' ag.out).2.1)
 (case side23=>exact sD ((Kd.S_reads' ah.out).2.2))
 (case side24=>exact(Kd.S_reads' ah.out).2.1)
 (case side25=>exact sD ((Kd.R_reads' O.out).2.2))
 (case side26=>exact(Kd.R_reads' O.out).2.1)
 (case side27=>exact sD ((Kd.R_reads' P.out).2.2))
 (case side28=>exact(Kd.R_reads' P.out).2.1)
 (case side29=>exact sD ((Kd.S_reads' ai.out).2.2))
 (case side30=>exact(Kd.S_reads' ai.out).2.1)
 (case side31=>exact sD ((Kd.R_reads' Q.out).2.2))
 (case side32=>exact(Kd.R_reads' Q.out).2.1)
 rintro e iE ⟨rfl,hb⟩
 refine⟨_,rfl,?_⟩
 replace W:=zM (Kd.S_below (sI W.out) hb)
 replace X:=zM (Kd.R_below (sE X.out) hb)
 replace Y:=zM (Kd.S_below (sI Y.out) hb)
 replace Z:=zM (Kd.S_below (sI Z.out) hb)
 replace A:=zM (Kd.R_below (sE A.out) hb)
 replace B:=zM (Kd.R_below (sE B.out) hb)
 replace aa:=zM (Kd.S_below (sI aa.out) hb)
 replace D:=zM (Kd.R_below (sE D.out) hb)
 replace ae:=zM (Kd.S_below (sI ae.out) hb)
 replace af:=zM (Kd.R_below (sE af.out) hb)
 replace ag:=zM (Kd.S_below (sI ag.out) hb)
 replace ah:=zM (Kd.S_below (sI ah.out) hb)
 replace O:=zM (Kd.R_below (sE O.out) hb)
 replace P:=zM (Kd.R_below (sE P.out) hb)
 replace ai:=zM (Kd.S_below (sI ai.out) hb)
 replace Q:=zM (Kd.R_below (sE Q.out) hb)
 replace j:=sK j hb
 replace l:=sK l hb
 replace HB:=sB HB hb
 (try clear hb)
 (try clear hb2)
 (try clear hk)
 (try clear hi)
 refine hK.out _ _ ⟨(blk_cell j.out 0).trans rfl,(blk_cell j.out 1).trans rfl,(blk_cell j.out 2).trans rfl,(blk_cell j.out 3).trans rfl,(blk_cell j.out 4).trans rfl,(blk_cell j.out 5).trans rfl,(blk_cell j.out 6).trans rfl,(blk_cell j.out 7).trans rfl,(blk_cell j.out 8).trans rfl,(blk_cell j.out 9).trans rfl,(blk_cell l.out 0).trans rfl,(blk_cell l.out 1).trans rfl,(blk_cell l.out 2).trans rfl,(blk_cell l.out 3).trans rfl,(blk_cell l.out 4).trans rfl,(blk_cell l.out 5).trans rfl,(blk_cell l.out 6).trans rfl,(blk_cell l.out 7).trans rfl,(blk_cell l.out 8).trans rfl,(blk_cell l.out 9).trans rfl⟩ (fun hHeld=>?_)
 clear hK K
 refine norm_ (a':=?_) ?_ ?_
 rotate_left
 ·(
 show Act.put _ (some 24) _=_
 simp only[zP,i64_w,i32_w]
 rfl)
 refine pure_ (i:=5) (N:=some 6) (v:=?_) (a':=?_) #[true,true,true,true,true,true] rfl rfl (by kernel_rfl) (fun _ _ _ h=>h) (Or.inl ⟨by rfl,?_⟩) ?_ ?_
 rotate_left
 ·(
 intro w'
 go_simp
 with_reducible rfl)
 rotate_left
 ·(
 simp only[zP,i64_w,i32_w]
 rfl)
 refine done_ (by kernel_rfl) ?_
 obtain⟨iF,iG,iH,iI,iJ,iK,iL,iM,iN,iO,iP,iQ,iR,iS,iT,iU,iV,iW,iX,iY⟩:=cells10 j.out
 try go_wp2_with (first|((with_reducible refine gate_callee (f:=27) rfl ?_);refine sC (some 26) Try.func27 #[.agg #[.int .i64 a0_0,.slice A0_1 l0_1.length c0_1,.slice A0_2 l0_2.length c0_2,.slice A0_3 l0_3.length c0_3,.slice A0_4 l0_4.length c0_4,.slice A0_5 l0_5.length c0_5,.int .i64 a0_6,.slice A0_7 l0_7.length c0_7,.slice A0_8 l0_8.length c0_8,.slice A0_9 l0_9.length c0_9]] (laws_toMemory.calls k a0_0 _ _ l0_1 _ _ l0_2 _ _ l0_3 _ _ l0_4 _ _ l0_5 a0_6 _ _ l0_7 _ _ l0_8 _ _ l0_9 bf a6 a7 a8 a9 aB bg aC ba aD _ ?side1 ?side2 ?side3 ?side4 ?side5 ?side6 ?side7 ?side8 ?side9 ?side10 ?side11 ?side12 ?side13 ?side14 ?side15 ?side16 fi.out) ?_;(case side1=>exact sD (zC bY.out HB.out));(case side2=>exact bZ.out);(case side3=>exact sD (zC b0.out HB.out));(case side4=>exact b1.out);(case side5=>exact sD (zC b2.out HB.out));(case side6=>exact b3.out);(case side7=>exact sD (zC b4.out HB.out));(case side8=>exact b5.out);(case side9=>exact sD (zC b6.out HB.out));(case side10=>exact b7.out);(case side11=>exact sD (zC b8.out HB.out));(case side12=>exact b9.out);(case side13=>exact sD (zC ca.out HB.out));(case side14=>exact cb.out);(case side15=>exact sD (zC cc.out HB.out));(case side16=>exact cd.out);rintro e iZ ⟨i0,i1,i2,i3,i4,i5,i6,i7,rfl,aj,ak,al,am,m,p,an,q,hb⟩;refine⟨_,rfl,?_⟩;have ao:=zM (Kd.S_lower (Kd.S_new' (Kd.S_new' aj (Kd.S_lt (sI W.out))) (Kd.S_lt (sI ae.out))) (below_size (by repeat(first|(with_reducible first|exact HB.out|apply below_alloc|apply pw_below_drewN|apply below_drew1|refine below_set ?_ L.out|refine below_set ?_ M.out)|exact HB.out))));replace W:=zM (Kd.S_elder' (sI W.out) (Kd.S_base aj) hb);replace ae:=zM (Kd.S_elder' (sI ae.out) (Kd.S_base aj) hb);have ap:=zM (Kd.R_lower (Kd.R_new' (Kd.R_new' ak (Kd.R_lt (sE X.out))) (Kd.R_lt (sE af.out))) (below_size (by repeat(first|(with_reducible first|exact HB.out|apply below_alloc|apply pw_below_drewN|apply below_drew1|refine below_set ?_ L.out|refine below_set ?_ M.out)|exact HB.out))));replace X:=zM (Kd.R_elder' (sE X.out) (Kd.R_base ak) hb);replace af:=zM (Kd.R_elder' (sE af.out) (Kd.R_base ak) hb);have aq:=zM (Kd.S_lower (Kd.S_new' (Kd.S_new' (Kd.S_new' (Kd.S_new' (Kd.S_new' (Kd.S_new' (Kd.S_new' (Kd.S_new' al (Kd.S_lt (sI Y.out))) (Kd.R_lt (sE A.out))) (Kd.R_lt (sE B.out))) (Kd.R_lt (sE D.out))) (Kd.S_lt (sI ag.out))) (Kd.R_lt (sE O.out))) (Kd.R_lt (sE P.out))) (Kd.R_lt (sE Q.out))) (below_size (by repeat(first|(with_reducible first|exact HB.out|apply below_alloc|apply pw_below_drewN|apply below_drew1|refine below_set ?_ L.out|refine below_set ?_ M.out)|exact HB.out))));replace Y:=zM (Kd.S_mono (Kd.S_told (Kd.S_told (Kd.S_told (Kd.S_told (Kd.S_old (sI Y.out) hb) (Kd.S_base al)) (Kd.R_base m)) (Kd.R_base p)) (Kd.R_base q)) (fun _ a=>a.1));replace ag:=zM (Kd.S_mono (Kd.S_told (Kd.S_told (Kd.S_told (Kd.S_told (Kd.S_old (sI ag.out) hb) (Kd.S_base al)) (Kd.R_base m)) (Kd.R_base p)) (Kd.R_base q)) (fun _ a=>a.1));have ar:=zM (Kd.S_lower (Kd.S_new' (Kd.S_new' (Kd.S_new' (Kd.S_new' (Kd.S_new' (Kd.S_new' (Kd.S_new' (Kd.S_new' am (Kd.S_lt (sI Z.out))) (Kd.R_lt (sE A.out))) (Kd.R_lt (sE B.out))) (Kd.R_lt (sE D.out))) (Kd.S_lt (sI ah.out))) (Kd.R_lt (sE O.out))) (Kd.R_lt (sE P.out))) (Kd.R_lt (sE Q.out))) (below_size (by repeat(first|(with_reducible first|exact HB.out|apply below_alloc|apply pw_below_drewN|apply below_drew1|refine below_set ?_ L.out|refine below_set ?_ M.out)|exact HB.out))));replace Z:=zM (Kd.S_mono (Kd.S_told (Kd.S_told (Kd.S_told (Kd.S_told (Kd.S_old (sI Z.out) hb) (Kd.S_base am)) (Kd.R_base m)) (Kd.R_base p)) (Kd.R_base q)) (fun _ a=>a.1));replace ah:=zM (Kd.S_mono (Kd.S_told (Kd.S_told (Kd.S_told (Kd.S_told (Kd.S_old (sI ah.out) hb) (Kd.S_base am)) (Kd.R_base m)) (Kd.R_base p)) (Kd.R_base q)) (fun _ a=>a.1));have T:=zM (Kd.R_lower (Kd.R_new' (Kd.R_new' (Kd.R_new' (Kd.R_new' (Kd.R_new' (Kd.R_new' m (Kd.R_lt (sE A.out))) (Kd.R_lt (sE B.out))) (Kd.R_lt (sE D.out))) (Kd.R_lt (sE O.out))) (Kd.R_lt (sE P.out))) (Kd.R_lt (sE Q.out))) (below_size (by repeat(first|(with_reducible first|exact HB.out|apply below_alloc|apply pw_below_drewN|apply below_drew1|refine below_set ?_ L.out|refine below_set ?_ M.out)|exact HB.out))));have U:=zM (Kd.R_lower (Kd.R_new' (Kd.R_new' (Kd.R_new' (Kd.R_new' (Kd.R_new' (Kd.R_new' p (Kd.R_lt (sE A.out))) (Kd.R_lt (sE B.out))) (Kd.R_lt (sE D.out))) (Kd.R_lt (sE O.out))) (Kd.R_lt (sE P.out))) (Kd.R_lt (sE Q.out))) (below_size (by repeat(first|(with_reducible first|exact HB.out|apply below_alloc|apply pw_below_drewN|apply below_drew1|refine below_set ?_ L.out|refine below_set ?_ M.out)|exact HB.out))));have au:=zM (Kd.S_lower (Kd.S_new' (Kd.S_new' (Kd.S_new' (Kd.S_new' (Kd.S_new' (Kd.S_new' (Kd.S_new' (Kd.S_new' an (Kd.R_lt (sE A.out))) (Kd.R_lt (sE B.out))) (Kd.S_lt (sI aa.out))) (Kd.R_lt (sE D.out))) (Kd.R_lt (sE O.out))) (Kd.R_lt (sE P.out))) (Kd.S_lt (sI ai.out))) (Kd.R_lt (sE Q.out))) (below_size (by repeat(first|(with_reducible first|exact HB.out|apply below_alloc|apply pw_below_drewN|apply below_drew1|refine below_set ?_ L.out|refine below_set ?_ M.out)|exact HB.out))));replace aa:=zM (Kd.S_mono (Kd.S_told (Kd.S_told (Kd.S_told (Kd.S_told (Kd.S_old (sI aa.out) hb) (Kd.R_base m)) (Kd.R_base p)) (Kd.S_base an)) (Kd.R_base q)) (fun _ a=>a.1));replace ai:=zM (Kd.S_mono (Kd.S_told (Kd.S_told (Kd.S_told (Kd.S_told (Kd.S_old (sI ai.out) hb) (Kd.R_base m)) (Kd.R_base p)) (Kd.S_base an)) (Kd.R_base q)) (fun _ a=>a.1));have V:=zM (Kd.R_lower (Kd.R_new' (Kd.R_new' (Kd.R_new' (Kd.R_new' (Kd.R_new' (Kd.R_new' q (Kd.R_lt (sE A.out))) (Kd.R_lt (sE B.out))) (Kd.R_lt (sE D.out))) (Kd.R_lt (sE O.out))) (Kd.R_lt (sE P.out))) (Kd.R_lt (sE Q.out))) (below_size (by repeat(first|(with_reducible first|exact HB.out|apply below_alloc|apply pw_below_drewN|apply below_drew1|refine below_set ?_ L.out|refine below_set ?_ M.out)|exact HB.out))));replace A:=zM (Kd.R_mono (Kd.R_told (Kd.R_told (Kd.R_told (Kd.R_old (sE A.out) hb) (Kd.R_base m)) (Kd.R_base p)) (Kd.R_base q)) (fun _ a=>a.1));replace B:=zM (Kd.R_mono (Kd.R_told (Kd.R_told (Kd.R_told (Kd.R_old (sE B.out) hb) (Kd.R_base m)) (Kd.R_base p)) (Kd.R_base q)) (fun _ a=>a.1));replace D:=zM (Kd.R_mono (Kd.R_told (Kd.R_told (Kd.R_told (Kd.R_old (sE D.out) hb) (Kd.R_base m)) (Kd.R_base p)) (Kd.R_base q)) (fun _ a=>a.1));replace O:=zM (Kd.R_mono (Kd.R_told (Kd.R_told (Kd.R_told (Kd.R_old (sE O.out) hb) (Kd.R_base m)) (Kd.R_base p)) (Kd.R_base q)) (fun _ a=>a.1));replace P:=zM (Kd.R_mono (Kd.R_told (Kd.R_told (Kd.R_told (Kd.R_old (sE P.out) hb) (Kd.R_base m)) (Kd.R_base p)) (Kd.R_base q)) (fun _ a=>a.1));replace Q:=zM (Kd.R_mono (Kd.R_told (Kd.R_told (Kd.R_told (Kd.R_old (sE Q.out) hb) (Kd.R_base m)) (Kd.R_base p)) (Kd.R_base q)) (fun _ a=>a.1));replace j:=sK j hb;replace l:=sK l hb;replace HB:=sB HB hb;(try clear hb);(try clear aj);(try clear ak);(try clear al);(try clear am);(try clear m);(try clear p);(try clear an);(try clear q))|((with_reducible refine gate_dst (N:=7) rfl ?_);refine sV (N:=7) (cs:= #[.int .i64 0,.slice none 0 0,.slice none 0 0,.slice none 0 0,.slice none 0 0,.slice none 0 0,.int .i64 0,.slice none 0 0,.slice none 0 0,.slice none 0 0]) (t:=71) ?_;intro r hg i8 hbox hb;replace W:=zM (Kd.S_below (sI W.out) hb);replace X:=zM (Kd.R_below (sE X.out) hb);replace Y:=zM (Kd.S_below (sI Y.out) hb);replace Z:=zM (Kd.S_below (sI Z.out) hb);replace A:=zM (Kd.R_below (sE A.out) hb);replace B:=zM (Kd.R_below (sE B.out) hb);replace aa:=zM (Kd.S_below (sI aa.out) hb);replace D:=zM (Kd.R_below (sE D.out) hb);replace ae:=zM (Kd.S_below (sI ae.out) hb);replace af:=zM (Kd.R_below (sE af.out) hb);replace ag:=zM (Kd.S_below (sI ag.out) hb);replace ah:=zM (Kd.S_below (sI ah.out) hb);replace O:=zM (Kd.R_below (sE O.out) hb);replace P:=zM (Kd.R_below (sE P.out) hb);replace ai:=zM (Kd.S_below (sI ai.out) hb);replace Q:=zM (Kd.R_below (sE Q.out) hb);replace ao:=zM (Kd.S_below (sI ao.out) hb);replace ap:=zM (Kd.R_below (sE ap.out) hb);replace aq:=zM (Kd.S_below (sI aq.out) hb);replace ar:=zM (Kd.S_below (sI ar.out) hb);replace T:=zM (Kd.R_below (sE T.out) hb);replace U:=zM (Kd.R_below (sE U.out) hb);replace au:=zM (Kd.S_below (sI au.out) hb);replace V:=zM (Kd.R_below (sE V.out) hb);have d:=zM (hbox);have i9:=sG HB hg;have av:=sG HB hg;replace HB:=sB HB hb;have bI:=sN j hg;have fq:=sM j hg;replace j:=sK j hb;have bJ:=sN l hg;have fr:=sM l hg;replace l:=sK l hb;clear hb hbox hg;have ja:=fq.out;have jb:=bI.out;have jc:=fr.out;have jd:=bJ.out;obtain⟨je,jf,jg,jh,ji,jj,jk,jl,jm,jn,jo,jp,jq,jr,js,jt,ju,jv,jw,jx⟩:=cells10 d.out;obtain⟨ck,bT,fs⟩:=Kd.S_slice ao.out;subst fs;obtain⟨cl,bU,ft⟩:=Kd.R_slice ap.out;subst ft;obtain⟨cm,bV,fu⟩:=Kd.S_slice aq.out;subst fu;obtain⟨cn,bW,fv⟩:=Kd.S_slice ar.out;subst fv;obtain⟨aY,aS,fw⟩:=Kd.R_slice T.out;subst fw;obtain⟨aZ,aT,fx⟩:=Kd.R_slice U.out;subst fx;obtain⟨co,bX,fy⟩:=Kd.S_slice au.out;subst fy;obtain⟨a0,aU,fz⟩:=Kd.R_slice V.out;subst fz;obtain⟨jy,jz,jA,jB,jC,jD,jE,jF,jG,jH,jI,jJ,jK,jL,jM,jN,jO,jP,jQ,jR⟩:=cells10 l.out)|((with_reducible refine gate_callee (f:=27) rfl ?_);refine sC (some 28) Try.func27 #[.agg #[.int .i64 a1_0,.slice A1_1 l1_1.length c1_1,.slice A1_2 l1_2.length c1_2,.slice A1_3 l1_3.length c1_3,.slice A1_4 l1_4.length c1_4,.slice A1_5 l1_5.length c1_5,.int .i64 a1_6,.slice A1_7 l1_7.length c1_7,.slice A1_8 l1_8.length c1_8,.slice A1_9 l1_9.length c1_9]] (laws_toMemory.calls k a1_0 _ _ l1_1 _ _ l1_2 _ _ l1_3 _ _ l1_4 _ _ l1_5 a1_6 _ _ l1_7 _ _ l1_8 _ _ l1_9 bF bh bi bj bk aG bG aH bl aI _ ?side1 ?side2 ?side3 ?side4 ?side5 ?side6 ?side7 ?side8 ?side9 ?side10 ?side11 ?side12 ?side13 ?side14 ?side15 ?side16 fj.out) ?_;(case side1=>exact zC cv.out (by repeat(first|(with_reducible first|exact HB.out|apply below_alloc|apply pw_below_drewN|apply below_drew1|refine below_set ?_ L.out|refine below_set ?_ M.out|refine below_set ?_ av.out)|exact HB.out)));(case side2=>exact cw.out);(case side3=>exact zC cx.out (by repeat(first|(with_reducible first|exact HB.out|apply below_alloc|apply pw_below_drewN|apply below_drew1|refine below_set ?_ L.out|refine below_set ?_ M.out|refine below_set ?_ av.out)|exact HB.out)));(case side4=>exact cy.out);(case side5=>exact zC cz.out (by repeat(first|(with_reducible first|exact HB.out|apply below_alloc|apply pw_below_drewN|apply below_drew1|refine below_set ?_ L.out|refine below_set ?_ M.out|refine below_set ?_ av.out)|exact HB.out)));(case side6=>exact cA.out);(case side7=>exact zC cB.out (by repeat(first|(with_reducible first|exact HB.out|apply below_alloc|apply pw_below_drewN|apply below_drew1|refine below_set ?_ L.out|refine below_set ?_ M.out|refine below_set ?_ av.out)|exact HB.out)));(case side8=>exact cC.out);(case side9=>exact zC cD.out (by repeat(first|(with_reducible first|exact HB.out|apply below_alloc|apply pw_below_drewN|apply below_drew1|refine below_set ?_ L.out|refine below_set ?_ M.out|refine below_set ?_ av.out)|exact HB.out)));(case side10=>exact cE.out);(case side11=>exact zC cF.out (by repeat(first|(with_reducible first|exact HB.out|apply below_alloc|apply pw_below_drewN|apply below_drew1|refine below_set ?_ L.out|refine below_set ?_ M.out|refine below_set ?_ av.out)|exact HB.out)));(case side12=>exact cG.out);(case side13=>exact zC cH.out (by repeat(first|(with_reducible first|exact HB.out|apply below_alloc|apply pw_below_drewN|apply below_drew1|refine below_set ?_ L.out|refine below_set ?_ M.out|refine below_set ?_ av.out)|exact HB.out)));(case side14=>exact cI.out);(case side15=>exact zC cJ.out (by repeat(first|(with_reducible first|exact HB.out|apply below_alloc|apply pw_below_drewN|apply below_drew1|refine below_set ?_ L.out|refine below_set ?_ M.out|refine below_set ?_ av.out)|exact HB.out)));(case side16=>exact cK.out);rintro e jS ⟨jT,jU,jV,jW,jX,jY,jZ,j0,rfl,aj,ak,al,am,m,p,an,q,hb⟩;refine⟨_,rfl,?_⟩;have c0:=zM (Kd.S_elder' (by(with_reducible repeat(first|apply Kd.S_alloc|apply Kd.S_drewN|apply Kd.S_drew));exact(Kd.S_mono (sSF10 (g:=r) (Kd.S_types W.out d.out (by decide)) (fun _ hk=>hk.2)) (fun _ a=>a.1))) (Kd.S_base aj) hb);have c1:=zM (Kd.R_elder' (by(with_reducible repeat(first|apply Kd.R_alloc|apply Kd.R_drewN|apply Kd.R_drew));exact(Kd.R_mono (sRF10 (g:=r) (Kd.R_types X.out d.out (by decide)) (fun _ hk=>hk.2)) (fun _ a=>a.1))) (Kd.R_base ak) hb);have c2:=zM (Kd.S_mono (Kd.S_told (Kd.S_told (Kd.S_told (Kd.S_told (Kd.S_old (by(with_reducible repeat(first|apply Kd.S_alloc|apply Kd.S_drewN|apply Kd.S_drew));exact(Kd.S_mono (sSF10 (g:=r) (Kd.S_types Y.out d.out (by decide)) (fun _ hk=>hk.2)) (fun _ a=>a.1))) hb) (Kd.S_base al)) (Kd.R_base m)) (Kd.R_base p)) (Kd.R_base q)) (fun _ a=>a.1));have c3:=zM (Kd.S_mono (Kd.S_told (Kd.S_told (Kd.S_told (Kd.S_told (Kd.S_old (by(with_reducible repeat(first|apply Kd.S_alloc|apply Kd.S_drewN|apply Kd.S_drew));exact(Kd.S_mono (sSF10 (g:=r) (Kd.S_types Z.out d.out (by decide)) (fun _ hk=>hk.2)) (fun _ a=>a.1))) hb) (Kd.S_base am)) (Kd.R_base m)) (Kd.R_base p)) (Kd.R_base q)) (fun _ a=>a.1));have c5:=zM (Kd.R_mono (Kd.R_told (Kd.R_told (Kd.R_told (Kd.R_old (by(with_reducible repeat(first|apply Kd.R_alloc|apply Kd.R_drewN|apply Kd.R_drew));exact(Kd.R_mono (sRF10 (g:=r) (Kd.R_types A.out d.out (by decide)) (fun _ hk=>hk.2)) (fun _ a=>a.1))) hb) (Kd.R_base m)) (Kd.R_base p)) (Kd.R_base q)) (fun _ a=>a.1));have c6:=zM (Kd.R_mono (Kd.R_told (Kd.R_told (Kd.R_told (Kd.R_old (by(with_reducible repeat(first|apply Kd.R_alloc|apply Kd.R_drewN|apply Kd.R_drew));exact(Kd.R_mono (sRF10 (g:=r) (Kd.R_types B.out d.out (by decide)) (fun _ hk=>hk.2)) (fun _ a=>a.1))) hb) (Kd.R_base m)) (Kd.R_base p)) (Kd.R_base q)) (fun _ a=>a.1));have c7:=zM (Kd.S_mono (Kd.S_told (Kd.S_told (Kd.S_told (Kd.S_told (Kd.S_old (by(with_reducible repeat(first|apply Kd.S_alloc|apply Kd.S_drewN|apply Kd.S_drew));exact(Kd.S_mono (sSF10 (g:=r) (Kd.S_types aa.out d.out (by decide)) (fun _ hk=>hk.2)) (fun _ a=>a.1))) hb) (Kd.R_base m)) (Kd.R_base p)) (Kd.S_base an)) (Kd.R_base q)) (fun _ a=>a.1));have c8:=zM (Kd.R_mono (Kd.R_told (Kd.R_told (Kd.R_told (Kd.R_old (by(with_reducible repeat(first|apply Kd.R_alloc|apply Kd.R_drewN|apply Kd.R_drew));exact(Kd.R_mono (sRF10 (g:=r) (Kd.R_types D.out d.out (by decide)) (fun _ hk=>hk.2)) (fun _ a=>a.1))) hb) (Kd.R_base m)) (Kd.R_base p)) (Kd.R_base q)) (fun _ a=>a.1));have c9:=zM (Kd.S_elder' (by(with_reducible repeat(first|apply Kd.S_alloc|apply Kd.S_drewN|apply Kd.S_drew));exact(Kd.S_mono (sSF10 (g:=r) (Kd.S_types ae.out d.out (by decide)) (fun _ hk=>hk.2)) (fun _ a=>a.1))) (Kd.S_base aj) hb);have da:=zM (Kd.R_elder' (by(with_reducible repeat(first|apply Kd.R_alloc|apply Kd.R_drewN|apply Kd.R_drew));exact(Kd.R_mono (sRF10 (g:=r) (Kd.R_types af.out d.out (by decide)) (fun _ hk=>hk.2)) (fun _ a=>a.1))) (Kd.R_base ak) hb);have db:=zM (Kd.S_mono (Kd.S_told (Kd.S_told (Kd.S_told (Kd.S_told (Kd.S_old (by(with_reducible repeat(first|apply Kd.S_alloc|apply Kd.S_drewN|apply Kd.S_drew));exact(Kd.S_mono (sSF10 (g:=r) (Kd.S_types ag.out d.out (by decide)) (fun _ hk=>hk.2)) (fun _ a=>a.1))) hb) (Kd.S_base al)) (Kd.R_base m)) (Kd.R_base p)) (Kd.R_base q)) (fun _ a=>a.1));have dc:=zM (Kd.S_mono (Kd.S_told (Kd.S_told (Kd.S_told (Kd.S_told (Kd.S_old (by(with_reducible repeat(first|apply Kd.S_alloc|apply Kd.S_drewN|apply Kd.S_drew));exact(Kd.S_mono (sSF10 (g:=r) (Kd.S_types ah.out d.out (by decide)) (fun _ hk=>hk.2)) (fun _ a=>a.1))) hb) (Kd.S_base am)) (Kd.R_base m)) (Kd.R_base p)) (Kd.R_base q)) (fun _ a=>a.1));have dd:=zM (Kd.R_mono (Kd.R_told (Kd.R_told (Kd.R_told (Kd.R_old (by(with_reducible repeat(first|apply Kd.R_alloc|apply Kd.R_drewN|apply Kd.R_drew));exact(Kd.R_mono (sRF10 (g:=r) (Kd.R_types O.out d.out (by decide)) (fun _ hk=>hk.2)) (fun _ a=>a.1))) hb) (Kd.R_base m)) (Kd.R_base p)) (Kd.R_base q)) (fun _ a=>a.1));have de:=zM (Kd.R_mono (Kd.R_told (Kd.R_told (Kd.R_told (Kd.R_old (by(with_reducible repeat(first|apply Kd.R_alloc|apply Kd.R_drewN|apply Kd.R_drew));exact(Kd.R_mono (sRF10 (g:=r) (Kd.R_types P.out d.out (by decide)) (fun _ hk=>hk.2)) (fun _ a=>a.1))) hb) (Kd.R_base m)) (Kd.R_base p)) (Kd.R_base q)) (fun _ a=>a.1));have df:=zM (Kd.S_mono (Kd.S_told (Kd.S_told (Kd.S_told (Kd.S_told (Kd.S_old (by(with_reducible repeat(first|apply Kd.S_alloc|apply Kd.S_drewN|apply Kd.S_drew));exact(Kd.S_mono (sSF10 (g:=r) (Kd.S_types ai.out d.out (by decide)) (fun _ hk=>hk.2)) (fun _ a=>a.1))) hb) (Kd.R_base m)) (Kd.R_base p)) (Kd.S_base an)) (Kd.R_base q)) (fun _ a=>a.1));have dg:=zM (Kd.R_mono (Kd.R_told (Kd.R_told (Kd.R_told (Kd.R_old (by(with_reducible repeat(first|apply Kd.R_alloc|apply Kd.R_drewN|apply Kd.R_drew));exact(Kd.R_mono (sRF10 (g:=r) (Kd.R_types Q.out d.out (by decide)) (fun _ hk=>hk.2)) (fun _ a=>a.1))) hb) (Kd.R_base m)) (Kd.R_base p)) (Kd.R_base q)) (fun _ a=>a.1));have dh:=zM (Kd.S_elder' (by(with_reducible repeat(first|apply Kd.S_alloc|apply Kd.S_drewN|apply Kd.S_drew));exact(Kd.S_mono (sSF10 (g:=r) (Kd.S_types ao.out d.out (by decide)) (fun _ hk=>hk.2)) (fun _ a=>a.1))) (Kd.S_base aj) hb);have di:=zM (Kd.R_elder' (by(with_reducible repeat(first|apply Kd.R_alloc|apply Kd.R_drewN|apply Kd.R_drew));exact(Kd.R_mono (sRF10 (g:=r) (Kd.R_types ap.out d.out (by decide)) (fun _ hk=>hk.2)) (fun _ a=>a.1))) (Kd.R_base ak) hb);have dj:=zM (Kd.S_mono (Kd.S_told (Kd.S_told (Kd.S_told (Kd.S_told (Kd.S_old (by(with_reducible repeat(first|apply Kd.S_alloc|apply Kd.S_drewN|apply Kd.S_drew));exact(Kd.S_mono (sSF10 (g:=r) (Kd.S_types aq.out d.out (by decide)) (fun _ hk=>hk.2)) (fun _ a=>a.1))) hb) (Kd.S_base al)) (Kd.R_base m)) (Kd.R_base p)) (Kd.R_base q)) (fun _ a=>a.1));have dk:=zM (Kd.S_mono (Kd.S_told (Kd.S_told (Kd.S_told (Kd.S_told (Kd.S_old (by(with_reducible repeat(first|apply Kd.S_alloc|apply Kd.S_drewN|apply Kd.S_drew));exact(Kd.S_mono (sSF10 (g:=r) (Kd.S_types ar.out d.out (by decide)) (fun _ hk=>hk.2)) (fun _ a=>a.1))) hb) (Kd.S_base am)) (Kd.R_base m)) (Kd.R_base p)) (Kd.R_base q)) (fun _ a=>a.1));have dl:=zM (Kd.R_mono (Kd.R_told (Kd.R_told (Kd.R_told (Kd.R_old (by(with_reducible repeat(first|apply Kd.R_alloc|apply Kd.R_drewN|apply Kd.R_drew));exact(Kd.R_mono (sRF10 (g:=r) (Kd.R_types T.out d.out (by decide)) (fun _ hk=>hk.2)) (fun _ a=>a.1))) hb) (Kd.R_base m)) (Kd.R_base p)) (Kd.R_base q)) (fun _ a=>a.1));have dm:=zM (Kd.R_mono (Kd.R_told (Kd.R_told (Kd.R_told (Kd.R_old (by(with_reducible repeat(first|apply Kd.R_alloc|apply Kd.R_drewN|apply Kd.R_drew));exact(Kd.R_mono (sRF10 (g:=r) (Kd.R_types U.out d.out (by decide)) (fun _ hk=>hk.2)) (fun _ a=>a.1))) hb) (Kd.R_base m)) (Kd.R_base p)) (Kd.R_base q)) (fun _ a=>a.1));have dn:=zM (Kd.S_mono (Kd.S_told (Kd.S_told (Kd.S_told (Kd.S_told (Kd.S_old (by(with_reducible repeat(first|apply Kd.S_alloc|apply Kd.S_drewN|apply Kd.S_drew));exact(Kd.S_mono (sSF10 (g:=r) (Kd.S_types au.out d.out (by decide)) (fun _ hk=>hk.2)) (fun _ a=>a.1))) hb) (Kd.R_base m)) (Kd.R_base p)) (Kd.S_base an)) (Kd.R_base q)) (fun _ a=>a.1));have dp:=zM (Kd.R_mono (Kd.R_told (Kd.R_told (Kd.R_told (Kd.R_old (by(with_reducible repeat(first|apply Kd.R_alloc|apply Kd.R_drewN|apply Kd.R_drew));exact(Kd.R_mono (sRF10 (g:=r) (Kd.R_types V.out d.out (by decide)) (fun _ hk=>hk.2)) (fun _ a=>a.1))) hb) (Kd.R_base m)) (Kd.R_base p)) (Kd.R_base q)) (fun _ a=>a.1));have dq:=zM (Kd.S_lower (Kd.S_new' (Kd.S_new' (Kd.S_new' aj (Kd.S_lt (by(with_reducible repeat(first|apply Kd.S_alloc|apply Kd.S_drewN|apply Kd.S_drew));exact(Kd.S_mono (sSF10 (g:=r) (Kd.S_types W.out d.out (by decide)) (fun _ hk=>hk.2)) (fun _ a=>a.1))))) (Kd.S_lt (by(with_reducible repeat(first|apply Kd.S_alloc|apply Kd.S_drewN|apply Kd.S_drew));exact(Kd.S_mono (sSF10 (g:=r) (Kd.S_types ae.out d.out (by decide)) (fun _ hk=>hk.2)) (fun _ a=>a.1))))) (Kd.S_lt (by(with_reducible repeat(first|apply Kd.S_alloc|apply Kd.S_drewN|apply Kd.S_drew));exact(Kd.S_mono (sSF10 (g:=r) (Kd.S_types ao.out d.out (by decide)) (fun _ hk=>hk.2)) (fun _ a=>a.1))))) (below_size (by repeat(first|(with_reducible first|exact HB.out|apply below_alloc|apply pw_below_drewN|apply below_drew1|refine below_set ?_ L.out|refine below_set ?_ M.out|refine below_set ?_ av.out)|exact HB.out))));have dr:=zM (Kd.R_lower (Kd.R_new' (Kd.R_new' (Kd.R_new' ak (Kd.R_lt (by(with_reducible repeat(first|apply Kd.R_alloc|apply Kd.R_drewN|apply Kd.R_drew));exact(Kd.R_mono (sRF10 (g:=r) (Kd.R_types X.out d.out (by decide)) (fun _ hk=>hk.2)) (fun _ a=>a.1))))) (Kd.R_lt (by(with_reducible repeat(first|apply Kd.R_alloc|apply Kd.R_drewN|apply Kd.R_drew));exact(Kd.R_mono (sRF10 (g:=r) (Kd.R_types af.out d.out (by decide)) (fun _ hk=>hk.2)) (fun _ a=>a.1))))) (Kd.R_lt (by(with_reducible repeat(first|apply Kd.R_alloc|apply Kd.R_drewN|apply Kd.R_drew));exact(Kd.R_mono (sRF10 (g:=r) (Kd.R_types ap.out d.out (by decide)) (fun _ hk=>hk.2)) (fun _ a=>a.1))))) (below_size (by repeat(first|(with_reducible first|exact HB.out|apply below_alloc|apply pw_below_drewN|apply below_drew1|refine below_set ?_ L.out|refine below_set ?_ M.out|refine below_set ?_ av.out)|exact HB.out))));have dt:=zM (Kd.S_lower (Kd.S_new' (Kd.S_new' (Kd.S_new' (Kd.S_new' (Kd.S_new' (Kd.S_new' (Kd.S_new' (Kd.S_new' (Kd.S_new' (Kd.S_new' (Kd.S_new' (Kd.S_new' al (Kd.S_lt (by(with_reducible repeat(first|apply Kd.S_alloc|apply Kd.S_drewN|apply Kd.S_drew));exact(Kd.S_mono (sSF10 (g:=r) (Kd.S_types Y.out d.out (by decide)) (fun _ hk=>hk.2)) (fun _ a=>a.1))))) (Kd.R_lt (by(with_reducible repeat(first|apply Kd.R_alloc|apply Kd.R_drewN|apply Kd.R_drew));exact(Kd.R_mono (sRF10 (g:=r) (Kd.R_types A.out d.out (by decide)) (fun _ hk=>hk.2)) (fun _ a=>a.1))))) (Kd.R_lt (by(with_reducible repeat(first|apply Kd.R_alloc|apply Kd.R_drewN|apply Kd.R_drew));exact(Kd.R_mono (sRF10 (g:=r) (Kd.R_types B.out d.out (by decide)) (fun _ hk=>hk.2)) (fun _ a=>a.1))))) (Kd.R_lt (by(with_reducible repeat(first|apply Kd.R_alloc|apply Kd.R_drewN|apply Kd.R_drew));exact(Kd.R_mono (sRF10 (g:=r) (Kd.R_types D.out d.out (by decide)) (fun _ hk=>hk.2)) (fun _ a=>a.1))))) (Kd.S_lt (by(with_reducible repeat(first|apply Kd.S_alloc|apply Kd.S_drewN|apply Kd.S_drew));exact(Kd.S_mono (sSF10 (g:=r) (Kd.S_types ag.out d.out (by decide)) (fun _ hk=>hk.2)) (fun _ a=>a.1))))) (Kd.R_lt (by(with_reducible repeat(first|apply Kd.R_alloc|apply Kd.R_drewN|apply Kd.R_drew));exact(Kd.R_mono (sRF10 (g:=r) (Kd.R_types O.out d.out (by decide)) (fun _ hk=>hk.2)) (fun _ a=>a.1))))) (Kd.R_lt (by(with_reducible repeat(first|apply Kd.R_alloc|apply Kd.R_drewN|apply Kd.R_drew));exact(Kd.R_mono (sRF10 (g:=r) (Kd.R_types P.out d.out (by decide)) (fun _ hk=>hk.2)) (fun _ a=>a.1))))) (Kd.R_lt (by(with_reducible repeat(first|apply Kd.R_alloc|apply Kd.R_drewN|apply Kd.R_drew));exact(Kd.R_mono (sRF10 (g:=r) (Kd.R_types Q.out d.out (by decide)) (fun _ hk=>hk.2)) (fun _ a=>a.1))))) (Kd.S_lt (by(with_reducible repeat(first|apply Kd.S_alloc|apply Kd.S_drewN|apply Kd.S_drew));exact(Kd.S_mono (sSF10 (g:=r) (Kd.S_types aq.out d.out (by decide)) (fun _ hk=>hk.2)) (fun _ a=>a.1))))) (Kd.R_lt (by(with_reducible repeat(first|apply Kd.R_alloc|apply Kd.R_drewN|apply Kd.R_drew));exact(Kd.R_mono (sRF10 (g:=r) (Kd.R_types T.out d.out (by decide)) (fun _ hk=>hk.2)) (fun _ a=>a.1))))) (Kd.R_lt (by(with_reducible repeat(first|apply Kd.R_alloc|apply Kd.R_drewN|apply Kd.R_drew));exact(Kd.R_mono (sRF10 (g:=r) (Kd.R_types U.out d.out (by decide)) (fun _ hk=>hk.2)) (fun _ a=>a.1))))) (Kd.R_lt (by(with_reducible repeat(first|apply Kd.R_alloc|apply Kd.R_drewN|apply Kd.R_drew));exact(Kd.R_mono (sRF10 (g:=r) (Kd.R_types V.out d.out (by decide)) (fun _ hk=>hk.2)) (fun _ a=>a.1))))) (below_size (by repeat(first|(with_reducible first|exact HB.out|apply below_alloc|apply pw_below_drewN|apply below_drew1|refine below_set ?_ L.out|refine below_set ?_ M.out|refine below_set ?_ av.out)|exact HB.out))));have du:=zM (Kd.S_lower (Kd.S_new' (Kd.S_new' (Kd.S_new' (Kd.S_new' (Kd.S_new' (Kd.S_new' (Kd.S_new' (Kd.S_new' (Kd.S_new' (Kd.S_new' (Kd.S_new' (Kd.S_new' am (Kd.S_lt (by(with_reducible repeat(first|apply Kd.S_alloc|apply Kd.S_drewN|apply Kd.S_drew));exact(Kd.S_mono (sSF10 (g:=r) (Kd.S_types Z.out d.out (by decide)) (fun _ hk=>hk.2)) (fun _ a=>a.1))))) (Kd.R_lt (by(with_reducible repeat(first|apply Kd.R_alloc|apply Kd.R_drewN|apply Kd.R_drew));exact(Kd.R_mono (sRF10 (g:=r) (Kd.R_types A.out d.out (by decide)) (fun _ hk=>hk.2)) (fun _ a=>a.1))))) (Kd.R_lt (by(with_reducible repeat(first|apply Kd.R_alloc|apply Kd.R_drewN|apply Kd.R_drew));exact(Kd.R_mono (sRF10 (g:=r) (Kd.R_types B.out d.out (by decide)) (fun _ hk=>hk.2)) (fun _ a=>a.1))))) (Kd.R_lt (by(with_reducible repeat(first|apply Kd.R_alloc|apply Kd.R_drewN|apply Kd.R_drew));exact(Kd.R_mono (sRF10 (g:=r) (Kd.R_types D.out d.out (by decide)) (fun _ hk=>hk.2)) (fun _ a=>a.1))))) (Kd.S_lt (by(with_reducible repeat(first|apply Kd.S_alloc|apply Kd.S_drewN|apply Kd.S_drew));exact(Kd.S_mono (sSF10 (g:=r) (Kd.S_types ah.out d.out (by decide)) (fun _ hk=>hk.2)) (fun _ a=>a.1))))) (Kd.R_lt (by(with_reducible repeat(first|apply Kd.R_alloc|apply Kd.R_drewN|apply Kd.R_drew));exact(Kd.R_mono (sRF10 (g:=r) (Kd.R_types O.out d.out (by decide)) (fun _ hk=>hk.2)) (fun _ a=>a.1))))) (Kd.R_lt (by(with_reducible repeat(first|apply Kd.R_alloc|apply Kd.R_drewN|apply Kd.R_drew));exact(Kd.R_mono (sRF10 (g:=r) (Kd.R_types P.out d.out (by decide)) (fun _ hk=>hk.2)) (fun _ a=>a.1))))) (Kd.R_lt (by(with_reducible repeat(first|apply Kd.R_alloc|apply Kd.R_drewN|apply Kd.R_drew));exact(Kd.R_mono (sRF10 (g:=r) (Kd.R_types Q.out d.out (by decide)) (fun _ hk=>hk.2)) (fun _ a=>a.1))))) (Kd.S_lt (by(with_reducible repeat(first|apply Kd.S_alloc|apply Kd.S_drewN|apply Kd.S_drew));exact(Kd.S_mono (sSF10 (g:=r) (Kd.S_types ar.out d.out (by decide)) (fun _ hk=>hk.2)) (fun _ a=>a.1))))) (Kd.R_lt (by(with_reducible repeat(first|apply Kd.R_alloc|apply Kd.R_drewN|apply Kd.R_drew));exact(Kd.R_mono (sRF10 (g:=r) (Kd.R_types T.out d.out (by decide)) (fun _ hk=>hk.2)) (fun _ a=>a.1))))) (Kd.R_lt (by(with_reducible repeat(first|apply Kd.R_alloc|apply Kd.R_drewN|apply Kd.R_drew));exact(Kd.R_mono (sRF10 (g:=r) (Kd.R_types U.out d.out (by decide)) (fun _ hk=>hk.2)) (fun _ a=>a.1))))) (Kd.R_lt (by(with_reducible repeat(first|apply Kd.R_alloc|apply Kd.R_drewN|apply Kd.R_drew));exact(Kd.R_mono (sRF10 (g:=r) (Kd.R_types V.out d.out (by decide)) (fun _ hk=>hk.2)) (fun _ a=>a.1))))) (below_size (by repeat(first|(with_reducible first|exact HB.out|apply below_alloc|apply pw_below_drewN|apply below_drew1|refine below_set ?_ L.out|refine below_set ?_ M.out|refine below_set ?_ av.out)|exact HB.out))));have dv:=zM (Kd.R_lower (Kd.R_new' (Kd.R_new' (Kd.R_new' (Kd.R_new' (Kd.R_new' (Kd.R_new' (Kd.R_new' (Kd.R_new' (Kd.R_new' m (Kd.R_lt (by(with_reducible repeat(first|apply Kd.R_alloc|apply Kd.R_drewN|apply Kd.R_drew));exact(Kd.R_mono (sRF10 (g:=r) (Kd.R_types A.out d.out (by decide)) (fun _ hk=>hk.2)) (fun _ a=>a.1))))) (Kd.R_lt (by(with_reducible repeat(first|apply Kd.R_alloc|apply Kd.R_drewN|apply Kd.R_drew));exact(Kd.R_mono (sRF10 (g:=r) (Kd.R_types B.out d.out (by decide)) (fun _ hk=>hk.2)) (fun _ a=>a.1))))) (Kd.R_lt (by(with_reducible repeat(first|apply Kd.R_alloc|apply Kd.R_drewN|apply Kd.R_drew));exact(Kd.R_mono (sRF10 (g:=r) (Kd.R_types D.out d.out (by decide)) (fun _ hk=>hk.2)) (fun _ a=>a.1))))) (Kd.R_lt (by(with_reducible repeat(first|apply Kd.R_alloc|apply Kd.R_drewN|apply Kd.R_drew));exact(Kd.R_mono (sRF10 (g:=r) (Kd.R_types O.out d.out (by decide)) (fun _ hk=>hk.2)) (fun _ a=>a.1))))) (Kd.R_lt (by(with_reducible repeat(first|apply Kd.R_alloc|apply Kd.R_drewN|apply Kd.R_drew));exact(Kd.R_mono (sRF10 (g:=r) (Kd.R_types P.out d.out (by decide)) (fun _ hk=>hk.2)) (fun _ a=>a.1))))) (Kd.R_lt (by(with_reducible repeat(first|apply Kd.R_alloc|apply Kd.R_drewN|apply Kd.R_drew));exact(Kd.R_mono (sRF10 (g:=r) (Kd.R_types Q.out d.out (by decide)) (fun _ hk=>hk.2)) (fun _ a=>a.1))))) (Kd.R_lt (by(with_reducible repeat(first|apply Kd.R_alloc|apply Kd.R_drewN|apply Kd.R_drew));exact(Kd.R_mono (sRF10 (g:=r) (Kd.R_types T.out d.out (by decide)) (fun _ hk=>hk.2)) (fun _ a=>a.1))))) (Kd.R_lt (by(with_reducible repeat(first|apply Kd.R_alloc|apply Kd.R_drewN|apply Kd.R_drew));exact(Kd.R_mono (sRF10 (g:=r) (Kd.R_types U.out d.out (by decide)) (fun _ hk=>hk.2)) (fun _ a=>a.1))))) (Kd.R_lt (by(with_reducible repeat(first|apply Kd.R_alloc|apply Kd.R_drewN|apply Kd.R_drew));exact(Kd.R_mono (sRF10 (g:=r) (Kd.R_types V.out d.out (by decide)) (fun _ hk=>hk.2)) (fun _ a=>a.1))))) (below_size (by repeat(first|(with_reducible first|exact HB.out|apply below_alloc|apply pw_below_drewN|apply below_drew1|refine below_set ?_ L.out|refine below_set ?_ M.out|refine below_set ?_ av.out)|exact HB.out))));have dw:=zM (Kd.R_lower (Kd.R_new' (Kd.R_new' (Kd.R_new' (Kd.R_new' (Kd.R_new' (Kd.R_new' (Kd.R_new' (Kd.R_new' (Kd.R_new' p (Kd.R_lt (by(with_reducible repeat(first|apply Kd.R_alloc|apply Kd.R_drewN|apply Kd.R_drew));exact(Kd.R_mono (sRF10 (g:=r) (Kd.R_types A.out d.out (by decide)) (fun _ hk=>hk.2)) (fun _ a=>a.1))))) (Kd.R_lt (by(with_reducible repeat(first|apply Kd.R_alloc|apply Kd.R_drewN|apply Kd.R_drew));exact(Kd.R_mono (sRF10 (g:=r) (Kd.R_types B.out d.out (by decide)) (fun _ hk=>hk.2)) (fun _ a=>a.1))))) (Kd.R_lt (by(with_reducible repeat(first|apply Kd.R_alloc|apply Kd.R_drewN|apply Kd.R_drew));exact(Kd.R_mono (sRF10 (g:=r) (Kd.R_types D.out d.out (by decide)) (fun _ hk=>hk.2)) (fun _ a=>a.1))))) (Kd.R_lt (by(with_reducible repeat(first|apply Kd.R_alloc|apply Kd.R_drewN|apply Kd.R_drew));exact(Kd.R_mono (sRF10 (g:=r) (Kd.R_types O.out d.out (by decide)) (fun _ hk=>hk.2)) (fun _ a=>a.1))))) (Kd.R_lt (by(with_reducible repeat(first|apply Kd.R_alloc|apply Kd.R_drewN|apply Kd.R_drew));exact(Kd.R_mono (sRF10 (g:=r) (Kd.R_types P.out d.out (by decide)) (fun _ hk=>hk.2)) (fun _ a=>a.1))))) (Kd.R_lt (by(with_reducible repeat(first|apply Kd.R_alloc|apply Kd.R_drewN|apply Kd.R_drew));exact(Kd.R_mono (sRF10 (g:=r) (Kd.R_types Q.out d.out (by decide)) (fun _ hk=>hk.2)) (fun _ a=>a.1))))) (Kd.R_lt (by(with_reducible repeat(first|apply Kd.R_alloc|apply Kd.R_drewN|apply Kd.R_drew));exact(Kd.R_mono (sRF10 (g:=r) (Kd.R_types T.out d.out (by decide)) (fun _ hk=>hk.2)) (fun _ a=>a.1))))) (Kd.R_lt (by(with_reducible repeat(first|apply Kd.R_alloc|apply Kd.R_drewN|apply Kd.R_drew));exact(Kd.R_mono (sRF10 (g:=r) (Kd.R_types U.out d.out (by decide)) (fun _ hk=>hk.2)) (fun _ a=>a.1))))) (Kd.R_lt (by(with_reducible repeat(first|apply Kd.R_alloc|apply Kd.R_drewN|apply Kd.R_drew));exact(Kd.R_mono (sRF10 (g:=r) (Kd.R_types V.out d.out (by decide)) (fun _ hk=>hk.2)) (fun _ a=>a.1))))) (below_size (by repeat(first|(with_reducible first|exact HB.out|apply below_alloc|apply pw_below_drewN|apply below_drew1|refine below_set ?_ L.out|refine below_set ?_ M.out|refine below_set ?_ av.out)|exact HB.out))));have dx:=zM (Kd.S_lower (Kd.S_new' (Kd.S_new' (Kd.S_new' (Kd.S_new' (Kd.S_new' (Kd.S_new' (Kd.S_new' (Kd.S_new' (Kd.S_new' (Kd.S_new' (Kd.S_new' (Kd.S_new' an (Kd.R_lt (by(with_reducible repeat(first|apply Kd.R_alloc|apply Kd.R_drewN|apply Kd.R_drew));exact(Kd.R_mono (sRF10 (g:=r) (Kd.R_types A.out d.out (by decide)) (fun _ hk=>hk.2)) (fun _ a=>a.1))))) (Kd.R_lt (by(with_reducible repeat(first|apply Kd.R_alloc|apply Kd.R_drewN|apply Kd.R_drew));exact(Kd.R_mono (sRF10 (g:=r) (Kd.R_types B.out d.out (by decide)) (fun _ hk=>hk.2)) (fun _ a=>a.1))))) (Kd.S_lt (by(with_reducible repeat(first|apply Kd.S_alloc|apply Kd.S_drewN|apply Kd.S_drew));exact(Kd.S_mono (sSF10 (g:=r) (Kd.S_types aa.out d.out (by decide)) (fun _ hk=>hk.2)) (fun _ a=>a.1))))) (Kd.R_lt (by(with_reducible repeat(first|apply Kd.R_alloc|apply Kd.R_drewN|apply Kd.R_drew));exact(Kd.R_mono (sRF10 (g:=r) (Kd.R_types D.out d.out (by decide)) (fun _ hk=>hk.2)) (fun _ a=>a.1))))) (Kd.R_lt (by(with_reducible repeat(first|apply Kd.R_alloc|apply Kd.R_drewN|apply Kd.R_drew));exact(Kd.R_mono (sRF10 (g:=r) (Kd.R_types O.out d.out (by decide)) (fun _ hk=>hk.2)) (fun _ a=>a.1))))) (Kd.R_lt (by(with_reducible repeat(first|apply Kd.R_alloc|apply Kd.R_drewN|apply Kd.R_drew));exact(Kd.R_mono (sRF10 (g:=r) (Kd.R_types P.out d.out (by decide)) (fun _ hk=>hk.2)) (fun _ a=>a.1))))) (Kd.S_lt (by(with_reducible repeat(first|apply Kd.S_alloc|apply Kd.S_drewN|apply Kd.S_drew));exact(Kd.S_mono (sSF10 (g:=r) (Kd.S_types ai.out d.out (by decide)) (fun _ hk=>hk.2)) (fun _ a=>a.1))))) (Kd.R_lt (by(with_reducible repeat(first|apply Kd.R_alloc|apply Kd.R_drewN|apply Kd.R_drew));exact(Kd.R_mono (sRF10 (g:=r) (Kd.R_types Q.out d.out (by decide)) (fun _ hk=>hk.2)) (fun _ a=>a.1))))) (Kd.R_lt (by(with_reducible repeat(first|apply Kd.R_alloc|apply Kd.R_drewN|apply Kd.R_drew));exact(Kd.R_mono (sRF10 (g:=r) (Kd.R_types T.out d.out (by decide)) (fun _ hk=>hk.2)) (fun _ a=>a.1))))) (Kd.R_lt (by(with_reducible repeat(first|apply Kd.R_alloc|apply Kd.R_drewN|apply Kd.R_drew));exact(Kd.R_mono (sRF10 (g:=r) (Kd.R_types U.out d.out (by decide)) (fun _ hk=>hk.2)) (fun _ a=>a.1))))) (Kd.S_lt (by(with_reducible repeat(first|apply Kd.S_alloc|apply Kd.S_drewN|apply Kd.S_drew));exact(Kd.S_mono (sSF10 (g:=r) (Kd.S_types au.out d.out (by decide)) (fun _ hk=>hk.2)) (fun _ a=>a.1))))) (Kd.R_lt (by(with_reducible repeat(first|apply Kd.R_alloc|apply Kd.R_drewN|apply Kd.R_drew));exact(Kd.R_mono (sRF10 (g:=r) (Kd.R_types V.out d.out (by decide)) (fun _ hk=>hk.2)) (fun _ a=>a.1))))) (below_size (by repeat(first|(with_reducible first|exact HB.out|apply below_alloc|apply pw_below_drewN|apply below_drew1|refine below_set ?_ L.out|refine below_set ?_ M.out|refine below_set ?_ av.out)|exact HB.out))));have dy:=zM (Kd.R_lower (Kd.R_new' (Kd.R_new' (Kd.R_new' (Kd.R_new' (Kd.R_new' (Kd.R_new' (Kd.R_new' (Kd.R_new' (Kd.R_new' q (Kd.R_lt (by(with_reducible repeat(first|apply Kd.R_alloc|apply Kd.R_drewN|apply Kd.R_drew));exact(Kd.R_mono (sRF10 (g:=r) (Kd.R_types A.out d.out (by decide)) (fun _ hk=>hk.2)) (fun _ a=>a.1))))) (Kd.R_lt (by(with_reducible repeat(first|apply Kd.R_alloc|apply Kd.R_drewN|apply Kd.R_drew));exact(Kd.R_mono (sRF10 (g:=r) (Kd.R_types B.out d.out (by decide)) (fun _ hk=>hk.2)) (fun _ a=>a.1))))) (Kd.R_lt (by(with_reducible repeat(first|apply Kd.R_alloc|apply Kd.R_drewN|apply Kd.R_drew));exact(Kd.R_mono (sRF10 (g:=r) (Kd.R_types D.out d.out (by decide)) (fun _ hk=>hk.2)) (fun _ a=>a.1))))) (Kd.R_lt (by(with_reducible repeat(first|apply Kd.R_alloc|apply Kd.R_drewN|apply Kd.R_drew));exact(Kd.R_mono (sRF10 (g:=r) (Kd.R_types O.out d.out (by decide)) (fun _ hk=>hk.2)) (fun _ a=>a.1))))) (Kd.R_lt (by(with_reducible repeat(first|apply Kd.R_alloc|apply Kd.R_drewN|apply Kd.R_drew));exact(Kd.R_mono (sRF10 (g:=r) (Kd.R_types P.out d.out (by decide)) (fun _ hk=>hk.2)) (fun _ a=>a.1))))) (Kd.R_lt (by(with_reducible repeat(first|apply Kd.R_alloc|apply Kd.R_drewN|apply Kd.R_drew));exact(Kd.R_mono (sRF10 (g:=r) (Kd.R_types Q.out d.out (by decide)) (fun _ hk=>hk.2)) (fun _ a=>a.1))))) (Kd.R_lt (by(with_reducible repeat(first|apply Kd.R_alloc|apply Kd.R_drewN|apply Kd.R_drew));exact(Kd.R_mono (sRF10 (g:=r) (Kd.R_types T.out d.out (by decide)) (fun _ hk=>hk.2)) (fun _ a=>a.1))))) (Kd.R_lt (by(with_reducible repeat(first|apply Kd.R_alloc|apply Kd.R_drewN|apply Kd.R_drew));exact(Kd.R_mono (sRF10 (g:=r) (Kd.R_types U.out d.out (by decide)) (fun _ hk=>hk.2)) (fun _ a=>a.1))))) (Kd.R_lt (by(with_reducible repeat(first|apply Kd.R_alloc|apply Kd.R_drewN|apply Kd.R_drew));exact(Kd.R_mono (sRF10 (g:=r) (Kd.R_types V.out d.out (by decide)) (fun _ hk=>hk.2)) (fun _ a=>a.1))))) (below_size (by repeat(first|(with_reducible first|exact HB.out|apply below_alloc|apply pw_below_drewN|apply below_drew1|refine below_set ?_ L.out|refine below_set ?_ M.out|refine below_set ?_ av.out)|exact HB.out))));have dz:=zM (blk_below (g:=aE) (o:= .cells #[.int .i64 a0_0,.slice A0_1 l0_1.length c0_1,.slice A0_2 l0_2.length c0_2,.slice A0_3 l0_3.length c0_3,.slice A0_4 l0_4.length c0_4,.slice A0_5 l0_5.length c0_5,.int .i64 a0_6,.slice A0_7 l0_7.length c0_7,.slice A0_8 l0_8.length c0_8,.slice A0_9 l0_9.length c0_9] 64 (0,0)) (by(with_reducible repeat(first|refine blk_drewN ?_ _|refine blk_drew ?_|refine blk_alloc ?_ _));refine blk_far ?_ bI.out _;(with_reducible repeat(first|refine blk_drewN ?_ _|refine blk_drew ?_|refine blk_alloc ?_ _));refine blk_far ?_ bI.out _;(with_reducible repeat(first|refine blk_drewN ?_ _|refine blk_drew ?_|refine blk_alloc ?_ _));refine blk_far ?_ bI.out _;(with_reducible repeat(first|refine blk_drewN ?_ _|refine blk_drew ?_|refine blk_alloc ?_ _));refine blk_far ?_ bI.out _;(with_reducible repeat(first|refine blk_drewN ?_ _|refine blk_drew ?_|refine blk_alloc ?_ _));refine blk_far ?_ bI.out _;(with_reducible repeat(first|refine blk_drewN ?_ _|refine blk_drew ?_|refine blk_alloc ?_ _));refine blk_far ?_ bI.out _;(with_reducible repeat(first|refine blk_drewN ?_ _|refine blk_drew ?_|refine blk_alloc ?_ _));refine blk_far ?_ bI.out _;(with_reducible repeat(first|refine blk_drewN ?_ _|refine blk_drew ?_|refine blk_alloc ?_ _));refine blk_far ?_ bI.out _;(with_reducible repeat(first|refine blk_drewN ?_ _|refine blk_drew ?_|refine blk_alloc ?_ _));refine blk_far ?_ bI.out _;(with_reducible repeat(first|refine blk_drewN ?_ _|refine blk_drew ?_|refine blk_alloc ?_ _));refine blk_far ?_ bI.out _;exact sT j.out) hb);have dA:=zM (blk_below (g:=aF) (o:= .cells #[.int .i64 a1_0,.slice A1_1 l1_1.length c1_1,.slice A1_2 l1_2.length c1_2,.slice A1_3 l1_3.length c1_3,.slice A1_4 l1_4.length c1_4,.slice A1_5 l1_5.length c1_5,.int .i64 a1_6,.slice A1_7 l1_7.length c1_7,.slice A1_8 l1_8.length c1_8,.slice A1_9 l1_9.length c1_9] 64 (0,0)) (by(with_reducible repeat(first|refine blk_drewN ?_ _|refine blk_drew ?_|refine blk_alloc ?_ _));refine blk_far ?_ bJ.out _;(with_reducible repeat(first|refine blk_drewN ?_ _|refine blk_drew ?_|refine blk_alloc ?_ _));refine blk_far ?_ bJ.out _;(with_reducible repeat(first|refine blk_drewN ?_ _|refine blk_drew ?_|refine blk_alloc ?_ _));refine blk_far ?_ bJ.out _;(with_reducible repeat(first|refine blk_drewN ?_ _|refine blk_drew ?_|refine blk_alloc ?_ _));refine blk_far ?_ bJ.out _;(with_reducible repeat(first|refine blk_drewN ?_ _|refine blk_drew ?_|refine blk_alloc ?_ _));refine blk_far ?_ bJ.out _;(with_reducible repeat(first|refine blk_drewN ?_ _|refine blk_drew ?_|refine blk_alloc ?_ _));refine blk_far ?_ bJ.out _;(with_reducible repeat(first|refine blk_drewN ?_ _|refine blk_drew ?_|refine blk_alloc ?_ _));refine blk_far ?_ bJ.out _;(with_reducible repeat(first|refine blk_drewN ?_ _|refine blk_drew ?_|refine blk_alloc ?_ _));refine blk_far ?_ bJ.out _;(with_reducible repeat(first|refine blk_drewN ?_ _|refine blk_drew ?_|refine blk_alloc ?_ _));refine blk_far ?_ bJ.out _;(with_reducible repeat(first|refine blk_drewN ?_ _|refine blk_drew ?_|refine blk_alloc ?_ _));refine blk_far ?_ bJ.out _;exact sT l.out) hb);have dB:=zM (blk_below (g:=r) (o:= .cells #[.int .i64 bf,.slice ck a6.length bT,.slice cl a7.length bU,.slice cm a8.length bV,.slice cn a9.length bW,.slice aY aB.length aS,.int .i64 bg,.slice aZ aC.length aT,.slice co ba.length bX,.slice a0 aD.length aU] 71 (0,0)) (by exact sP10 (sT d.out)) hb);have dC:=sB HB hb;clear W;clear X;clear Y;clear Z;clear A;clear B;clear aa;clear D;clear ae;clear af;clear ag;clear ah;clear O;clear P;clear ai;clear Q;clear ao;clear ap;clear aq;clear ar;clear T;clear U;clear au;clear V;clear j;clear l;clear d;clear HB;have W:=c0;have X:=c1;have Y:=c2;have Z:=c3;have A:=c5;have B:=c6;have aa:=c7;have D:=c8;have ae:=c9;have af:=da;have ag:=db;have ah:=dc;have O:=dd;have P:=de;have ai:=df;have Q:=dg;have ao:=dh;have ap:=di;have aq:=dj;have ar:=dk;have T:=dl;have U:=dm;have au:=dn;have V:=dp;have aw:=dq;have ax:=dr;have ay:=dt;have az:=du;have ab:=dv;have ac:=dw;have aA:=dx;have ad:=dy;have j:=dz;have l:=dA;have d:=dB;have HB:=dC;clear c0 c1 c2 c3 c5 c6 c7 c8 c9 da db dc dd de df dg dh di dj dk dl dm dn dp dq dr dt du dv dw dx dy dz dA dB dC;(try clear hb);(try clear hk);(try clear aj);(try clear ak);(try clear al);(try clear am);(try clear m);(try clear p);(try clear an);(try clear q))|((with_reducible refine gate_dst (N:=8) rfl ?_);refine sV (N:=8) (cs:= #[.int .i64 0,.slice none 0 0,.slice none 0 0,.slice none 0 0,.slice none 0 0,.slice none 0 0,.int .i64 0,.slice none 0 0,.slice none 0 0,.slice none 0 0]) (t:=71) ?_;intro J hg j1 hbox hb;replace W:=zM (Kd.S_below (sI W.out) hb);replace X:=zM (Kd.R_below (sE X.out) hb);replace Y:=zM (Kd.S_below (sI Y.out) hb);replace Z:=zM (Kd.S_below (sI Z.out) hb);replace A:=zM (Kd.R_below (sE A.out) hb);replace B:=zM (Kd.R_below (sE B.out) hb);replace aa:=zM (Kd.S_below (sI aa.out) hb);replace D:=zM (Kd.R_below (sE D.out) hb);replace ae:=zM (Kd.S_below (sI ae.out) hb);replace af:=zM (Kd.R_below (sE af.out) hb);replace ag:=zM (Kd.S_below (sI ag.out) hb);replace ah:=zM (Kd.S_below (sI ah.out) hb);replace O:=zM (Kd.R_below (sE O.out) hb);replace P:=zM (Kd.R_below (sE P.out) hb);replace ai:=zM (Kd.S_below (sI ai.out) hb);replace Q:=zM (Kd.R_below (sE Q.out) hb);replace ao:=zM (Kd.S_below (sI ao.out) hb);replace ap:=zM (Kd.R_below (sE ap.out) hb);replace aq:=zM (Kd.S_below (sI aq.out) hb);replace ar:=zM (Kd.S_below (sI ar.out) hb);replace T:=zM (Kd.R_below (sE T.out) hb);replace U:=zM (Kd.R_below (sE U.out) hb);replace au:=zM (Kd.S_below (sI au.out) hb);replace V:=zM (Kd.R_below (sE V.out) hb);replace aw:=zM (Kd.S_below (sI aw.out) hb);replace ax:=zM (Kd.R_below (sE ax.out) hb);replace ay:=zM (Kd.S_below (sI ay.out) hb);replace az:=zM (Kd.S_below (sI az.out) hb);replace ab:=zM (Kd.R_below (sE ab.out) hb);replace ac:=zM (Kd.R_below (sE ac.out) hb);replace aA:=zM (Kd.S_below (sI aA.out) hb);replace ad:=zM (Kd.R_below (sE ad.out) hb);have s:=zM (hbox);have j2:=sG HB hg;have a1:=sG HB hg;replace HB:=sB HB hb;have bK:=sN j hg;have fA:=sM j hg;replace j:=sK j hb;have bL:=sN l hg;have fB:=sM l hg;replace l:=sK l hb;have bM:=sN d hg;have fC:=sM d hg;replace d:=sK d hb;clear hb hbox hg;have j3:=fA.out;have j4:=bK.out;have j5:=fB.out;have j6:=bL.out;have j7:=fC.out;have j8:=bM.out;obtain⟨j9,ka,kb,kc,kd,ke,kf,kg,kh,ki,kj,kk,kl,km,kn,ko,kp,kq,kr,ks⟩:=cells10 s.out;obtain⟨dD,cp,fD⟩:=Kd.S_slice aw.out;subst fD;obtain⟨dE,cq,fE⟩:=Kd.R_slice ax.out;subst fE;obtain⟨dF,cr,fF⟩:=Kd.S_slice ay.out;subst fF;obtain⟨dG,ct,fG⟩:=Kd.S_slice az.out;subst fG;obtain⟨bb,a2,fH⟩:=Kd.R_slice ab.out;subst fH;obtain⟨bc,a3,fI⟩:=Kd.R_slice ac.out;subst fI;obtain⟨dH,cu,fJ⟩:=Kd.S_slice aA.out;subst fJ;obtain⟨bd,a4,fK⟩:=Kd.R_slice ad.out;subst fK;obtain⟨kt,ku,kv,kw,kx,ky,kz,kA,kB,kC,kD,kE,kF,kG,kH,kI,kJ,kK,kL,kM⟩:=cells10 d.out)|((with_reducible refine gate_callee (f:=28) rfl ?_);refine sC (some 31) Try.func28 #[.agg #[.int .i64 bf,.slice ck a6.length bT,.slice cl a7.length bU,.slice cm a8.length bV,.slice cn a9.length bW,.slice aY aB.length aS,.int .i64 bg,.slice aZ aC.length aT,.slice co ba.length bX,.slice a0 aD.length aU],.agg #[.int .i64 bF,.slice dD bh.length cp,.slice dE bi.length cq,.slice dF bj.length cr,.slice dG bk.length ct,.slice bb aG.length a2,.int .i64 bG,.slice bc aH.length a3,.slice dH bl.length cu,.slice bd aI.length a4]] (impl_SameMemory.calls k bf _ _ a6 _ _ a7 _ _ a8 _ _ a9 _ _ aB bg _ _ aC _ _ ba _ _ aD bF _ _ bh _ _ bi _ _ bj _ _ bk _ _ aG bG _ _ aH _ _ bl _ _ aI aK _ ?side1 ?side2 ?side3 ?side4 ?side5 ?side6 ?side7 ?side8 ?side9 ?side10 ?side11 ?side12 ?side13 ?side14 ?side15 ?side16 ?side17 ?side18 ?side19 ?side20 ?side21 ?side22 ?side23 ?side24 ?side25 ?side26 ?side27 ?side28 ?side29 ?side30 ?side31 ?side32 fk.out) ?_;(case side1=>refine(Kd.S_reads' (e:=154) (base:=w.heap.size) (ok:=fun b=>(((True∧some b≠(.slice ee bO.length ef:Value).ownBlock)∧some b≠(.slice eo cf.length ep:Value).ownBlock)∧some b≠(.slice dD bh.length cp:Value).ownBlock)) (n:=a6.length) (c:=bT) ?_).2.2;exact(by(with_reducible repeat(first|apply Kd.S_alloc|apply Kd.S_drewN|apply Kd.S_drew));exact(Kd.S_mono (sSF10 (g:=J) (Kd.S_types ao.out s.out (by decide)) (fun _ hk=>hk.2)) (fun _ a=>a.1))));(case side2=>exact(Kd.S_reads' ao.out).2.1);(case side3=>refine(Kd.R_reads' (e:=116) (base:=w.heap.size) (ok:=fun b=>(((True∧some b≠(.slice eg bP.length eh:Value).ownBlock)∧some b≠(.slice er cg.length es:Value).ownBlock)∧some b≠(.slice dE bi.length cq:Value).ownBlock)) (n:=a7.length) (c:=bU) ?_).2.2;exact(by(with_reducible repeat(first|apply Kd.R_alloc|apply Kd.R_drewN|apply Kd.R_drew));exact(Kd.R_mono (sRF10 (g:=J) (Kd.R_types ap.out s.out (by decide)) (fun _ hk=>hk.2)) (fun _ a=>a.1))));(case side4=>exact(Kd.R_reads' ap.out).2.1);(case side5=>refine(Kd.S_reads' (e:=107) (base:=w.heap.size) (ok:=fun b=>(((((((((((((some b≠(.slice aY aB.length aS:Value).ownBlock∧(some b≠(.slice aZ aC.length aT:Value).ownBlock∧some b≠(.slice a0 aD.length aU:Value).ownBlock))∧some b≠(.slice ei bQ.length ej:Value).ownBlock)∧some b≠(.slice bm aP.length bn:Value).ownBlock)∧some b≠(.slice bo aQ.length bp:Value).ownBlock)∧some b≠(.slice bq aR.length br:Value).ownBlock)∧some b≠(.slice et ch.length eu:Value).ownBlock)∧some b≠(.slice bs aV.length bt:Value).ownBlock)∧some b≠(.slice bu aW.length bv:Value).ownBlock)∧some b≠(.slice bw aX.length bx:Value).ownBlock)∧some b≠(.slice dF bj.length cr:Value).ownBlock)∧some b≠(.slice bb aG.length a2:Value).ownBlock)∧some b≠(.slice bc aH.length a3:Value).ownBlock)∧some b≠(.slice bd aI.length a4:Value).ownBlock)) (n:=a8.length) (c:=bV) ?_).2.2;exact(by(with_reducible repeat(first|apply Kd.S_alloc|apply Kd.S_drewN|apply Kd.S_drew));exact(Kd.S_mono (sSF10 (g:=J) (Kd.S_types aq.out s.out (by decide)) (fun _ hk=>hk.2)) (fun _ a=>a.1))));(case side6=>exact(Kd.S_reads' aq.out).2.1);(case side7=>refine(Kd.S_reads' (e:=109) (base:=w.heap.size) (ok:=fun b=>(((((((((((((some b≠(.slice aY aB.length aS:Value).ownBlock∧(some b≠(.slice aZ aC.length aT:Value).ownBlock∧some b≠(.slice a0 aD.length aU:Value).ownBlock))∧some b≠(.slice ek bR.length el:Value).ownBlock)∧some b≠(.slice bm aP.length bn:Value).ownBlock)∧some b≠(.slice bo aQ.length bp:Value).ownBlock)∧some b≠(.slice bq aR.length br:Value).ownBlock)∧some b≠(.slice ev ci.length ew:Value).ownBlock)∧some b≠(.slice bs aV.length bt:Value).ownBlock)∧some b≠(.slice bu aW.length bv:Value).ownBlock)∧some b≠(.slice bw aX.length bx:Value).ownBlock)∧some b≠(.slice dG bk.length ct:Value).ownBlock)∧some b≠(.slice bb aG.length a2:Value).ownBlock)∧some b≠(.slice bc aH.length a3:Value).ownBlock)∧some b≠(.slice bd aI.length a4:Value).ownBlock)) (n:=a9.length) (c:=bW) ?_).2.2;exact(by(with_reducible repeat(first|apply Kd.S_alloc|apply Kd.S_drewN|apply Kd.S_drew));exact(Kd.S_mono (sSF10 (g:=J) (Kd.S_types ar.out s.out (by decide)) (fun _ hk=>hk.2)) (fun _ a=>a.1))));(case side8=>exact(Kd.S_reads' ar.out).2.1);(case side9=>refine(Kd.R_reads' (e:=9) (base:=w.heap.size) (ok:=fun b=>((((((((((some b≠(.slice aZ aC.length aT:Value).ownBlock∧some b≠(.slice a0 aD.length aU:Value).ownBlock)∧some b≠(.slice bm aP.length bn:Value).ownBlock)∧some b≠(.slice bo aQ.length bp:Value).ownBlock)∧some b≠(.slice bq aR.length br:Value).ownBlock)∧some b≠(.slice bs aV.length bt:Value).ownBlock)∧some b≠(.slice bu aW.length bv:Value).ownBlock)∧some b≠(.slice bw aX.length bx:Value).ownBlock)∧some b≠(.slice bb aG.length a2:Value).ownBlock)∧some b≠(.slice bc aH.length a3:Value).ownBlock)∧some b≠(.slice bd aI.length a4:Value).ownBlock)) (n:=aB.length) (c:=aS) ?_).2.2;exact(by(with_reducible repeat(first|apply Kd.R_alloc|apply Kd.R_drewN|apply Kd.R_drew));exact(Kd.R_mono (sRF10 (g:=J) (Kd.R_types T.out s.out (by decide)) (fun _ hk=>hk.2)) (fun _ a=>a.1))));(case side10=>exact(Kd.R_reads' T.out).2.1);(case side11=>refine(Kd.R_reads' (e:=9) (base:=w.heap.size) (ok:=fun b=>((((((((((some b≠(.slice aY aB.length aS:Value).ownBlock∧some b≠(.slice a0 aD.length aU:Value).ownBlock)∧some b≠(.slice bm aP.length bn:Value).ownBlock)∧some b≠(.slice bo aQ.length bp:Value).ownBlock)∧some b≠(.slice bq aR.length br:Value).ownBlock)∧some b≠(.slice bs aV.length bt:Value).ownBlock)∧some b≠(.slice bu aW.length bv:Value).ownBlock)∧some b≠(.slice bw aX.length bx:Value).ownBlock)∧some b≠(.slice bb aG.length a2:Value).ownBlock)∧some b≠(.slice bc aH.length a3:Value).ownBlock)∧some b≠(.slice bd aI.length a4:Value).ownBlock)) (n:=aC.length) (c:=aT) ?_).2.2;exact(by(with_reducible repeat(first|apply Kd.R_alloc|apply Kd.R_drewN|apply Kd.R_drew));exact(Kd.R_mono (sRF10 (g:=J) (Kd.R_types U.out s.out (by decide)) (fun _ hk=>hk.2)) (fun _ a=>a.1))));(case side12=>exact(Kd.R_reads' U.out).2.1);(case side13=>refine(Kd.S_reads' (e:=87) (base:=w.heap.size) (ok:=fun b=>(((((((((((((some b≠(.slice aY aB.length aS:Value).ownBlock∧(some b≠(.slice aZ aC.length aT:Value).ownBlock∧some b≠(.slice a0 aD.length aU:Value).ownBlock))∧some b≠(.slice bm aP.length bn:Value).ownBlock)∧some b≠(.slice bo aQ.length bp:Value).ownBlock)∧some b≠(.slice em bS.length en:Value).ownBlock)∧some b≠(.slice bq aR.length br:Value).ownBlock)∧some b≠(.slice bs aV.length bt:Value).ownBlock)∧some b≠(.slice bu aW.length bv:Value).ownBlock)∧some b≠(.slice ex cj.length ey:Value).ownBlock)∧some b≠(.slice bw aX.length bx:Value).ownBlock)∧some b≠(.slice bb aG.length a2:Value).ownBlock)∧some b≠(.slice bc aH.length a3:Value).ownBlock)∧some b≠(.slice dH bl.length cu:Value).ownBlock)∧some b≠(.slice bd aI.length a4:Value).ownBlock)) (n:=ba.length) (c:=bX) ?_).2.2;exact(by(with_reducible repeat(first|apply Kd.S_alloc|apply Kd.S_drewN|apply Kd.S_drew));exact(Kd.S_mono (sSF10 (g:=J) (Kd.S_types au.out s.out (by decide)) (fun _ hk=>hk.2)) (fun _ a=>a.1))));(case side14=>exact(Kd.S_reads' au.out).2.1);(case side15=>refine(Kd.R_reads' (e:=9) (base:=w.heap.size) (ok:=fun b=>((((((((((some b≠(.slice aY aB.length aS:Value).ownBlock∧some b≠(.slice aZ aC.length aT:Value).ownBlock)∧some b≠(.slice bm aP.length bn:Value).ownBlock)∧some b≠(.slice bo aQ.length bp:Value).ownBlock)∧some b≠(.slice bq aR.length br:Value).ownBlock)∧some b≠(.slice bs aV.length bt:Value).ownBlock)∧some b≠(.slice bu aW.length bv:Value).ownBlock)∧some b≠(.slice bw aX.length bx:Value).ownBlock)∧some b≠(.slice bb aG.length a2:Value).ownBlock)∧some b≠(.slice bc aH.length a3:Value).ownBlock)∧some b≠(.slice bd aI.length a4:Value).ownBlock)) (n:=aD.length) (c:=aU) ?_).2.2;exact(by(with_reducible repeat(first|apply Kd.R_alloc|apply Kd.R_drewN|apply Kd.R_drew));exact(Kd.R_mono (sRF10 (g:=J) (Kd.R_types V.out s.out (by decide)) (fun _ hk=>hk.2)) (fun _ a=>a.1))));(case side16=>exact(Kd.R_reads' V.out).2.1);(case side17=>refine(Kd.S_reads' (e:=154) (base:=w.heap.size) (ok:=fun b=>(((True∧some b≠(.slice ee bO.length ef:Value).ownBlock)∧some b≠(.slice eo cf.length ep:Value).ownBlock)∧some b≠(.slice ck a6.length bT:Value).ownBlock)) (n:=bh.length) (c:=cp) ?_).2.2;exact(by(with_reducible repeat(first|apply Kd.S_alloc|apply Kd.S_drewN|apply Kd.S_drew));exact(Kd.S_mono (sSF10 (g:=J) (Kd.S_types aw.out s.out (by decide)) (fun _ hk=>hk.2)) (fun _ a=>a.1))));(case side18=>exact(Kd.S_reads' aw.out).2.1);(case side19=>refine(Kd.R_reads' (e:=116) (base:=w.heap.size) (ok:=fun b=>(((True∧some b≠(.slice eg bP.length eh:Value).ownBlock)∧some b≠(.slice er cg.length es:Value).ownBlock)∧some b≠(.slice cl a7.length bU:Value).ownBlock)) (n:=bi.length) (c:=cq) ?_).2.2;exact(by(with_reducible repeat(first|apply Kd.R_alloc|apply Kd.R_drewN|apply Kd.R_drew));exact(Kd.R_mono (sRF10 (g:=J) (Kd.R_types ax.out s.out (by decide)) (fun _ hk=>hk.2)) (fun _ a=>a.1))));(case side20=>exact(Kd.R_reads' ax.out).2.1);(case side21=>refine(Kd.S_reads' (e:=107) (base:=w.heap.size) (ok:=fun b=>(((((((((((((some b≠(.slice bb aG.length a2:Value).ownBlock∧(some b≠(.slice bc aH.length a3:Value).ownBlock∧some b≠(.slice bd aI.length a4:Value).ownBlock))∧some b≠(.slice ei bQ.length ej:Value).ownBlock)∧some b≠(.slice bm aP.length bn:Value).ownBlock)∧some b≠(.slice bo aQ.length bp:Value).ownBlock)∧some b≠(.slice bq aR.length br:Value).ownBlock)∧some b≠(.slice et ch.length eu:Value).ownBlock)∧some b≠(.slice bs aV.length bt:Value).ownBlock)∧some b≠(.slice bu aW.length bv:Value).ownBlock)∧some b≠(.slice bw aX.length bx:Value).ownBlock)∧some b≠(.slice cm a8.length bV:Value).ownBlock)∧some b≠(.slice aY aB.length aS:Value).ownBlock)∧some b≠(.slice aZ aC.length aT:Value).ownBlock)∧some b≠(.slice a0 aD.length aU:Value).ownBlock)) (n:=bj.length) (c:=cr) ?_).2.2;exact(by(with_reducible repeat(first|apply Kd.S_alloc|apply Kd.S_drewN|apply Kd.S_drew));exact(Kd.S_mono (sSF10 (g:=J) (Kd.S_types ay.out s.out (by decide)) (fun _ hk=>hk.2)) (fun _ a=>a.1))));(case side22=>exact(Kd.S_reads' ay.out).2.1);(case side23=>refine(Kd.S_reads' (e:=109) (base:=w.heap.size) (ok:=fun b=>(((((((((((((some b≠(.slice bb aG.length a2:Value).ownBlock∧(some b≠(.slice bc aH.length a3:Value).ownBlock∧some b≠(.slice bd aI.length a4:Value).ownBlock))∧some b≠(.slice ek bR.length el:Value).ownBlock)∧some b≠(.slice bm aP.length bn:Value).ownBlock)∧some b≠(.slice bo aQ.length bp:Value).ownBlock)∧some b≠(.slice bq aR.length br:Value).ownBlock)∧some b≠(.slice ev ci.length ew:Value).ownBlock)∧some b≠(.slice bs aV.length bt:Value).ownBlock)∧some b≠(.slice bu aW.length bv:Value).ownBlock)∧some b≠(.slice bw aX.length bx:Value).ownBlock)∧some b≠(.slice cn a9.length bW:Value).ownBlock)∧some b≠(.slice aY aB.length aS:Value).ownBlock)∧some b≠(.slice aZ aC.length aT:Value).ownBlock)∧some b≠(.slice a0 aD.length aU:Value).ownBlock)) (n:=bk.length) (c:=ct) ?_).2.2;exact(by(with_reducible repeat(first|apply Kd.S_alloc|apply Kd.S_drewN|apply Kd.S_drew));exact(Kd.S_mono (sSF10 (g:=J) (Kd.S_types az.out s.out (by decide)) (fun _ hk=>hk.2)) (fun _ a=>a.1))));(case side24=>exact(Kd.S_reads' az.out).2.1);(case side25=>refine(Kd.R_reads' (e:=9) (base:=w.heap.size) (ok:=fun b=>((((((((((some b≠(.slice bc aH.length a3:Value).ownBlock∧some b≠(.slice bd aI.length a4:Value).ownBlock)∧some b≠(.slice bm aP.length bn:Value).ownBlock)∧some b≠(.slice bo aQ.length bp:Value).ownBlock)∧some b≠(.slice bq aR.length br:Value).ownBlock)∧some b≠(.slice bs aV.length bt:Value).ownBlock)∧some b≠(.slice bu aW.length bv:Value).ownBlock)∧some b≠(.slice bw aX.length bx:Value).ownBlock)∧some b≠(.slice aY aB.length aS:Value).ownBlock)∧some b≠(.slice aZ aC.length aT:Value).ownBlock)∧some b≠(.slice a0 aD.length aU:Value).ownBlock)) (n:=aG.length) (c:=a2) ?_).2.2;exact(by(with_reducible repeat(first|apply Kd.R_alloc|apply Kd.R_drewN|apply Kd.R_drew));exact(Kd.R_mono (sRF10 (g:=J) (Kd.R_types ab.out s.out (by decide)) (fun _ hk=>hk.2)) (fun _ a=>a.1))));(case side26=>exact(Kd.R_reads' ab.out).2.1);(case side27=>refine(Kd.R_reads' (e:=9) (base:=w.heap.size) (ok:=fun b=>((((((((((some b≠(.slice bb aG.length a2:Value).ownBlock∧some b≠(.slice bd aI.length a4:Value).ownBlock)∧some b≠(.slice bm aP.length bn:Value).ownBlock)∧some b≠(.slice bo aQ.length bp:Value).ownBlock)∧some b≠(.slice bq aR.length br:Value).ownBlock)∧some b≠(.slice bs aV.length bt:Value).ownBlock)∧some b≠(.slice bu aW.length bv:Value).ownBlock)∧some b≠(.slice bw aX.length bx:Value).ownBlock)∧some b≠(.slice aY aB.length aS:Value).ownBlock)∧some b≠(.slice aZ aC.length aT:Value).ownBlock)∧some b≠(.slice a0 aD.length aU:Value).ownBlock)) (n:=aH.length) (c:=a3) ?_).2.2;exact(by(with_reducible repeat(first|apply Kd.R_alloc|apply Kd.R_drewN|apply Kd.R_drew));exact(Kd.R_mono (sRF10 (g:=J) (Kd.R_types ac.out s.out (by decide)) (fun _ hk=>hk.2)) (fun _ a=>a.1))));(case side28=>exact(Kd.R_reads' ac.out).2.1);(case side29=>refine(Kd.S_reads' (e:=87) (base:=w.heap.size) (ok:=fun b=>(((((((((((((some b≠(.slice bb aG.length a2:Value).ownBlock∧(some b≠(.slice bc aH.length a3:Value).ownBlock∧some b≠(.slice bd aI.length a4:Value).ownBlock))∧some b≠(.slice bm aP.length bn:Value).ownBlock)∧some b≠(.slice bo aQ.length bp:Value).ownBlock)∧some b≠(.slice em bS.length en:Value).ownBlock)∧some b≠(.slice bq aR.length br:Value).ownBlock)∧some b≠(.slice bs aV.length bt:Value).ownBlock)∧some b≠(.slice bu aW.length bv:Value).ownBlock)∧some b≠(.slice ex cj.length ey:Value).ownBlock)∧some b≠(.slice bw aX.length bx:Value).ownBlock)∧some b≠(.slice aY aB.length aS:Value).ownBlock)∧some b≠(.slice aZ aC.length aT:Value).ownBlock)∧some b≠(.slice co ba.length bX:Value).ownBlock)∧some b≠(.slice a0 aD.length aU:Value).ownBlock)) (n:=bl.length) (c:=cu) ?_).2.2;exact(by(with_reducible repeat(first|apply Kd.S_alloc|apply Kd.S_drewN|apply Kd.S_drew));exact(Kd.S_mono (sSF10 (g:=J) (Kd.S_types aA.out s.out (by decide)) (fun _ hk=>hk.2)) (fun _ a=>a.1))));(case side30=>exact(Kd.S_reads' aA.out).2.1);(case side31=>refine(Kd.R_reads' (e:=9) (base:=w.heap.size) (ok:=fun b=>((((((((((some b≠(.slice bb aG.length a2:Value).ownBlock∧some b≠(.slice bc aH.length a3:Value).ownBlock)∧some b≠(.slice bm aP.length bn:Value).ownBlock)∧some b≠(.slice bo aQ.length bp:Value).ownBlock)∧some b≠(.slice bq aR.length br:Value).ownBlock)∧some b≠(.slice bs aV.length bt:Value).ownBlock)∧some b≠(.slice bu aW.length bv:Value).ownBlock)∧some b≠(.slice bw aX.length bx:Value).ownBlock)∧some b≠(.slice aY aB.length aS:Value).ownBlock)∧some b≠(.slice aZ aC.length aT:Value).ownBlock)∧some b≠(.slice a0 aD.length aU:Value).ownBlock)) (n:=aI.length) (c:=a4) ?_).2.2;exact(by(with_reducible repeat(first|apply Kd.R_alloc|apply Kd.R_drewN|apply Kd.R_drew));exact(Kd.R_mono (sRF10 (g:=J) (Kd.R_types ad.out s.out (by decide)) (fun _ hk=>hk.2)) (fun _ a=>a.1))));(case side32=>exact(Kd.R_reads' ad.out).2.1);rintro e fL ⟨rfl,hb⟩;refine⟨_,rfl,?_⟩;have c0:=zM (Kd.S_below (by(with_reducible repeat(first|apply Kd.S_alloc|apply Kd.S_drewN|apply Kd.S_drew));exact(Kd.S_mono (sSF10 (g:=J) (Kd.S_types W.out s.out (by decide)) (fun _ hk=>hk.2)) (fun _ a=>a.1))) hb);have c1:=zM (Kd.R_below (by(with_reducible repeat(first|apply Kd.R_alloc|apply Kd.R_drewN|apply Kd.R_drew));exact(Kd.R_mono (sRF10 (g:=J) (Kd.R_types X.out s.out (by decide)) (fun _ hk=>hk.2)) (fun _ a=>a.1))) hb);have c2:=zM (Kd.S_below (by(with_reducible repeat(first|apply Kd.S_alloc|apply Kd.S_drewN|apply Kd.S_drew));exact(Kd.S_mono (sSF10 (g:=J) (Kd.S_types Y.out s.out (by decide)) (fun _ hk=>hk.2)) (fun _ a=>a.1))) hb);have c3:=zM (Kd.S_below (by(with_reducible repeat(first|apply Kd.S_alloc|apply Kd.S_drewN|apply Kd.S_drew));exact(Kd.S_mono (sSF10 (g:=J) (Kd.S_types Z.out s.out (by decide)) (fun _ hk=>hk.2)) (fun _ a=>a.1))) hb);have c5:=zM (Kd.R_below (by(with_reducible repeat(first|apply Kd.R_alloc|apply Kd.R_drewN|apply Kd.R_drew));exact(Kd.R_mono (sRF10 (g:=J) (Kd.R_types A.out s.out (by decide)) (fun _ hk=>hk.2)) (fun _ a=>a.1))) hb);have c6:=zM (Kd.R_below (by(with_reducible repeat(first|apply Kd.R_alloc|apply Kd.R_drewN|apply Kd.R_drew));exact(Kd.R_mono (sRF10 (g:=J) (Kd.R_types B.out s.out (by decide)) (fun _ hk=>hk.2)) (fun _ a=>a.1))) hb);have c7:=zM (Kd.S_below (by(with_reducible repeat(first|apply Kd.S_alloc|apply Kd.S_drewN|apply Kd.S_drew));exact(Kd.S_mono (sSF10 (g:=J) (Kd.S_types aa.out s.out (by decide)) (fun _ hk=>hk.2)) (fun _ a=>a.1))) hb);have c8:=zM (Kd.R_below (by(with_reducible repeat(first|apply Kd.R_alloc|apply Kd.R_drewN|apply Kd.R_drew));exact(Kd.R_mono (sRF10 (g:=J) (Kd.R_types D.out s.out (by decide)) (fun _ hk=>hk.2)) (fun _ a=>a.1))) hb);have c9:=zM (Kd.S_below (by(with_reducible repeat(first|apply Kd.S_alloc|apply Kd.S_drewN|apply Kd.S_drew));exact(Kd.S_mono (sSF10 (g:=J) (Kd.S_types ae.out s.out (by decide)) (fun _ hk=>hk.2)) (fun _ a=>a.1))) hb);have da:=zM (Kd.R_below (by(with_reducible repeat(first|apply Kd.R_alloc|apply Kd.R_drewN|apply Kd.R_drew));exact(Kd.R_mono (sRF10 (g:=J) (Kd.R_types af.out s.out (by decide)) (fun _ hk=>hk.2)) (fun _ a=>a.1))) hb);have db:=zM (Kd.S_below (by(with_reducible repeat(first|apply Kd.S_alloc|apply Kd.S_drewN|apply Kd.S_drew));exact(Kd.S_mono (sSF10 (g:=J) (Kd.S_types ag.out s.out (by decide)) (fun _ hk=>hk.2)) (fun _ a=>a.1))) hb);have dc:=zM (Kd.S_below (by(with_reducible repeat(first|apply Kd.S_alloc|apply Kd.S_drewN|apply Kd.S_drew));exact(Kd.S_mono (sSF10 (g:=J) (Kd.S_types ah.out s.out (by decide)) (fun _ hk=>hk.2)) (fun _ a=>a.1))) hb);have dd:=zM (Kd.R_below (by(with_reducible repeat(first|apply Kd.R_alloc|apply Kd.R_drewN|apply Kd.R_drew));exact(Kd.R_mono (sRF10 (g:=J) (Kd.R_types O.out s.out (by decide)) (fun _ hk=>hk.2)) (fun _ a=>a.1))) hb);have de:=zM (Kd.R_below (by(with_reducible repeat(first|apply Kd.R_alloc|apply Kd.R_drewN|apply Kd.R_drew));exact(Kd.R_mono (sRF10 (g:=J) (Kd.R_types P.out s.out (by decide)) (fun _ hk=>hk.2)) (fun _ a=>a.1))) hb);have df:=zM (Kd.S_below (by(with_reducible repeat(first|apply Kd.S_alloc|apply Kd.S_drewN|apply Kd.S_drew));exact(Kd.S_mono (sSF10 (g:=J) (Kd.S_types ai.out s.out (by decide)) (fun _ hk=>hk.2)) (fun _ a=>a.1))) hb);have dg:=zM (Kd.R_below (by(with_reducible repeat(first|apply Kd.R_alloc|apply Kd.R_drewN|apply Kd.R_drew));exact(Kd.R_mono (sRF10 (g:=J) (Kd.R_types Q.out s.out (by decide)) (fun _ hk=>hk.2)) (fun _ a=>a.1))) hb);have dh:=zM (Kd.S_below (by(with_reducible repeat(first|apply Kd.S_alloc|apply Kd.S_drewN|apply Kd.S_drew));exact(Kd.S_mono (sSF10 (g:=J) (Kd.S_types ao.out s.out (by decide)) (fun _ hk=>hk.2)) (fun _ a=>a.1))) hb);have di:=zM (Kd.R_below (by(with_reducible repeat(first|apply Kd.R_alloc|apply Kd.R_drewN|apply Kd.R_drew));exact(Kd.R_mono (sRF10 (g:=J) (Kd.R_types ap.out s.out (by decide)) (fun _ hk=>hk.2)) (fun _ a=>a.1))) hb);have dj:=zM (Kd.S_below (by(with_reducible repeat(first|apply Kd.S_alloc|apply Kd.S_drewN|apply Kd.S_drew));exact(Kd.S_mono (sSF10 (g:=J) (Kd.S_types aq.out s.out (by decide)) (fun _ hk=>hk.2)) (fun _ a=>a.1))) hb);have dk:=zM (Kd.S_below (by(with_reducible repeat(first|apply Kd.S_alloc|apply Kd.S_drewN|apply Kd.S_drew));exact(Kd.S_mono (sSF10 (g:=J) (Kd.S_types ar.out s.out (by decide)) (fun _ hk=>hk.2)) (fun _ a=>a.1))) hb);have dl:=zM (Kd.R_below (by(with_reducible repeat(first|apply Kd.R_alloc|apply Kd.R_drewN|apply Kd.R_drew));exact(Kd.R_mono (sRF10 (g:=J) (Kd.R_types T.out s.out (by decide)) (fun _ hk=>hk.2)) (fun _ a=>a.1))) hb);have dm:=zM (Kd.R_below (by(with_reducible repeat(first|apply Kd.R_alloc|apply Kd.R_drewN|apply Kd.R_drew));exact(Kd.R_mono (sRF10 (g:=J) (Kd.R_types U.out s.out (by decide)) (fun _ hk=>hk.2)) (fun _ a=>a.1))) hb);have dn:=zM (Kd.S_below (by(with_reducible repeat(first|apply Kd.S_alloc|apply Kd.S_drewN|apply Kd.S_drew));exact(Kd.S_mono (sSF10 (g:=J) (Kd.S_types au.out s.out (by decide)) (fun _ hk=>hk.2)) (fun _ a=>a.1))) hb);have dp:=zM (Kd.R_below (by(with_reducible repeat(first|apply Kd.R_alloc|apply Kd.R_drewN|apply Kd.R_drew));exact(Kd.R_mono (sRF10 (g:=J) (Kd.R_types V.out s.out (by decide)) (fun _ hk=>hk.2)) (fun _ a=>a.1))) hb);have dq:=zM (Kd.S_below (by(with_reducible repeat(first|apply Kd.S_alloc|apply Kd.S_drewN|apply Kd.S_drew));exact(Kd.S_mono (sSF10 (g:=J) (Kd.S_types aw.out s.out (by decide)) (fun _ hk=>hk.2)) (fun _ a=>a.1))) hb);have dr:=zM (Kd.R_below (by(with_reducible repeat(first|apply Kd.R_alloc|apply Kd.R_drewN|apply Kd.R_drew));exact(Kd.R_mono (sRF10 (g:=J) (Kd.R_types ax.out s.out (by decide)) (fun _ hk=>hk.2)) (fun _ a=>a.1))) hb);have dt:=zM (Kd.S_below (by(with_reducible repeat(first|apply Kd.S_alloc|apply Kd.S_drewN|apply Kd.S_drew));exact(Kd.S_mono (sSF10 (g:=J) (Kd.S_types ay.out s.out (by decide)) (fun _ hk=>hk.2)) (fun _ a=>a.1))) hb);have du:=zM (Kd.S_below (by(with_reducible repeat(first|apply Kd.S_alloc|apply Kd.S_drewN|apply Kd.S_drew));exact(Kd.S_mono (sSF10 (g:=J) (Kd.S_types az.out s.out (by decide)) (fun _ hk=>hk.2)) (fun _ a=>a.1))) hb);have dv:=zM (Kd.R_below (by(with_reducible repeat(first|apply Kd.R_alloc|apply Kd.R_drewN|apply Kd.R_drew));exact(Kd.R_mono (sRF10 (g:=J) (Kd.R_types ab.out s.out (by decide)) (fun _ hk=>hk.2)) (fun _ a=>a.1))) hb);have dw:=zM (Kd.R_below (by(with_reducible repeat(first|apply Kd.R_alloc|apply Kd.R_drewN|apply Kd.R_drew));exact(Kd.R_mono (sRF10 (g:=J) (Kd.R_types ac.out s.out (by decide)) (fun _ hk=>hk.2)) (fun _ a=>a.1))) hb);have dx:=zM (Kd.S_below (by(with_reducible repeat(first|apply Kd.S_alloc|apply Kd.S_drewN|apply Kd.S_drew));exact(Kd.S_mono (sSF10 (g:=J) (Kd.S_types aA.out s.out (by decide)) (fun _ hk=>hk.2)) (fun _ a=>a.1))) hb);have dy:=zM (Kd.R_below (by(with_reducible repeat(first|apply Kd.R_alloc|apply Kd.R_drewN|apply Kd.R_drew));exact(Kd.R_mono (sRF10 (g:=J) (Kd.R_types ad.out s.out (by decide)) (fun _ hk=>hk.2)) (fun _ a=>a.1))) hb);have dz:=zM (blk_below (g:=aE) (o:= .cells #[.int .i64 a0_0,.slice A0_1 l0_1.length c0_1,.slice A0_2 l0_2.length c0_2,.slice A0_3 l0_3.length c0_3,.slice A0_4 l0_4.length c0_4,.slice A0_5 l0_5.length c0_5,.int .i64 a0_6,.slice A0_7 l0_7.length c0_7,.slice A0_8 l0_8.length c0_8,.slice A0_9 l0_9.length c0_9] 64 (0,0)) (by(with_reducible repeat(first|refine blk_drewN ?_ _|refine blk_drew ?_|refine blk_alloc ?_ _));refine blk_far ?_ bK.out _;(with_reducible repeat(first|refine blk_drewN ?_ _|refine blk_drew ?_|refine blk_alloc ?_ _));refine blk_far ?_ bK.out _;(with_reducible repeat(first|refine blk_drewN ?_ _|refine blk_drew ?_|refine blk_alloc ?_ _));refine blk_far ?_ bK.out _;(with_reducible repeat(first|refine blk_drewN ?_ _|refine blk_drew ?_|refine blk_alloc ?_ _));refine blk_far ?_ bK.out _;(with_reducible repeat(first|refine blk_drewN ?_ _|refine blk_drew ?_|refine blk_alloc ?_ _));refine blk_far ?_ bK.out _;(with_reducible repeat(first|refine blk_drewN ?_ _|refine blk_drew ?_|refine blk_alloc ?_ _));refine blk_far ?_ bK.out _;(with_reducible repeat(first|refine blk_drewN ?_ _|refine blk_drew ?_|refine blk_alloc ?_ _));refine blk_far ?_ bK.out _;(with_reducible repeat(first|refine blk_drewN ?_ _|refine blk_drew ?_|refine blk_alloc ?_ _));refine blk_far ?_ bK.out _;(with_reducible repeat(first|refine blk_drewN ?_ _|refine blk_drew ?_|refine blk_alloc ?_ _));refine blk_far ?_ bK.out _;(with_reducible repeat(first|refine blk_drewN ?_ _|refine blk_drew ?_|refine blk_alloc ?_ _));refine blk_far ?_ bK.out _;exact sT j.out) hb);have dA:=zM (blk_below (g:=aF) (o:= .cells #[.int .i64 a1_0,.slice A1_1 l1_1.length c1_1,.slice A1_2 l1_2.length c1_2,.slice A1_3 l1_3.length c1_3,.slice A1_4 l1_4.length c1_4,.slice A1_5 l1_5.length c1_5,.int .i64 a1_6,.slice A1_7 l1_7.length c1_7,.slice A1_8 l1_8.length c1_8,.slice A1_9 l1_9.length c1_9] 64 (0,0)) (by(with_reducible repeat(first|refine blk_drewN ?_ _|refine blk_drew ?_|refine blk_alloc ?_ _));refine blk_far ?_ bL.out _;(with_reducible repeat(first|refine blk_drewN ?_ _|refine blk_drew ?_|refine blk_alloc ?_ _));refine blk_far ?_ bL.out _;(with_reducible repeat(first|refine blk_drewN ?_ _|refine blk_drew ?_|refine blk_alloc ?_ _));refine blk_far ?_ bL.out _;(with_reducible repeat(first|refine blk_drewN ?_ _|refine blk_drew ?_|refine blk_alloc ?_ _));refine blk_far ?_ bL.out _;(with_reducible repeat(first|refine blk_drewN ?_ _|refine blk_drew ?_|refine blk_alloc ?_ _));refine blk_far ?_ bL.out _;(with_reducible repeat(first|refine blk_drewN ?_ _|refine blk_drew ?_|refine blk_alloc ?_ _));refine blk_far ?_ bL.out _;(with_reducible repeat(first|refine blk_drewN ?_ _|refine blk_drew ?_|refine blk_alloc ?_ _));refine blk_far ?_ bL.out _;(with_reducible repeat(first|refine blk_drewN ?_ _|refine blk_drew ?_|refine blk_alloc ?_ _));refine blk_far ?_ bL.out _;(with_reducible repeat(first|refine blk_drewN ?_ _|refine blk_drew ?_|refine blk_alloc ?_ _));refine blk_far ?_ bL.out _;(with_reducible repeat(first|refine blk_drewN ?_ _|refine blk_drew ?_|refine blk_alloc ?_ _));refine blk_far ?_ bL.out _;exact sT l.out) hb);have dB:=zM (blk_below (g:=r) (o:= .cells #[.int .i64 bf,.slice ck a6.length bT,.slice cl a7.length bU,.slice cm a8.length bV,.slice cn a9.length bW,.slice aY aB.length aS,.int .i64 bg,.slice aZ aC.length aT,.slice co ba.length bX,.slice a0 aD.length aU] 71 (0,0)) (by(with_reducible repeat(first|refine blk_drewN ?_ _|refine blk_drew ?_|refine blk_alloc ?_ _));refine blk_far ?_ bM.out _;(with_reducible repeat(first|refine blk_drewN ?_ _|refine blk_drew ?_|refine blk_alloc ?_ _));refine blk_far ?_ bM.out _;(with_reducible repeat(first|refine blk_drewN ?_ _|refine blk_drew ?_|refine blk_alloc ?_ _));refine blk_far ?_ bM.out _;(with_reducible repeat(first|refine blk_drewN ?_ _|refine blk_drew ?_|refine blk_alloc ?_ _));refine blk_far ?_ bM.out _;(with_reducible repeat(first|refine blk_drewN ?_ _|refine blk_drew ?_|refine blk_alloc ?_ _));refine blk_far ?_ bM.out _;(with_reducible repeat(first|refine blk_drewN ?_ _|refine blk_drew ?_|refine blk_alloc ?_ _));refine blk_far ?_ bM.out _;(with_reducible repeat(first|refine blk_drewN ?_ _|refine blk_drew ?_|refine blk_alloc ?_ _));refine blk_far ?_ bM.out _;(with_reducible repeat(first|refine blk_drewN ?_ _|refine blk_drew ?_|refine blk_alloc ?_ _));refine blk_far ?_ bM.out _;(with_reducible repeat(first|refine blk_drewN ?_ _|refine blk_drew ?_|refine blk_alloc ?_ _));refine blk_far ?_ bM.out _;(with_reducible repeat(first|refine blk_drewN ?_ _|refine blk_drew ?_|refine blk_alloc ?_ _));refine blk_far ?_ bM.out _;exact sT d.out) hb);have dC:=zM (blk_below (g:=J) (o:= .cells #[.int .i64 bF,.slice dD bh.length cp,.slice dE bi.length cq,.slice dF bj.length cr,.slice dG bk.length ct,.slice bb aG.length a2,.int .i64 bG,.slice bc aH.length a3,.slice dH bl.length cu,.slice bd aI.length a4] 71 (0,0)) (by exact sP10 (sT s.out)) hb);have eY:=sB HB hb;clear W;clear X;clear Y;clear Z;clear A;clear B;clear aa;clear D;clear ae;clear af;clear ag;clear ah;clear O;clear P;clear ai;clear Q;clear ao;clear ap;clear aq;clear ar;clear T;clear U;clear au;clear V;clear aw;clear ax;clear ay;clear az;clear ab;clear ac;clear aA;clear ad;clear j;clear l;clear d;clear s;clear HB;have W:=c0;have X:=c1;have Y:=c2;have Z:=c3;have A:=c5;have B:=c6;have aa:=c7;have D:=c8;have ae:=c9;have af:=da;have ag:=db;have ah:=dc;have O:=dd;have P:=de;have ai:=df;have Q:=dg;have ao:=dh;have ap:=di;have aq:=dj;have ar:=dk;have T:=dl;have U:=dm;have au:=dn;have V:=dp;have aw:=dq;have ax:=dr;have ay:=dt;have az:=du;have ab:=dv;have ac:=dw;have aA:=dx;have ad:=dy;have j:=dz;have l:=dA;have d:=dB;have s:=dC;have HB:=eY;clear c0 c1 c2 c3 c5 c6 c7 c8 c9 da db dc dd de df dg dh di dj dk dl dm dn dp dq dr dt du dv dw dx dy dz dA dB dC eY;(try clear hb);(try clear hk)))
 replace W:=zM (Kd.S_drew W.out)
 replace X:=zM (Kd.R_drew X.out)
 replace Y:=zM (Kd.S_drew Y.out)
 replace Z:=zM (Kd.S_drew Z.out)
 replace A:=zM (Kd.R_drew A.out)
 replace B:=zM (Kd.R_drew B.out)
 replace aa:=zM (Kd.S_drew aa.out)
 replace D:=zM (Kd.R_drew D.out)
 replace ae:=zM (Kd.S_drew ae.out)
 replace af:=zM (Kd.R_drew af.out)
 replace ag:=zM (Kd.S_drew ag.out)
 replace ah:=zM (Kd.S_drew ah.out)
 replace O:=zM (Kd.R_drew O.out)
 replace P:=zM (Kd.R_drew P.out)
 replace ai:=zM (Kd.S_drew ai.out)
 replace Q:=zM (Kd.R_drew Q.out)
 replace ao:=zM (Kd.S_drew ao.out)
 replace ap:=zM (Kd.R_drew ap.out)
 replace aq:=zM (Kd.S_drew aq.out)
 replace ar:=zM (Kd.S_drew ar.out)
 replace T:=zM (Kd.R_drew T.out)
 replace U:=zM (Kd.R_drew U.out)
 replace au:=zM (Kd.S_drew au.out)
 replace V:=zM (Kd.R_drew V.out)
 replace aw:=zM (Kd.S_drew aw.out)
 replace ax:=zM (Kd.R_drew ax.out)
 replace ay:=zM (Kd.S_drew ay.out)
 replace az:=zM (Kd.S_drew az.out)
 replace ab:=zM (Kd.R_drew ab.out)
 replace ac:=zM (Kd.R_drew ac.out)
 replace aA:=zM (Kd.S_drew aA.out)
 replace ad:=zM (Kd.R_drew ad.out)
 replace j:=zM (blk_drew j.out)
 replace l:=zM (blk_drew l.out)
 replace d:=zM (blk_drew d.out)
 replace s:=zM (blk_drew s.out)
 replace HB:=zM (below_drew1 HB.out)
 refine start_ (n:=5) (S:=fun w'=>w'.cell? ⟨r,0,none⟩=some (.int .i64 bf)∧w'.cell? ⟨r,1,none⟩=some (.slice ck a6.length bT)∧w'.cell? ⟨r,2,none⟩=some (.slice cl a7.length bU)∧w'.cell? ⟨r,3,none⟩=some (.slice cm a8.length bV)∧w'.cell? ⟨r,4,none⟩=some (.slice cn a9.length bW)∧w'.cell? ⟨r,5,none⟩=some (.slice aY aB.length aS)∧w'.cell? ⟨r,6,none⟩=some (.int .i64 bg)∧w'.cell? ⟨r,7,none⟩=some (.slice aZ aC.length aT)∧w'.cell? ⟨r,8,none⟩=some (.slice co ba.length bX)∧w'.cell? ⟨r,9,none⟩=some (.slice a0 aD.length aU)∧w'.cell? ⟨aE,0,none⟩=some (.int .i64 a0_0)∧w'.cell? ⟨aE,1,none⟩=some (.slice A0_1 l0_1.length c0_1)∧w'.cell? ⟨aE,2,none⟩=some (.slice A0_2 l0_2.length c0_2)∧w'.cell? ⟨aE,3,none⟩=some (.slice A0_3 l0_3.length c0_3)∧w'.cell? ⟨aE,4,none⟩=some (.slice A0_4 l0_4.length c0_4)∧w'.cell? ⟨aE,5,none⟩=some (.slice A0_5 l0_5.length c0_5)∧w'.cell? ⟨aE,6,none⟩=some (.int .i64 a0_6)∧w'.cell? ⟨aE,7,none⟩=some (.slice A0_7 l0_7.length c0_7)∧w'.cell? ⟨aE,8,none⟩=some (.slice A0_8 l0_8.length c0_8)∧w'.cell? ⟨aE,9,none⟩=some (.slice A0_9 l0_9.length c0_9)) (ds:=[]) #[false,false,false,false,false] (by kernel_rfl) rfl rfl ⟨(blk_cell d.out 0).trans rfl,(blk_cell d.out 1).trans rfl,(blk_cell d.out 2).trans rfl,(blk_cell d.out 3).trans rfl,(blk_cell d.out 4).trans rfl,(blk_cell d.out 5).trans rfl,(blk_cell d.out 6).trans rfl,(blk_cell d.out 7).trans rfl,(blk_cell d.out 8).trans rfl,(blk_cell d.out 9).trans rfl,(blk_cell j.out 0).trans rfl,(blk_cell j.out 1).trans rfl,(blk_cell j.out 2).trans rfl,(blk_cell j.out 3).trans rfl,(blk_cell j.out 4).trans rfl,(blk_cell j.out 5).trans rfl,(blk_cell j.out 6).trans rfl,(blk_cell j.out 7).trans rfl,(blk_cell j.out 8).trans rfl,(blk_cell j.out 9).trans rfl⟩ (fun hHeld=>?_)
 generalize fL.drew=w90 at W X Y Z A B aa D ae af ag ah O P ai Q ao ap aq ar T U au V aw ax ay az ab ac aA ad j l d s HB hHeld ⊢
 refine take_ (i:=0) (N:=some 35) (v:=?_) (a':=?_) #[true,false,false,false,false] rfl rfl (by kernel_rfl) (fun _ _ _ h=>h) (Or.inl ⟨by rfl,?_⟩) hHeld ?_ ?_
 rotate_left
 ·(
 rintro w' ⟨s0,s1,s2,s3,s4,s5,s6,s7,s8,s9,cQ,cR,cS,cT,cU,cV,cW,cX,cY,cZ⟩
 go_simp
 with_reducible rfl)
 rotate_left
 ·(
 simp only[zP,i64_w,i32_w]
 rfl)
 refine take_ (i:=1) (N:=some 36) (v:=?_) (a':=?_) #[true,true,false,false,false] rfl rfl (by kernel_rfl) (fun _ _ _ h=>h) (Or.inl ⟨by rfl,?_⟩) hHeld ?_ ?_
 rotate_left
 ·(
 rintro w' ⟨s0,s1,s2,s3,s4,s5,s6,s7,s8,s9,cQ,cR,cS,cT,cU,cV,cW,cX,cY,cZ⟩
 go_simp
 with_reducible rfl)
 rotate_left
 ·(
 simp only[zP,i64_w,i32_w]
 rfl)
 refine one_ (i:=2) (N:=some 37) #[true,true,true,false,false] rfl rfl (by kernel_rfl) (by decide) (fun K hK=>?_)
 refine goes_ Try.func27 (by kernel_rfl) rfl #[.agg #[.int .i64 a0_0,.slice A0_1 l0_1.length c0_1,.slice A0_2 l0_2.length c0_2,.slice A0_3 l0_3.length c0_3,.slice A0_4 l0_4.length c0_4,.slice A0_5 l0_5.length c0_5,.int .i64 a0_6,.slice A0_7 l0_7.length c0_7,.slice A0_8 l0_8.length c0_8,.slice A0_9 l0_9.length c0_9]] (by rfl) rfl rfl (by(try simp only[List.map_toArray,List.map_cons,List.map_nil]);first|done|rfl|(simp only[List.length_drop,List.length_take];rfl)) ?_
 with_reducible refine(laws_toMemory.calls k a0_0 _ _ l0_1 _ _ l0_2 _ _ l0_3 _ _ l0_4 _ _ l0_5 a0_6 _ _ l0_7 _ _ l0_8 _ _ l0_9 dS dT dU dV dW dX dY dZ d0 d1 _ ?side1 ?side2 ?side3 ?side4 ?side5 ?side6 ?side7 ?side8 ?side9 ?side10 ?side11 ?side12 ?side13 ?side14 ?side15 ?side16 fl.out).mono ?_
 (case side1=>exact sD (zC bY.out HB.out))
 (case side2=>exact bZ.out)
 (case side3=>exact sD (zC b0.out HB.out))
 (case side4=>exact b1.out)
 (case side5=>exact sD (zC b2.out HB.out))
 (case side6=>exact b3.out)
 (case side7=>exact sD (zC b4.out HB.out))
 (case side8=>exact b5.out)
 (case side9=>exact sD (zC b6.out HB.out))
 (case side10=>exact b7.out)
 (case side11=>exact sD (zC b8.out HB.out))
 (case side12=>exact b9.out)
 (case side13=>exact sD (zC ca.out HB.out))
 (case side14=>exact cb.out)
 (case side15=>exact sD (zC cc.out HB.out))
 (case side16=>exact cd.out)
 rintro e kN ⟨kO,kP,kQ,kR,kS,kT,kU,kV,rfl,aj,ak,al,am,m,p,an,q,hb⟩
 refine⟨_,rfl,?_⟩
 have bz:=zM (Kd.S_lower (Kd.S_new' (Kd.S_new' (Kd.S_new' (Kd.S_new' aj (Kd.S_lt (sI W.out))) (Kd.S_lt (sI ae.out))) (Kd.S_lt (sI ao.out))) (Kd.S_lt (sI aw.out))) (below_size (by repeat(first|(with_reducible first|exact HB.out|apply below_alloc|apply pw_below_drewN|apply below_drew1|refine below_set ?_ L.out|refine below_set ?_ M.out|refine below_set ?_ av.out|refine below_set ?_ a1.out)|exact HB.out))))
 replace W:=zM (Kd.S_elder' (sI W.out) (Kd.S_base aj) hb)
 replace ae:=zM (Kd.S_elder' (sI ae.out) (Kd.S_base aj) hb)
 replace ao:=zM (Kd.S_elder' (sI ao.out) (Kd.S_base aj) hb)
 replace aw:=zM (Kd.S_elder' (sI aw.out) (Kd.S_base aj) hb)
 have bA:=zM (Kd.R_lower (Kd.R_new' (Kd.R_new' (Kd.R_new' (Kd.R_new' ak (Kd.R_lt (sE X.out))) (Kd.R_lt (sE af.out))) (Kd.R_lt (sE ap.out))) (Kd.R_lt (sE ax.out))) (below_size (by repeat(first|(with_reducible first|exact HB.out|apply below_alloc|apply pw_below_drewN|apply below_drew1|refine below_set ?_ L.out|refine below_set ?_ M.out|refine below_set ?_ av.out|refine below_set ?_ a1.out)|exact HB.out))))
 replace X:=zM (Kd.R_elder' (sE X.out) (Kd.R_base ak) hb)
 replace af:=zM (Kd.R_elder' (sE af.out) (Kd.R_base ak) hb)
 replace ap:=zM (Kd.R_elder' (sE ap.out) (Kd.R_base ak) hb)
 replace ax:=zM (Kd.R_elder' (sE ax.out) (Kd.R_base ak) hb)
 have bB:=zM (Kd.S_lower (Kd.S_new' (Kd.S_new' (Kd.S_new' (Kd.S_new' (Kd.S_new' (Kd.S_new' (Kd.S_new' (Kd.S_new' (Kd.S_new' (Kd.S_new' (Kd.S_new' (Kd.S_new' (Kd.S_new' (Kd.S_new' (Kd.S_new' (Kd.S_new' al (Kd.S_lt (sI Y.out))) (Kd.R_lt (sE A.out))) (Kd.R_lt (sE B.out))) (Kd.R_lt (sE D.out))) (Kd.S_lt (sI ag.out))) (Kd.R_lt (sE O.out))) (Kd.R_lt (sE P.out))) (Kd.R_lt (sE Q.out))) (Kd.S_lt (sI aq.out))) (Kd.R_lt (sE T.out))) (Kd.R_lt (sE U.out))) (Kd.R_lt (sE V.out))) (Kd.S_lt (sI ay.out))) (Kd.R_lt (sE ab.out))) (Kd.R_lt (sE ac.out))) (Kd.R_lt (sE ad.out))) (below_size (by repeat(first|(with_reducible first|exact HB.out|apply below_alloc|apply pw_below_drewN|apply below_drew1|refine below_set ?_ L.out|refine below_set ?_ M.out|refine below_set ?_ av.out|refine below_set ?_ a1.out)|exact HB.out))))
 replace Y:=zM (Kd.S_mono (Kd.S_told (Kd.S_told (Kd.S_told (Kd.S_told (Kd.S_old (sI Y.out) hb) (Kd.S_base al)) (Kd.R_base m)) (Kd.R_base p)) (Kd.R_base q)) (fun _ a=>a.1))
 replace ag:=zM (Kd.S_mono (Kd.S_told (Kd.S_told (Kd.S_told (Kd.S_told (Kd.S_old (sI ag.out) hb) (Kd.S_base al)) (Kd.R_base m)) (Kd.R_base p)) (Kd.R_base q)) (fun _ a=>a.1))
 replace aq:=zM (Kd.S_mono (Kd.S_told (Kd.S_told (Kd.S_told (Kd.S_told (Kd.S_old (sI aq.out) hb) (Kd.S_base al)) (Kd.R_base m)) (Kd.R_base p)) (Kd.R_base q)) (fun _ a=>a.1))
 replace ay:=zM (Kd.S_mono (Kd.S_told (Kd.S_told (Kd.S_told (Kd.S_told (Kd.S_old (sI ay.out) hb) (Kd.S_base al)) (Kd.R_base m)) (Kd.R_base p)) (Kd.R_base q)) (fun _ a=>a.1))
 have bC:=zM (Kd.S_lower (Kd.S_new' (Kd.S_new' (Kd.S_new' (Kd.S_new' (Kd.S_new' (Kd.S_new' (Kd.S_new' (Kd.S_new' (Kd.S_new' (Kd.S_new' (Kd.S_new' (Kd.S_new' (Kd.S_new' (Kd.S_new' (Kd.S_new' (Kd.S_new' am (Kd.S_lt (sI Z.out))) (Kd.R_lt (sE A.out))) (Kd.R_lt (sE B.out))) (Kd.R_lt (sE D.out))) (Kd.S_lt (sI ah.out))) (Kd.R_lt (sE O.out))) (Kd.R_lt (sE P.out))) (Kd.R_lt (sE Q.out))) (Kd.S_lt (sI ar.out))) (Kd.R_lt (sE T.out))) (Kd.R_lt (sE U.out))) (Kd.R_lt (sE V.out))) (Kd.S_lt (sI az.out))) (Kd.R_lt (sE ab.out))) (Kd.R_lt (sE ac.out))) (Kd.R_lt (sE ad.out))) (below_size (by repeat(first|(with_reducible first|exact HB.out|apply below_alloc|apply pw_below_drewN|apply below_drew1|refine below_set ?_ L.out|refine below_set ?_ M.out|refine below_set ?_ av.out|refine below_set ?_ a1.out)|exact HB.out))))
 replace Z:=zM (Kd.S_mono (Kd.S_told (Kd.S_told (Kd.S_told (Kd.S_told (Kd.S_old (sI Z.out) hb) (Kd.S_base am)) (Kd.R_base m)) (Kd.R_base p)) (Kd.R_base q)) (fun _ a=>a.1))
 replace ah:=zM (Kd.S_mono (Kd.S_told (Kd.S_told (Kd.S_told (Kd.S_told (Kd.S_old (sI ah.out) hb) (Kd.S_base am)) (Kd.R_base m)) (Kd.R_base p)) (Kd.R_base q)) (fun _ a=>a.1))
 replace ar:=zM (Kd.S_mono (Kd.S_told (Kd.S_told (Kd.S_told (Kd.S_told (Kd.S_old (sI ar.out) hb) (Kd.S_base am)) (Kd.R_base m)) (Kd.R_base p)) (Kd.R_base q)) (fun _ a=>a.1))
 replace az:=zM (Kd.S_mono (Kd.S_told (Kd.S_told (Kd.S_told (Kd.S_told (Kd.S_old (sI az.out) hb) (Kd.S_base am)) (Kd.R_base m)) (Kd.R_base p)) (Kd.R_base q)) (fun _ a=>a.1))
 have aL:=zM (Kd.R_lower (Kd.R_new' (Kd.R_new' (Kd.R_new' (Kd.R_new' (Kd.R_new' (Kd.R_new' (Kd.R_new' (Kd.R_new' (Kd.R_new' (Kd.R_new' (Kd.R_new' (Kd.R_new' m (Kd.R_lt (sE A.out))) (Kd.R_lt (sE B.out))) (Kd.R_lt (sE D.out))) (Kd.R_lt (sE O.out))) (Kd.R_lt (sE P.out))) (Kd.R_lt (sE Q.out))) (Kd.R_lt (sE T.out))) (Kd.R_lt (sE U.out))) (Kd.R_lt (sE V.out))) (Kd.R_lt (sE ab.out))) (Kd.R_lt (sE ac.out))) (Kd.R_lt (sE ad.out))) (below_size (by repeat(first|(with_reducible first|exact HB.out|apply below_alloc|apply pw_below_drewN|apply below_drew1|refine below_set ?_ L.out|refine below_set ?_ M.out|refine below_set ?_ av.out|refine below_set ?_ a1.out)|exact HB.out))))
 have aM:=zM (Kd.R_lower (Kd.R_new' (Kd.R_new' (Kd.R_new' (Kd.R_new' (Kd.R_new' (Kd.R_new' (Kd.R_new' (Kd.R_new' (Kd.R_new' (Kd.R_new' (Kd.R_new' (Kd.R_new' p (Kd.R_lt (sE A.out))) (Kd.R_lt (sE B.out))) (Kd.R_lt (sE D.out))) (Kd.R_lt (sE O.out))) (Kd.R_lt (sE P.out))) (Kd.R_lt (sE Q.out))) (Kd.R_lt (sE T.out))) (Kd.R_lt (sE U.out))) (Kd.R_lt (sE V.out))) (Kd.R_lt (sE ab.out))) (Kd.R_lt (sE ac.out))) (Kd.R_lt (sE ad.out))) (below_size (by repeat(first|(with_reducible first|exact HB.out|apply below_alloc|apply pw_below_drewN|apply below_drew1|refine below_set ?_ L.out|refine below_set ?_ M.out|refine below_set ?_ av.out|refine below_set ?_ a1.out)|exact HB.out))))
 have bD:=zM (Kd.S_lower (Kd.S_new' (Kd.S_new' (Kd.S_new' (Kd.S_new' (Kd.S_new' (Kd.S_new' (Kd.S_new' (Kd.S_new' (Kd.S_new' (Kd.S_new' (Kd.S_new' (Kd.S_new' (Kd.S_new' (Kd.S_new' (Kd.S_new' (Kd.S_new' an (Kd.R_lt (sE A.out))) (Kd.R_lt (sE B.out))) (Kd.S_lt (sI aa.out))) (Kd.R_lt (sE D.out))) (Kd.R_lt (sE O.out))) (Kd.R_lt (sE P.out))) (Kd.S_lt (sI ai.out))) (Kd.R_lt (sE Q.out))) (Kd.R_lt (sE T.out))) (Kd.R_lt (sE U.out))) (Kd.S_lt (sI au.out))) (Kd.R_lt (sE V.out))) (Kd.R_lt (sE ab.out))) (Kd.R_lt (sE ac.out))) (Kd.S_lt (sI aA.out))) (Kd.R_lt (sE ad.out))) (below_size (by repeat(first|(with_reducible first|exact HB.out|apply below_alloc|apply pw_below_drewN|apply below_drew1|refine below_set ?_ L.out|refine below_set ?_ M.out|refine below_set ?_ av.out|refine below_set ?_ a1.out)|exact HB.out))))
 replace aa:=zM (Kd.S_mono (Kd.S_told (Kd.S_told (Kd.S_told (Kd.S_told (Kd.S_old (sI aa.out) hb) (Kd.R_base m)) (Kd.R_base p)) (Kd.S_base an)) (Kd.R_base q)) (fun _ a=>a.1))
 replace ai:=zM (Kd.S_mono (Kd.S_told (Kd.S_told (Kd.S_told (Kd.S_told (Kd.S_old (sI ai.out) hb) (Kd.R_base m)) (Kd.R_base p)) (Kd.S_base an)) (Kd.R_base q)) (fun _ a=>a.1))
 replace au:=zM (Kd.S_mono (Kd.S_told (Kd.S_told (Kd.S_told (Kd.S_told (Kd.S_old (sI au.out) hb) (Kd.R_base m)) (Kd.R_base p)) (Kd.S_base an)) (Kd.R_base q)) (fun _ a=>a.1))
 replace aA:=zM (Kd.S_mono (Kd.S_told (Kd.S_told (Kd.S_told (Kd.S_told (Kd.S_old (sI aA.out) hb) (Kd.R_base m)) (Kd.R_base p)) (Kd.S_base an)) (Kd.R_base q)) (fun _ a=>a.1))
 have aN:=zM (Kd.R_lower (Kd.R_new' (Kd.R_new' (Kd.R_new' (Kd.R_new' (Kd.R_new' (Kd.R_new' (Kd.R_new' (Kd.R_new' (Kd.R_new' (Kd.R_new' (Kd.R_new' (Kd.R_new' q (Kd.R_lt (sE A.out))) (Kd.R_lt (sE B.out))) (Kd.R_lt (sE D.out))) (Kd.R_lt (sE O.out))) (Kd.R_lt (sE P.out))) (Kd.R_lt (sE Q.out))) (Kd.R_lt (sE T.out))) (Kd.R_lt (sE U.out))) (Kd.R_lt (sE V.out))) (Kd.R_lt (sE ab.out))) (Kd.R_lt (sE ac.out))) (Kd.R_lt (sE ad.out))) (below_size (by repeat(first|(with_reducible first|exact HB.out|apply below_alloc|apply pw_below_drewN|apply below_drew1|refine below_set ?_ L.out|refine below_set ?_ M.out|refine below_set ?_ av.out|refine below_set ?_ a1.out)|exact HB.out))))
 replace A:=zM (Kd.R_mono (Kd.R_told (Kd.R_told (Kd.R_told (Kd.R_old (sE A.out) hb) (Kd.R_base m)) (Kd.R_base p)) (Kd.R_base q)) (fun _ a=>a.1))
 replace B:=zM (Kd.R_mono (Kd.R_told (Kd.R_told (Kd.R_told (Kd.R_old (sE B.out) hb) (Kd.R_base m)) (Kd.R_base p)) (Kd.R_base q)) (fun _ a=>a.1))
 replace D:=zM (Kd.R_mono (Kd.R_told (Kd.R_told (Kd.R_told (Kd.R_old (sE D.out) hb) (Kd.R_base m)) (Kd.R_base p)) (Kd.R_base q)) (fun _ a=>a.1))
 replace O:=zM (Kd.R_mono (Kd.R_told (Kd.R_told (Kd.R_told (Kd.R_old (sE O.out) hb) (Kd.R_base m)) (Kd.R_base p)) (Kd.R_base q)) (fun _ a=>a.1))
 replace P:=zM (Kd.R_mono (Kd.R_told (Kd.R_told (Kd.R_told (Kd.R_old (sE P.out) hb) (Kd.R_base m)) (Kd.R_base p)) (Kd.R_base q)) (fun _ a=>a.1))
 replace Q:=zM (Kd.R_mono (Kd.R_told (Kd.R_told (Kd.R_told (Kd.R_old (sE Q.out) hb) (Kd.R_base m)) (Kd.R_base p)) (Kd.R_base q)) (fun _ a=>a.1))
 replace T:=zM (Kd.R_mono (Kd.R_told (Kd.R_told (Kd.R_told (Kd.R_old (sE T.out) hb) (Kd.R_base m)) (Kd.R_base p)) (Kd.R_base q)) (fun _ a=>a.1))
 replace U:=zM (Kd.R_mono (Kd.R_told (Kd.R_told (Kd.R_told (Kd.R_old (sE U.out) hb) (Kd.R_base m)) (Kd.R_base p)) (Kd.R_base q)) (fun _ a=>a.1))
 replace V:=zM (Kd.R_mono (Kd.R_told (Kd.R_told (Kd.R_told (Kd.R_old (sE V.out) hb) (Kd.R_base m)) (Kd.R_base p)) (Kd.R_base q)) (fun _ a=>a.1))
 replace ab:=zM (Kd.R_mono (Kd.R_told (Kd.R_told (Kd.R_told (Kd.R_old (sE ab.out) hb) (Kd.R_base m)) (Kd.R_base p)) (Kd.R_base q)) (fun _ a=>a.1))
 replace ac:=zM (Kd.R_mono (Kd.R_told (Kd.R_told (Kd.R_told (Kd.R_old (sE ac.out) hb) (Kd.R_base m)) (Kd.R_base p)) (Kd.R_base q)) (fun _ a=>a.1))
 replace ad:=zM (Kd.R_mono (Kd.R_told (Kd.R_told (Kd.R_told (Kd.R_old (sE ad.out) hb) (Kd.R_base m)) (Kd.R_base p)) (Kd.R_base q)) (fun _ a=>a.1))
 replace j:=sK j hb
 replace l:=sK l hb
 replace d:=sK d hb
 replace s:=sK s hb
 replace HB:=sB HB hb
 (try clear hb)
 (try clear hb2)
 (try clear hk)
 (try clear hi)
 (try clear aj)
 (try clear ak)
 (try clear al)
 (try clear am)
 (try clear m)
 (try clear p)
 (try clear an)
 (try clear q)
 obtain⟨fM,fN,eZ⟩:=Kd.S_slice bz.out
 (first|subst eZ|(injection eZ with u E x;have F:=u.symm;have G:=x.symm;clear u E x;subst F;subst G))
 obtain⟨fO,fP,e0⟩:=Kd.R_slice bA.out
 (first|subst e0|(injection e0 with u E x;have F:=u.symm;have G:=x.symm;clear u E x;subst F;subst G))
 obtain⟨fQ,fR,e1⟩:=Kd.S_slice bB.out
 (first|subst e1|(injection e1 with u E x;have F:=u.symm;have G:=x.symm;clear u E x;subst F;subst G))
 obtain⟨fS,fT,e2⟩:=Kd.S_slice bC.out
 (first|subst e2|(injection e2 with u E x;have F:=u.symm;have G:=x.symm;clear u E x;subst F;subst G))
 obtain⟨fU,fV,e3⟩:=Kd.R_slice aL.out
 (first|subst e3|(injection e3 with u E x;have F:=u.symm;have G:=x.symm;clear u E x;subst F;subst G))
 obtain⟨fW,fX,e4⟩:=Kd.R_slice aM.out
 (first|subst e4|(injection e4 with u E x;have F:=u.symm;have G:=x.symm;clear u E x;subst F;subst G))
 obtain⟨fY,fZ,e5⟩:=Kd.S_slice bD.out
 (first|subst e5|(injection e5 with u E x;have F:=u.symm;have G:=x.symm;clear u E x;subst F;subst G))
 obtain⟨f0,f1,e6⟩:=Kd.R_slice aN.out
 (first|subst e6|(injection e6 with u E x;have F:=u.symm;have G:=x.symm;clear u E x;subst F;subst G))
 refine hK.out _ _ ⟨(blk_cell d.out 0).trans rfl,(blk_cell d.out 1).trans rfl,(blk_cell d.out 2).trans rfl,(blk_cell d.out 3).trans rfl,(blk_cell d.out 4).trans rfl,(blk_cell d.out 5).trans rfl,(blk_cell d.out 6).trans rfl,(blk_cell d.out 7).trans rfl,(blk_cell d.out 8).trans rfl,(blk_cell d.out 9).trans rfl,(blk_cell j.out 0).trans rfl,(blk_cell j.out 1).trans rfl,(blk_cell j.out 2).trans rfl,(blk_cell j.out 3).trans rfl,(blk_cell j.out 4).trans rfl,(blk_cell j.out 5).trans rfl,(blk_cell j.out 6).trans rfl,(blk_cell j.out 7).trans rfl,(blk_cell j.out 8).trans rfl,(blk_cell j.out 9).trans rfl⟩ (fun hHeld=>?_)
 clear hK K
 refine norm_ (a':=?_) ?_ ?_
 rotate_left
 ·(
 show Act.put _ (some 37) _=_
 simp only[zP,i64_w,i32_w]
 rfl)
 refine one_ (i:=3) (N:=some 38) #[true,true,true,true,false] rfl rfl (by kernel_rfl) (by decide) (fun K hK=>?_)
 refine goes_ Try.func29 (by kernel_rfl) rfl #[.agg #[.int .i64 bf,.slice ck a6.length bT,.slice cl a7.length bU,.slice cm a8.length bV,.slice cn a9.length bW,.slice aY aB.length aS,.int .i64 bg,.slice aZ aC.length aT,.slice co ba.length bX,.slice a0 aD.length aU],.agg #[.int .i64 dS,.slice fM dT.length fN,.slice fO dU.length fP,.slice fQ dV.length fR,.slice fS dW.length fT,.slice fU dX.length fV,.int .i64 dY,.slice fW dZ.length fX,.slice fY d0.length fZ,.slice f0 d1.length f1]] (by rfl) rfl rfl (by(try simp only[List.map_toArray,List.map_cons,List.map_nil]);first|done|rfl|(simp only[List.length_drop,List.length_take];rfl)) ?_
 with_reducible refine(laws_eqMemory.calls k bf _ _ a6 _ _ a7 _ _ a8 _ _ a9 _ _ aB bg _ _ aC _ _ ba _ _ aD dS _ _ dT _ _ dU _ _ dV _ _ dW _ _ dX dY _ _ dZ _ _ d0 _ _ d1 true _ ?side1 ?side2 ?side3 ?side4 ?side5 ?side6 ?side7 ?side8 ?side9 ?side10 ?side11 ?side12 ?side13 ?side14 ?side15 ?side16 ?side17 ?side18 ?side19 ?side20 ?side21 ?side22 ?side23 ?side24 ?side25 ?side26 ?side27 ?side28 ?side29 ?side30 ?side31 ?side32 fm.out).mono ?_
 (case side1=>exact sD ((Kd.S_reads' ao.out).2.2))
 (case side2=>exact(Kd.S_reads' ao.out).2.1)
 (case side3=>exact sD ((Kd.R_reads' ap.out).2.2))
 (case side4=>exact(Kd.R_reads' ap.out).2.1)
 (case side5=>exact sD ((Kd.S_reads' aq.out).2.2))
 (case side6=>exact(Kd.S_reads' aq.out).2.1)
 (case side7=>exact sD ((Kd.S_reads' ar.out).2.2))
 (case side8=>exact(Kd.S_reads' ar.out).2.1)
 (case side9=>exact sD ((Kd.R_reads' T.out).2.2))
 (case side10=>exact(Kd.R_reads' T.out).2.1)
 (case side11=>exact sD ((Kd.R_reads' U.out).2.2))
 (case side12=>exact(Kd.R_reads' U.out).2.1)
 (case side13=>exact sD ((Kd.S_reads' au.out).2.2))
 (case side14=>exact(Kd.S_reads' au.out).2.1)
 (case side15=>exact sD ((Kd.R_reads' V.out).2.2))
 (case side16=>exact(Kd.R_reads' V.out).2.1)
 (case side17=>exact sD ((Kd.S_reads' bz.out).2.2))
 (case side18=>exact(Kd.S_reads' bz.out).2.1)
 (case side19=>exact sD ((Kd.R_reads' bA.out).2.2))
 (case side20=>exact(Kd.R_reads' bA.out).2.1)
 (case side21=>exact sD ((Kd.S_reads' bB.out).2.2))
 (case side22=>exact(Kd.S_reads' bB.out).2.1)
 (case side23=>exact sD ((Kd.S_reads' bC.out).2.2))
 (case side24=>exact(Kd.S_reads' bC.out).2.1)
 (case side25=>exact sD ((Kd.R_reads' aL.out).2.2))
 (case side26=>exact(Kd.R_reads' aL.out).2.1)
 (case side27=>exact sD ((Kd.R_reads' aM.out).2.2))
 (case side28=>exact(Kd.R_reads' aM.out).2.1)
 (case side29=>exact sD ((Kd.S_reads' bD.out).2.2))
 (case side30=>exact(Kd.S_reads' bD.out).2.1)
 (case side31=>exact sD ((Kd.R_reads' aN.out).2.2))
 (case side32=>exact(Kd.R_reads' aN.out).2.1)
 rintro e f2 ⟨rfl,hb⟩
 refine⟨_,rfl,?_⟩
 replace W:=zM (Kd.S_below (sI W.out) hb)
 replace X:=zM (Kd.R_below (sE X.out) hb)
 replace Y:=zM (Kd.S_below (sI Y.out) hb)
 replace Z:=zM (Kd.S_below (sI Z.out) hb)
 replace A:=zM (Kd.R_below (sE A.out) hb)
 replace B:=zM (Kd.R_below (sE B.out) hb)
 replace aa:=zM (Kd.S_below (sI aa.out) hb)
 replace D:=zM (Kd.R_below (sE D.out) hb)
 replace ae:=zM (Kd.S_below (sI ae.out) hb)
 replace af:=zM (Kd.R_below (sE af.out) hb)
 replace ag:=zM (Kd.S_below (sI ag.out) hb)
 replace ah:=zM (Kd.S_below (sI ah.out) hb)
 replace O:=zM (Kd.R_below (sE O.out) hb)
 replace P:=zM (Kd.R_below (sE P.out) hb)
 replace ai:=zM (Kd.S_below (sI ai.out) hb)
 replace Q:=zM (Kd.R_below (sE Q.out) hb)
 replace ao:=zM (Kd.S_below (sI ao.out) hb)
 replace ap:=zM (Kd.R_below (sE ap.out) hb)
 replace aq:=zM (Kd.S_below (sI aq.out) hb)
 replace ar:=zM (Kd.S_below (sI ar.out) hb)
 replace T:=zM (Kd.R_below (sE T.out) hb)
 replace U:=zM (Kd.R_below (sE U.out) hb)
 replace au:=zM (Kd.S_below (sI au.out) hb)
 replace V:=zM (Kd.R_below (sE V.out) hb)
 replace aw:=zM (Kd.S_below (sI aw.out) hb)
 replace ax:=zM (Kd.R_below (sE ax.out) hb)
 replace ay:=zM (Kd.S_below (sI ay.out) hb)
 replace az:=zM (Kd.S_below (sI az.out) hb)
 replace ab:=zM (Kd.R_below (sE ab.out) hb)
 replace ac:=zM (Kd.R_below (sE ac.out) hb)
 replace aA:=zM (Kd.S_below (sI aA.out) hb)
 replace ad:=zM (Kd.R_below (sE ad.out) hb)
 replace bz:=zM (Kd.S_below (sI bz.out) hb)
 replace bA:=zM (Kd.R_below (sE bA.out) hb)
 replace bB:=zM (Kd.S_below (sI bB.out) hb)
 replace bC:=zM (Kd.S_below (sI bC.out) hb)
 replace aL:=zM (Kd.R_below (sE aL.out) hb)
 replace aM:=zM (Kd.R_below (sE aM.out) hb)
 replace bD:=zM (Kd.S_below (sI bD.out) hb)
 replace aN:=zM (Kd.R_below (sE aN.out) hb)
 replace j:=sK j hb
 replace l:=sK l hb
 replace d:=sK d hb
 replace s:=sK s hb
 replace HB:=sB HB hb
 (try clear hb)
 (try clear hb2)
 (try clear hk)
 (try clear hi)
 refine hK.out _ _ ⟨(blk_cell d.out 0).trans rfl,(blk_cell d.out 1).trans rfl,(blk_cell d.out 2).trans rfl,(blk_cell d.out 3).trans rfl,(blk_cell d.out 4).trans rfl,(blk_cell d.out 5).trans rfl,(blk_cell d.out 6).trans rfl,(blk_cell d.out 7).trans rfl,(blk_cell d.out 8).trans rfl,(blk_cell d.out 9).trans rfl,(blk_cell j.out 0).trans rfl,(blk_cell j.out 1).trans rfl,(blk_cell j.out 2).trans rfl,(blk_cell j.out 3).trans rfl,(blk_cell j.out 4).trans rfl,(blk_cell j.out 5).trans rfl,(blk_cell j.out 6).trans rfl,(blk_cell j.out 7).trans rfl,(blk_cell j.out 8).trans rfl,(blk_cell j.out 9).trans rfl⟩ (fun hHeld=>?_)
 clear hK K
 refine norm_ (a':=?_) ?_ ?_
 rotate_left
 ·(
 show Act.put _ (some 38) _=_
 simp only[zP,i64_w,i32_w]
 rfl)
 refine pure_ (i:=4) (N:=some 39) (v:=?_) (a':=?_) #[true,true,true,true,true] rfl rfl (by kernel_rfl) (fun _ _ _ h=>h) (Or.inl ⟨by rfl,?_⟩) ?_ ?_
 rotate_left
 ·(
 intro w'
 go_simp
 with_reducible rfl)
 rotate_left
 ·(
 simp only[zP,i64_w,i32_w]
 rfl)
 refine done_ (by kernel_rfl) ?_
 try go_wp2
 replace W:=zM (Kd.S_drew W.out)
 replace X:=zM (Kd.R_drew X.out)
 replace Y:=zM (Kd.S_drew Y.out)
 replace Z:=zM (Kd.S_drew Z.out)
 replace A:=zM (Kd.R_drew A.out)
 replace B:=zM (Kd.R_drew B.out)
 replace aa:=zM (Kd.S_drew aa.out)
 replace D:=zM (Kd.R_drew D.out)
 replace ae:=zM (Kd.S_drew ae.out)
 replace af:=zM (Kd.R_drew af.out)
 replace ag:=zM (Kd.S_drew ag.out)
 replace ah:=zM (Kd.S_drew ah.out)
 replace O:=zM (Kd.R_drew O.out)
 replace P:=zM (Kd.R_drew P.out)
 replace ai:=zM (Kd.S_drew ai.out)
 replace Q:=zM (Kd.R_drew Q.out)
 replace ao:=zM (Kd.S_drew ao.out)
 replace ap:=zM (Kd.R_drew ap.out)
 replace aq:=zM (Kd.S_drew aq.out)
 replace ar:=zM (Kd.S_drew ar.out)
 replace T:=zM (Kd.R_drew T.out)
 replace U:=zM (Kd.R_drew U.out)
 replace au:=zM (Kd.S_drew au.out)
 replace V:=zM (Kd.R_drew V.out)
 replace aw:=zM (Kd.S_drew aw.out)
 replace ax:=zM (Kd.R_drew ax.out)
 replace ay:=zM (Kd.S_drew ay.out)
 replace az:=zM (Kd.S_drew az.out)
 replace ab:=zM (Kd.R_drew ab.out)
 replace ac:=zM (Kd.R_drew ac.out)
 replace aA:=zM (Kd.S_drew aA.out)
 replace ad:=zM (Kd.R_drew ad.out)
 replace bz:=zM (Kd.S_drew bz.out)
 replace bA:=zM (Kd.R_drew bA.out)
 replace bB:=zM (Kd.S_drew bB.out)
 replace bC:=zM (Kd.S_drew bC.out)
 replace aL:=zM (Kd.R_drew aL.out)
 replace aM:=zM (Kd.R_drew aM.out)
 replace bD:=zM (Kd.S_drew bD.out)
 replace aN:=zM (Kd.R_drew aN.out)
 replace j:=zM (blk_drew j.out)
 replace l:=zM (blk_drew l.out)
 replace d:=zM (blk_drew d.out)
 replace s:=zM (blk_drew s.out)
 replace HB:=zM (below_drew1 HB.out)
 refine start_ (n:=5) (S:=fun w'=>w'.cell? ⟨J,0,none⟩=some (.int .i64 bF)∧w'.cell? ⟨J,1,none⟩=some (.slice dD bh.length cp)∧w'.cell? ⟨J,2,none⟩=some (.slice dE bi.length cq)∧w'.cell? ⟨J,3,none⟩=some (.slice dF bj.length cr)∧w'.cell? ⟨J,4,none⟩=some (.slice dG bk.length ct)∧w'.cell? ⟨J,5,none⟩=some (.slice bb aG.length a2)∧w'.cell? ⟨J,6,none⟩=some (.int .i64 bG)∧w'.cell? ⟨J,7,none⟩=some (.slice bc aH.length a3)∧w'.cell? ⟨J,8,none⟩=some (.slice dH bl.length cu)∧w'.cell? ⟨J,9,none⟩=some (.slice bd aI.length a4)∧w'.cell? ⟨aF,0,none⟩=some (.int .i64 a1_0)∧w'.cell? ⟨aF,1,none⟩=some (.slice A1_1 l1_1.length c1_1)∧w'.cell? ⟨aF,2,none⟩=some (.slice A1_2 l1_2.length c1_2)∧w'.cell? ⟨aF,3,none⟩=some (.slice A1_3 l1_3.length c1_3)∧w'.cell? ⟨aF,4,none⟩=some (.slice A1_4 l1_4.length c1_4)∧w'.cell? ⟨aF,5,none⟩=some (.slice A1_5 l1_5.length c1_5)∧w'.cell? ⟨aF,6,none⟩=some (.int .i64 a1_6)∧w'.cell? ⟨aF,7,none⟩=some (.slice A1_7 l1_7.length c1_7)∧w'.cell? ⟨aF,8,none⟩=some (.slice A1_8 l1_8.length c1_8)∧w'.cell? ⟨aF,9,none⟩=some (.slice A1_9 l1_9.length c1_9)) (ds:=[]) #[false,false,false,false,false] (by kernel_rfl) rfl rfl ⟨(blk_cell s.out 0).trans rfl,(blk_cell s.out 1).trans rfl,(blk_cell s.out 2).trans rfl,(blk_cell s.out 3).trans rfl,(blk_cell s.out 4).trans rfl,(blk_cell s.out 5).trans rfl,(blk_cell s.out 6).trans rfl,(blk_cell s.out 7).trans rfl,(blk_cell s.out 8).trans rfl,(blk_cell s.out 9).trans rfl,(blk_cell l.out 0).trans rfl,(blk_cell l.out 1).trans rfl,(blk_cell l.out 2).trans rfl,(blk_cell l.out 3).trans rfl,(blk_cell l.out 4).trans rfl,(blk_cell l.out 5).trans rfl,(blk_cell l.out 6).trans rfl,(blk_cell l.out 7).trans rfl,(blk_cell l.out 8).trans rfl,(blk_cell l.out 9).trans rfl⟩ (fun hHeld=>?_)
 generalize f2.drew=w101 at W X Y Z A B aa D ae af ag ah O P ai Q ao ap aq ar T U au V aw ax ay az ab ac aA ad bz bA bB bC aL aM bD aN j l d s HB hHeld ⊢
 refine take_ (i:=0) (N:=some 40) (v:=?_) (a':=?_) #[true,false,false,false,false] rfl rfl (by kernel_rfl) (fun _ _ _ h=>h) (Or.inl ⟨by rfl,?_⟩) hHeld ?_ ?_
 rotate_left
 ·(
 rintro w' ⟨s0,s1,s2,s3,s4,s5,s6,s7,s8,s9,cQ,cR,cS,cT,cU,cV,cW,cX,cY,cZ⟩
 go_simp
 with_reducible rfl)
 rotate_left
 ·(
 simp only[zP,i64_w,i32_w]
 rfl)
 refine take_ (i:=1) (N:=some 41) (v:=?_) (a':=?_) #[true,true,false,false,false] rfl rfl (by kernel_rfl) (fun _ _ _ h=>h) (Or.inl ⟨by rfl,?_⟩) hHeld ?_ ?_
 rotate_left
 ·(
 rintro w' ⟨s0,s1,s2,s3,s4,s5,s6,s7,s8,s9,cQ,cR,cS,cT,cU,cV,cW,cX,cY,cZ⟩
 go_simp
 with_reducible rfl)
 rotate_left
 ·(
 simp only[zP,i64_w,i32_w]
 rfl)
 refine one_ (i:=2) (N:=some 42) #[true,true,true,false,false] rfl rfl (by kernel_rfl) (by decide) (fun K hK=>?_)
 refine goes_ Try.func27 (by kernel_rfl) rfl #[.agg #[.int .i64 a1_0,.slice A1_1 l1_1.length c1_1,.slice A1_2 l1_2.length c1_2,.slice A1_3 l1_3.length c1_3,.slice A1_4 l1_4.length c1_4,.slice A1_5 l1_5.length c1_5,.int .i64 a1_6,.slice A1_7 l1_7.length c1_7,.slice A1_8 l1_8.length c1_8,.slice A1_9 l1_9.length c1_9]] (by rfl) rfl rfl (by(try simp only[List.map_toArray,List.map_cons,List.map_nil]);first|done|rfl|(simp only[List.length_drop,List.length_take];rfl)) ?_
 with_reducible refine(laws_toMemory.calls k a1_0 _ _ l1_1 _ _ l1_2 _ _ l1_3 _ _ l1_4 _ _ l1_5 a1_6 _ _ l1_7 _ _ l1_8 _ _ l1_9 d3 d4 d5 d6 d7 d8 d9 ea eb ec _ ?side1 ?side2 ?side3 ?side4 ?side5 ?side6 ?side7 ?side8 ?side9 ?side10 ?side11 ?side12 ?side13 ?side14 ?side15 ?side16 fn.out).mono ?_
 (case side1=>exact sD (zC cv.out HB.out))
 (case side2=>exact cw.out)
 (case side3=>exact sD (zC cx.out HB.out))
 (case side4=>exact cy.out)
 (case side5=>exact sD (zC cz.out HB.out))
 (case side6=>exact cA.out)
 (case side7=>exact sD (zC cB.out HB.out))
 (case side8=>exact cC.out)
 (case side9=>exact sD (zC cD.out HB.out))
 (case side10=>exact cE.out)
 (case side11=>exact sD (zC cF.out HB.out))
 (case side12=>exact cG.out)
 (case side13=>exact sD (zC cH.out HB.out))
 (case side14=>exact cI.out)
 (case side15=>exact sD (zC cJ.out HB.out))
 (case side16=>exact cK.out)
 rintro e kW ⟨kX,kY,kZ,k0,k1,k2,k3,k4,rfl,aj,ak,al,am,m,p,an,q,hb⟩
 refine⟨_,rfl,?_⟩
 have dI:=zM (Kd.S_lower (Kd.S_new' (Kd.S_new' (Kd.S_new' (Kd.S_new' (Kd.S_new' aj (Kd.S_lt (sI W.out))) (Kd.S_lt (sI ae.out))) (Kd.S_lt (sI ao.out))) (Kd.S_lt (sI aw.out))) (Kd.S_lt (sI bz.out))) (below_size (by repeat(first|(with_reducible first|exact HB.out|apply below_alloc|apply pw_below_drewN|apply below_drew1|refine below_set ?_ L.out|refine below_set ?_ M.out|refine below_set ?_ av.out|refine below_set ?_ a1.out)|exact HB.out))))
 replace W:=zM (Kd.S_elder' (sI W.out) (Kd.S_base aj) hb)
 replace ae:=zM (Kd.S_elder' (sI ae.out) (Kd.S_base aj) hb)
 replace ao:=zM (Kd.S_elder' (sI ao.out) (Kd.S_base aj) hb)
 replace aw:=zM (Kd.S_elder' (sI aw.out) (Kd.S_base aj) hb)
 replace bz:=zM (Kd.S_elder' (sI bz.out) (Kd.S_base aj) hb)
 have dJ:=zM (Kd.R_lower (Kd.R_new' (Kd.R_new' (Kd.R_new' (Kd.R_new' (Kd.R_new' ak (Kd.R_lt (sE X.out))) (Kd.R_lt (sE af.out))) (Kd.R_lt (sE ap.out))) (Kd.R_lt (sE ax.out))) (Kd.R_lt (sE bA.out))) (below_size (by repeat(first|(with_reducible first|exact HB.out|apply below_alloc|apply pw_below_drewN|apply below_drew1|refine below_set ?_ L.out|refine below_set ?_ M.out|refine below_set ?_ av.out|refine below_set ?_ a1.out)|exact HB.out))))
 replace X:=zM (Kd.R_elder' (sE X.out) (Kd.R_base ak) hb)
 replace af:=zM (Kd.R_elder' (sE af.out) (Kd.R_base ak) hb)
 replace ap:=zM (Kd.R_elder' (sE ap.out) (Kd.R_base ak) hb)
 replace ax:=zM (Kd.R_elder' (sE ax.out) (Kd.R_base ak) hb)
 replace bA:=zM (Kd.R_elder' (sE bA.out) (Kd.R_base ak) hb)
 have dK:=zM (Kd.S_lower (Kd.S_new' (Kd.S_new' (Kd.S_new' (Kd.S_new' (Kd.S_new' (Kd.S_new' (Kd.S_new' (Kd.S_new' (Kd.S_new' (Kd.S_new' (Kd.S_new' (Kd.S_new' (Kd.S_new' (Kd.S_new' (Kd.S_new' (Kd.S_new' (Kd.S_new' (Kd.S_new' (Kd.S_new' (Kd.S_new' al (Kd.S_lt (sI Y.out))) (Kd.R_lt (sE A.out))) (Kd.R_lt (sE B.out))) (Kd.R_lt (sE D.out))) (Kd.S_lt (sI ag.out))) (Kd.R_lt (sE O.out))) (Kd.R_lt (sE P.out))) (Kd.R_lt (sE Q.out))) (Kd.S_lt (sI aq.out))) (Kd.R_lt (sE T.out))) (Kd.R_lt (sE U.out))) (Kd.R_lt (sE V.out))) (Kd.S_lt (sI ay.out))) (Kd.R_lt (sE ab.out))) (Kd.R_lt (sE ac.out))) (Kd.R_lt (sE ad.out))) (Kd.S_lt (sI bB.out))) (Kd.R_lt (sE aL.out))) (Kd.R_lt (sE aM.out))) (Kd.R_lt (sE aN.out))) (below_size (by repeat(first|(with_reducible first|exact HB.out|apply below_alloc|apply pw_below_drewN|apply below_drew1|refine below_set ?_ L.out|refine below_set ?_ M.out|refine below_set ?_ av.out|refine below_set ?_ a1.out)|exact HB.out))))
 replace Y:=zM (Kd.S_mono (Kd.S_told (Kd.S_told (Kd.S_told (Kd.S_told (Kd.S_old (sI Y.out) hb) (Kd.S_base al)) (Kd.R_base m)) (Kd.R_base p)) (Kd.R_base q)) (fun _ a=>a.1))
 replace ag:=zM (Kd.S_mono (Kd.S_told (Kd.S_told (Kd.S_told (Kd.S_told (Kd.S_old (sI ag.out) hb) (Kd.S_base al)) (Kd.R_base m)) (Kd.R_base p)) (Kd.R_base q)) (fun _ a=>a.1))
 replace aq:=zM (Kd.S_mono (Kd.S_told (Kd.S_told (Kd.S_told (Kd.S_told (Kd.S_old (sI aq.out) hb) (Kd.S_base al)) (Kd.R_base m)) (Kd.R_base p)) (Kd.R_base q)) (fun _ a=>a.1))
 replace ay:=zM (Kd.S_mono (Kd.S_told (Kd.S_told (Kd.S_told (Kd.S_told (Kd.S_old (sI ay.out) hb) (Kd.S_base al)) (Kd.R_base m)) (Kd.R_base p)) (Kd.R_base q)) (fun _ a=>a.1))
 replace bB:=zM (Kd.S_mono (Kd.S_told (Kd.S_told (Kd.S_told (Kd.S_told (Kd.S_old (sI bB.out) hb) (Kd.S_base al)) (Kd.R_base m)) (Kd.R_base p)) (Kd.R_base q)) (fun _ a=>a.1))
 have dL:=zM (Kd.S_lower (Kd.S_new' (Kd.S_new' (Kd.S_new' (Kd.S_new' (Kd.S_new' (Kd.S_new' (Kd.S_new' (Kd.S_new' (Kd.S_new' (Kd.S_new' (Kd.S_new' (Kd.S_new' (Kd.S_new' (Kd.S_new' (Kd.S_new' (Kd.S_new' (Kd.S_new' (Kd.S_new' (Kd.S_new' (Kd.S_new' am (Kd.S_lt (sI Z.out))) (Kd.R_lt (sE A.out))) (Kd.R_lt (sE B.out))) (Kd.R_lt (sE D.out))) (Kd.S_lt (sI ah.out))) (Kd.R_lt (sE O.out))) (Kd.R_lt (sE P.out))) (Kd.R_lt (sE Q.out))) (Kd.S_lt (sI ar.out))) (Kd.R_lt (sE T.out))) (Kd.R_lt (sE U.out))) (Kd.R_lt (sE V.out))) (Kd.S_lt (sI az.out))) (Kd.R_lt (sE ab.out))) (Kd.R_lt (sE ac.out))) (Kd.R_lt (sE ad.out))) (Kd.S_lt (sI bC.out))) (Kd.R_lt (sE aL.out))) (Kd.R_lt (sE aM.out))) (Kd.R_lt (sE aN.out))) (below_size (by repeat(first|(with_reducible first|exact HB.out|apply below_alloc|apply pw_below_drewN|apply below_drew1|refine below_set ?_ L.out|refine below_set ?_ M.out|refine below_set ?_ av.out|refine below_set ?_ a1.out)|exact HB.out))))
 replace Z:=zM (Kd.S_mono (Kd.S_told (Kd.S_told (Kd.S_told (Kd.S_told (Kd.S_old (sI Z.out) hb) (Kd.S_base am)) (Kd.R_base m)) (Kd.R_base p)) (Kd.R_base q)) (fun _ a=>a.1))
 replace ah:=zM (Kd.S_mono (Kd.S_told (Kd.S_told (Kd.S_told (Kd.S_told (Kd.S_old (sI ah.out) hb) (Kd.S_base am)) (Kd.R_base m)) (Kd.R_base p)) (Kd.R_base q)) (fun _ a=>a.1))
 replace ar:=zM (Kd.S_mono (Kd.S_told (Kd.S_told (Kd.S_told (Kd.S_told (Kd.S_old (sI ar.out) hb) (Kd.S_base am)) (Kd.R_base m)) (Kd.R_base p)) (Kd.R_base q)) (fun _ a=>a.1))
 replace az:=zM (Kd.S_mono (Kd.S_told (Kd.S_told (Kd.S_told (Kd.S_told (Kd.S_old (sI az.out) hb) (Kd.S_base am)) (Kd.R_base m)) (Kd.R_base p)) (Kd.R_base q)) (fun _ a=>a.1))
 replace bC:=zM (Kd.S_mono (Kd.S_told (Kd.S_told (Kd.S_told (Kd.S_told (Kd.S_old (sI bC.out) hb) (Kd.S_base am)) (Kd.R_base m)) (Kd.R_base p)) (Kd.R_base q)) (fun _ a=>a.1))
 have dM:=zM (Kd.R_lower (Kd.R_new' (Kd.R_new' (Kd.R_new' (Kd.R_new' (Kd.R_new' (Kd.R_new' (Kd.R_new' (Kd.R_new' (Kd.R_new' (Kd.R_new' (Kd.R_new' (Kd.R_new' (Kd.R_new' (Kd.R_new' (Kd.R_new' m (Kd.R_lt (sE A.out))) (Kd.R_lt (sE B.out))) (Kd.R_lt (sE D.out))) (Kd.R_lt (sE O.out))) (Kd.R_lt (sE P.out))) (Kd.R_lt (sE Q.out))) (Kd.R_lt (sE T.out))) (Kd.R_lt (sE U.out))) (Kd.R_lt (sE V.out))) (Kd.R_lt (sE ab.out))) (Kd.R_lt (sE ac.out))) (Kd.R_lt (sE ad.out))) (Kd.R_lt (sE aL.out))) (Kd.R_lt (sE aM.out))) (Kd.R_lt (sE aN.out))) (below_size (by repeat(first|(with_reducible first|exact HB.out|apply below_alloc|apply pw_below_drewN|apply below_drew1|refine below_set ?_ L.out|refine below_set ?_ M.out|refine below_set ?_ av.out|refine below_set ?_ a1.out)|exact HB.out))))
 have dN:=zM (Kd.R_lower (Kd.R_new' (Kd.R_new' (Kd.R_new' (Kd.R_new' (Kd.R_new' (Kd.R_new' (Kd.R_new' (Kd.R_new' (Kd.R_new' (Kd.R_new' (Kd.R_new' (Kd.R_new' (Kd.R_new' (Kd.R_new' (Kd.R_new' p (Kd.R_lt (sE A.out))) (Kd.R_lt (sE B.out))) (Kd.R_lt (sE D.out))) (Kd.R_lt (sE O.out))) (Kd.R_lt (sE P.out))) (Kd.R_lt (sE Q.out))) (Kd.R_lt (sE T.out))) (Kd.R_lt (sE U.out))) (Kd.R_lt (sE V.out))) (Kd.R_lt (sE ab.out))) (Kd.R_lt (sE ac.out))) (Kd.R_lt (sE ad.out))) (Kd.R_lt (sE aL.out))) (Kd.R_lt (sE aM.out))) (Kd.R_lt (sE aN.out))) (below_size (by repeat(first|(with_reducible first|exact HB.out|apply below_alloc|apply pw_below_drewN|apply below_drew1|refine below_set ?_ L.out|refine below_set ?_ M.out|refine below_set ?_ av.out|refine below_set ?_ a1.out)|exact HB.out))))
 have dO:=zM (Kd.S_lower (Kd.S_new' (Kd.S_new' (Kd.S_new' (Kd.S_new' (Kd.S_new' (Kd.S_new' (Kd.S_new' (Kd.S_new' (Kd.S_new' (Kd.S_new' (Kd.S_new' (Kd.S_new' (Kd.S_new' (Kd.S_new' (Kd.S_new' (Kd.S_new' (Kd.S_new' (Kd.S_new' (Kd.S_new' (Kd.S_new' an (Kd.R_lt (sE A.out))) (Kd.R_lt (sE B.out))) (Kd.S_lt (sI aa.out))) (Kd.R_lt (sE D.out))) (Kd.R_lt (sE O.out))) (Kd.R_lt (sE P.out))) (Kd.S_lt (sI ai.out))) (Kd.R_lt (sE Q.out))) (Kd.R_lt (sE T.out))) (Kd.R_lt (sE U.out))) (Kd.S_lt (sI au.out))) (Kd.R_lt (sE V.out))) (Kd.R_lt (sE ab.out))) (Kd.R_lt (sE ac.out))) (Kd.S_lt (sI aA.out))) (Kd.R_lt (sE ad.out))) (Kd.R_lt (sE aL.out))) (Kd.R_lt (sE aM.out))) (Kd.S_lt (sI bD.out))) (Kd.R_lt (sE aN.out))) (below_size (by repeat(first|(with_reducible first|exact HB.out|apply below_alloc|apply pw_below_drewN|apply below_drew1|refine below_set ?_ L.out|refine below_set ?_ M.out|refine below_set ?_ av.out|refine below_set ?_ a1.out)|exact HB.out))))
 replace aa:=zM (Kd.S_mono (Kd.S_told (Kd.S_told (Kd.S_told (Kd.S_told (Kd.S_old (sI aa.out) hb) (Kd.R_base m)) (Kd.R_base p)) (Kd.S_base an)) (Kd.R_base q)) (fun _ a=>a.1))
 replace ai:=zM (Kd.S_mono (Kd.S_told (Kd.S_told (Kd.S_told (Kd.S_told (Kd.S_old (sI ai.out) hb) (Kd.R_base m)) (Kd.R_base p)) (Kd.S_base an)) (Kd.R_base q)) (fun _ a=>a.1))
 replace au:=zM (Kd.S_mono (Kd.S_told (Kd.S_told (Kd.S_told (Kd.S_told (Kd.S_old (sI au.out) hb) (Kd.R_base m)) (Kd.R_base p)) (Kd.S_base an)) (Kd.R_base q)) (fun _ a=>a.1))
 replace aA:=zM (Kd.S_mono (Kd.S_told (Kd.S_told (Kd.S_told (Kd.S_told (Kd.S_old (sI aA.out) hb) (Kd.R_base m)) (Kd.R_base p)) (Kd.S_base an)) (Kd.R_base q)) (fun _ a=>a.1))
 replace bD:=zM (Kd.S_mono (Kd.S_told (Kd.S_told (Kd.S_told (Kd.S_told (Kd.S_old (sI bD.out) hb) (Kd.R_base m)) (Kd.R_base p)) (Kd.S_base an)) (Kd.R_base q)) (fun _ a=>a.1))
 have dP:=zM (Kd.R_lower (Kd.R_new' (Kd.R_new' (Kd.R_new' (Kd.R_new' (Kd.R_new' (Kd.R_new' (Kd.R_new' (Kd.R_new' (Kd.R_new' (Kd.R_new' (Kd.R_new' (Kd.R_new' (Kd.R_new' (Kd.R_new' (Kd.R_new' q (Kd.R_lt (sE A.out))) (Kd.R_lt (sE B.out))) (Kd.R_lt (sE D.out))) (Kd.R_lt (sE O.out))) (Kd.R_lt (sE P.out))) (Kd.R_lt (sE Q.out))) (Kd.R_lt (sE T.out))) (Kd.R_lt (sE U.out))) (Kd.R_lt (sE V.out))) (Kd.R_lt (sE ab.out))) (Kd.R_lt (sE ac.out))) (Kd.R_lt (sE ad.out))) (Kd.R_lt (sE aL.out))) (Kd.R_lt (sE aM.out))) (Kd.R_lt (sE aN.out))) (below_size (by repeat(first|(with_reducible first|exact HB.out|apply below_alloc|apply pw_below_drewN|apply below_drew1|refine below_set ?_ L.out|refine below_set ?_ M.out|refine below_set ?_ av.out|refine below_set ?_ a1.out)|exact HB.out))))
 replace A:=zM (Kd.R_mono (Kd.R_told (Kd.R_told (Kd.R_told (Kd.R_old (sE A.out) hb) (Kd.R_base m)) (Kd.R_base p)) (Kd.R_base q)) (fun _ a=>a.1))
 replace B:=zM (Kd.R_mono (Kd.R_told (Kd.R_told (Kd.R_told (Kd.R_old (sE B.out) hb) (Kd.R_base m)) (Kd.R_base p)) (Kd.R_base q)) (fun _ a=>a.1))
 replace D:=zM (Kd.R_mono (Kd.R_told (Kd.R_told (Kd.R_told (Kd.R_old (sE D.out) hb) (Kd.R_base m)) (Kd.R_base p)) (Kd.R_base q)) (fun _ a=>a.1))
 replace O:=zM (Kd.R_mono (Kd.R_told (Kd.R_told (Kd.R_told (Kd.R_old (sE O.out) hb) (Kd.R_base m)) (Kd.R_base p)) (Kd.R_base q)) (fun _ a=>a.1))
 replace P:=zM (Kd.R_mono (Kd.R_told (Kd.R_told (Kd.R_told (Kd.R_old (sE P.out) hb) (Kd.R_base m)) (Kd.R_base p)) (Kd.R_base q)) (fun _ a=>a.1))
 replace Q:=zM (Kd.R_mono (Kd.R_told (Kd.R_told (Kd.R_told (Kd.R_old (sE Q.out) hb) (Kd.R_base m)) (Kd.R_base p)) (Kd.R_base q)) (fun _ a=>a.1))
 replace T:=zM (Kd.R_mono (Kd.R_told (Kd.R_told (Kd.R_told (Kd.R_old (sE T.out) hb) (Kd.R_base m)) (Kd.R_base p)) (Kd.R_base q)) (fun _ a=>a.1))
 replace U:=zM (Kd.R_mono (Kd.R_told (Kd.R_told (Kd.R_told (Kd.R_old (sE U.out) hb) (Kd.R_base m)) (Kd.R_base p)) (Kd.R_base q)) (fun _ a=>a.1))
 replace V:=zM (Kd.R_mono (Kd.R_told (Kd.R_told (Kd.R_told (Kd.R_old (sE V.out) hb) (Kd.R_base m)) (Kd.R_base p)) (Kd.R_base q)) (fun _ a=>a.1))
 replace ab:=zM (Kd.R_mono (Kd.R_told (Kd.R_told (Kd.R_told (Kd.R_old (sE ab.out) hb) (Kd.R_base m)) (Kd.R_base p)) (Kd.R_base q)) (fun _ a=>a.1))
 replace ac:=zM (Kd.R_mono (Kd.R_told (Kd.R_told (Kd.R_told (Kd.R_old (sE ac.out) hb) (Kd.R_base m)) (Kd.R_base p)) (Kd.R_base q)) (fun _ a=>a.1))
 replace ad:=zM (Kd.R_mono (Kd.R_told (Kd.R_told (Kd.R_told (Kd.R_old (sE ad.out) hb) (Kd.R_base m)) (Kd.R_base p)) (Kd.R_base q)) (fun _ a=>a.1))
 replace aL:=zM (Kd.R_mono (Kd.R_told (Kd.R_told (Kd.R_told (Kd.R_old (sE aL.out) hb) (Kd.R_base m)) (Kd.R_base p)) (Kd.R_base q)) (fun _ a=>a.1))
 replace aM:=zM (Kd.R_mono (Kd.R_told (Kd.R_told (Kd.R_told (Kd.R_old (sE aM.out) hb) (Kd.R_base m)) (Kd.R_base p)) (Kd.R_base q)) (fun _ a=>a.1))
 replace aN:=zM (Kd.R_mono (Kd.R_told (Kd.R_told (Kd.R_told (Kd.R_old (sE aN.out) hb) (Kd.R_base m)) (Kd.R_base p)) (Kd.R_base q)) (fun _ a=>a.1))
 replace j:=sK j hb
 replace l:=sK l hb
 replace d:=sK d hb
 replace s:=sK s hb
 replace HB:=sB HB hb
 (try clear hb)
 (try clear hb2)
 (try clear hk)
 (try clear hi)
 (try clear aj)
 (try clear ak)
 (try clear al)
 (try clear am)
 (try clear m)
 (try clear p)
 (try clear an)
 (try clear q)
 obtain⟨f3,f4,e7⟩:=Kd.S_slice dI.out
 (first|subst e7|(injection e7 with u E x;have F:=u.symm;have G:=x.symm;clear u E x;subst F;subst G))
 obtain⟨f5,f6,e8⟩:=Kd.R_slice dJ.out
 (first|subst e8|(injection e8 with u E x;have F:=u.symm;have G:=x.symm;clear u E x;subst F;subst G))
 obtain⟨f7,f8,e9⟩:=Kd.S_slice dK.out
 (first|subst e9|(injection e9 with u E x;have F:=u.symm;have G:=x.symm;clear u E x;subst F;subst G))
 obtain⟨f9,ga,fa⟩:=Kd.S_slice dL.out
 (first|subst fa|(injection fa with u E x;have F:=u.symm;have G:=x.symm;clear u E x;subst F;subst G))
 obtain⟨gb,gc,fb⟩:=Kd.R_slice dM.out
 (first|subst fb|(injection fb with u E x;have F:=u.symm;have G:=x.symm;clear u E x;subst F;subst G))
 obtain⟨gd,gf,fc⟩:=Kd.R_slice dN.out
 (first|subst fc|(injection fc with u E x;have F:=u.symm;have G:=x.symm;clear u E x;subst F;subst G))
 obtain⟨gg,gh,fd⟩:=Kd.S_slice dO.out
 (first|subst fd|(injection fd with u E x;have F:=u.symm;have G:=x.symm;clear u E x;subst F;subst G))
 obtain⟨gi,gj,fe⟩:=Kd.R_slice dP.out
 (first|subst fe|(injection fe with u E x;have F:=u.symm;have G:=x.symm;clear u E x;subst F;subst G))
 refine hK.out _ _ ⟨(blk_cell s.out 0).trans rfl,(blk_cell s.out 1).trans rfl,(blk_cell s.out 2).trans rfl,(blk_cell s.out 3).trans rfl,(blk_cell s.out 4).trans rfl,(blk_cell s.out 5).trans rfl,(blk_cell s.out 6).trans rfl,(blk_cell s.out 7).trans rfl,(blk_cell s.out 8).trans rfl,(blk_cell s.out 9).trans rfl,(blk_cell l.out 0).trans rfl,(blk_cell l.out 1).trans rfl,(blk_cell l.out 2).trans rfl,(blk_cell l.out 3).trans rfl,(blk_cell l.out 4).trans rfl,(blk_cell l.out 5).trans rfl,(blk_cell l.out 6).trans rfl,(blk_cell l.out 7).trans rfl,(blk_cell l.out 8).trans rfl,(blk_cell l.out 9).trans rfl⟩ (fun hHeld=>?_)
 clear hK K
 refine norm_ (a':=?_) ?_ ?_
 rotate_left
 ·(
 show Act.put _ (some 42) _=_
 simp only[zP,i64_w,i32_w]
 rfl)
 refine one_ (i:=3) (N:=some 43) #[true,true,true,true,false] rfl rfl (by kernel_rfl) (by decide) (fun K hK=>?_)
 refine goes_ Try.func29 (by kernel_rfl) rfl #[.agg #[.int .i64 bF,.slice dD bh.length cp,.slice dE bi.length cq,.slice dF bj.length cr,.slice dG bk.length ct,.slice bb aG.length a2,.int .i64 bG,.slice bc aH.length a3,.slice dH bl.length cu,.slice bd aI.length a4],.agg #[.int .i64 d3,.slice f3 d4.length f4,.slice f5 d5.length f6,.slice f7 d6.length f8,.slice f9 d7.length ga,.slice gb d8.length gc,.int .i64 d9,.slice gd ea.length gf,.slice gg eb.length gh,.slice gi ec.length gj]] (by rfl) rfl rfl (by(try simp only[List.map_toArray,List.map_cons,List.map_nil]);first|done|rfl|(simp only[List.length_drop,List.length_take];rfl)) ?_
 with_reducible refine(laws_eqMemory.calls k bF _ _ bh _ _ bi _ _ bj _ _ bk _ _ aG bG _ _ aH _ _ bl _ _ aI d3 _ _ d4 _ _ d5 _ _ d6 _ _ d7 _ _ d8 d9 _ _ ea _ _ eb _ _ ec true _ ?side1 ?side2 ?side3 ?side4 ?side5 ?side6 ?side7 ?side8 ?side9 ?side10 ?side11 ?side12 ?side13 ?side14 ?side15 ?side16 ?side17 ?side18 ?side19 ?side20 ?side21 ?side22 ?side23 ?side24 ?side25 ?side26 ?side27 ?side28 ?side29 ?side30 ?side31 ?side32 fo.out).mono ?_
 (case side1=>exact sD ((Kd.S_reads' aw.out).2.2))
 (case side2=>exact(Kd.S_reads' aw.out).2.1)
 (case side3=>exact sD ((Kd.R_reads' ax.out).2.2))
 (case side4=>exact(Kd.R_reads' ax.out).2.1)
 (case side5=>exact sD ((Kd.S_reads' ay.out).2.2))
 (case side6=>exact(Kd.S_reads' ay.out).2.1)
 (case side7=>exact sD ((Kd.S_reads' az.out).2.2))
 (case side8=>exact(Kd.S_reads' az.out).2.1)
 (case side9=>exact sD ((Kd.R_reads' ab.out).2.2))
 (case side10=>exact(Kd.R_reads' ab.out).2.1)
 (case side11=>exact sD ((Kd.R_reads' ac.out).2.2))
 (case side12=>exact(Kd.R_reads' ac.out).2.1)
 (case side13=>exact sD ((Kd.S_reads' aA.out).2.2))
 (case side14=>exact(Kd.S_reads' aA.out).2.1)
 (case side15=>exact sD ((Kd.R_reads' ad.out).2.2))
 (case side16=>exact(Kd.R_reads' ad.out).2.1)
 (case side17=>exact sD ((Kd.S_reads' dI.out).2.2))
 (case side18=>exact(Kd.S_reads' dI.out).2.1)
 (case side19=>exact sD ((Kd.R_reads' dJ.out).2.2))
 (case side20=>exact(Kd.R_reads' dJ.out).2.1)
 (case side21=>exact sD ((Kd.S_reads' dK.out).2.2))
 (case side22=>exact(Kd.S_reads' dK.out).2.1)
 (case side23=>exact sD ((Kd.S_reads' dL.out).2.2))
 (case side24=>exact(Kd.S_reads' dL.out).2.1)
 (case side25=>exact sD ((Kd.R_reads' dM.out).2.2))
 (case side26=>exact(Kd.R_reads' dM.out).2.1)
 (case side27=>exact sD ((Kd.R_reads' dN.out).2.2))
 (case side28=>exact(Kd.R_reads' dN.out).2.1)
 (case side29=>exact sD ((Kd.S_reads' dO.out).2.2))
 (case side30=>exact(Kd.S_reads' dO.out).2.1)
 (case side31=>exact sD ((Kd.R_reads' dP.out).2.2))
 (case side32=>exact(Kd.R_reads' dP.out).2.1)
 rintro e k5 ⟨rfl,hb⟩
 refine⟨_,rfl,?_⟩
 replace W:=zM (Kd.S_below (sI W.out) hb)
 replace X:=zM (Kd.R_below (sE X.out) hb)
 replace Y:=zM (Kd.S_below (sI Y.out) hb)
 replace Z:=zM (Kd.S_below (sI Z.out) hb)
 replace A:=zM (Kd.R_below (sE A.out) hb)
 replace B:=zM (Kd.R_below (sE B.out) hb)
 replace aa:=zM (Kd.S_below (sI aa.out) hb)
 replace D:=zM (Kd.R_below (sE D.out) hb)
 replace ae:=zM (Kd.S_below (sI ae.out) hb)
 replace af:=zM (Kd.R_below (sE af.out) hb)
 replace ag:=zM (Kd.S_below (sI ag.out) hb)
 replace ah:=zM (Kd.S_below (sI ah.out) hb)
 replace O:=zM (Kd.R_below (sE O.out) hb)
 replace P:=zM (Kd.R_below (sE P.out) hb)
 replace ai:=zM (Kd.S_below (sI ai.out) hb)
 replace Q:=zM (Kd.R_below (sE Q.out) hb)
 replace ao:=zM (Kd.S_below (sI ao.out) hb)
 replace ap:=zM (Kd.R_below (sE ap.out) hb)
 replace aq:=zM (Kd.S_below (sI aq.out) hb)
 replace ar:=zM (Kd.S_below (sI ar.out) hb)
 replace T:=zM (Kd.R_below (sE T.out) hb)
 replace U:=zM (Kd.R_below (sE U.out) hb)
 replace au:=zM (Kd.S_below (sI au.out) hb)
 replace V:=zM (Kd.R_below (sE V.out) hb)
 replace aw:=zM (Kd.S_below (sI aw.out) hb)
 replace ax:=zM (Kd.R_below (sE ax.out) hb)
 replace ay:=zM (Kd.S_below (sI ay.out) hb)
 replace az:=zM (Kd.S_below (sI az.out) hb)
 replace ab:=zM (Kd.R_below (sE ab.out) hb)
 replace ac:=zM (Kd.R_below (sE ac.out) hb)
 replace aA:=zM (Kd.S_below (sI aA.out) hb)
 replace ad:=zM (Kd.R_below (sE ad.out) hb)
 replace bz:=zM (Kd.S_below (sI bz.out) hb)
 replace bA:=zM (Kd.R_below (sE bA.out) hb)
 replace bB:=zM (Kd.S_below (sI bB.out) hb)
 replace bC:=zM (Kd.S_below (sI bC.out) hb)
 replace aL:=zM (Kd.R_below (sE aL.out) hb)
 replace aM:=zM (Kd.R_below (sE aM.out) hb)
 replace bD:=zM (Kd.S_below (sI bD.out) hb)
 replace aN:=zM (Kd.R_below (sE aN.out) hb)
 replace dI:=zM (Kd.S_below (sI dI.out) hb)
 replace dJ:=zM (Kd.R_below (sE dJ.out) hb)
 replace dK:=zM (Kd.S_below (sI dK.out) hb)
 replace dL:=zM (Kd.S_below (sI dL.out) hb)
 replace dM:=zM (Kd.R_below (sE dM.out) hb)
 replace dN:=zM (Kd.R_below (sE dN.out) hb)
 replace dO:=zM (Kd.S_below (sI dO.out) hb)
 replace dP:=zM (Kd.R_below (sE dP.out) hb)
 replace j:=sK j hb
 replace l:=sK l hb
 replace d:=sK d hb
 replace s:=sK s hb
 replace HB:=sB HB hb
 (try clear hb)
 (try clear hb2)
 (try clear hk)
 (try clear hi)
 refine hK.out _ _ ⟨(blk_cell s.out 0).trans rfl,(blk_cell s.out 1).trans rfl,(blk_cell s.out 2).trans rfl,(blk_cell s.out 3).trans rfl,(blk_cell s.out 4).trans rfl,(blk_cell s.out 5).trans rfl,(blk_cell s.out 6).trans rfl,(blk_cell s.out 7).trans rfl,(blk_cell s.out 8).trans rfl,(blk_cell s.out 9).trans rfl,(blk_cell l.out 0).trans rfl,(blk_cell l.out 1).trans rfl,(blk_cell l.out 2).trans rfl,(blk_cell l.out 3).trans rfl,(blk_cell l.out 4).trans rfl,(blk_cell l.out 5).trans rfl,(blk_cell l.out 6).trans rfl,(blk_cell l.out 7).trans rfl,(blk_cell l.out 8).trans rfl,(blk_cell l.out 9).trans rfl⟩ (fun hHeld=>?_)
 clear hK K
 refine norm_ (a':=?_) ?_ ?_
 rotate_left
 ·(
 show Act.put _ (some 43) _=_
 simp only[zP,i64_w,i32_w]
 rfl)
 refine pure_ (i:=4) (N:=some 44) (v:=?_) (a':=?_) #[true,true,true,true,true] rfl rfl (by kernel_rfl) (fun _ _ _ h=>h) (Or.inl ⟨by rfl,?_⟩) ?_ ?_
 rotate_left
 ·(
 intro w'
 go_simp
 with_reducible rfl)
 rotate_left
 ·(
 simp only[zP,i64_w,i32_w]
 rfl)
 refine done_ (by kernel_rfl) ?_
 try go_wp2
 go_ret
 exact⟨sq,sb⟩)
 replace ed:=zB ed
 subst ed
 rewrite[if_neg zQ]at H
 exact absurd H (by simp))
 replace d2:=zB d2
 subst d2
 rewrite[if_neg zQ]at H
 exact absurd H (by simp)
end Go.Proofs.Ytnneadpahjkhgaa.PFnExactSameMemory
