/- Printed functions: laws_FnExactGarbage. -/
import Derived.Test.YtpdljgieaaicpaaYGbP0
import Derived.Test.YtpdljgieaaicpaaYGbP1
import Derived.Test.YtpdljgieaaicpaaYGbP2
import Derived.Test.YtpdljgieaaicpaaYGbP3
import Derived.Test.YtpdljgieaaicpaaYGbP12
import Derived.Test.YtpdljgieaaicpaaYGbP25
import Derived.Test.YtpdljgieaaicpaaYGbP26
import Derived.Test.YtpdljgieaaicpaaYGbP28
import Derived.Test.YtpdljgieaaicpaaYGbP29
import Derived.Test.YtpdljgieaaicpaaYGbP31
import Derived.Test.YtpdljgieaaicpaaYGbP32
namespace Go.Proofs.Ytpdljgieaaicpaa.PFnExactGarbage
open Go.RowKit Go.Proofs.YtpdljgieaaicpaaG Go.Proofs.YtpdljgieaaicpaaW.PrintWords Go.Proofs.YtpdljgieaaicpaaW.PrintLast Go.Proofs.YtpdljgieaaicpaaW.PrintMore
attribute [local go_sem] max2_int min2_int max_two min_two max_three min_three max_four min_four
set_option linter.unusedVariables false
set_option linter.unusedSimpArgs false
def laws_FnExactGarbage.j0 : Nat → List (S57) → List Int → List Int → Bool → Int → List (S86) → Option (Bool)
 |0,_,_,_,_,_,_=>none
 |k+1,x1,x6,x9,x63,x457000,x457001=>if x63=true then(some false)else((laws_markInt64S.f k x9 1).bind fun bt494=>((laws_heldInt64S.f k bt494.2 1).bind fun t496=>(if t496<0 then(some false)else(if t496=bt494.1 then((laws_toHeap.f k x457000 x457001).bind fun bt497=>((laws_toValueS.f k x1).bind fun t501=>((impl_Garbage.f k bt497.1 bt497.2 t501).bind fun t504=>((laws_eqInt64S.f k t504 x6).bind fun t507=>(if t507=true then((laws_heldInt64S.f k bt494.2 1).bind fun t508=>(if t508<0 then(some false)else(if t508=bt494.1 then(some true)else(some false))))else(some false))))))else(some false)))))
def laws_FnExactGarbage.f (k:Nat) (a0_0:Int) (l0_1:List (S86)) (l1:List (S57)):Option (Bool):=(laws_szHeap.f k a0_0 l0_1 1048576).bind fun t457=>(if t457<0 then(some true)else((laws_szValueS.f k l1 t457).bind fun t458=>(if t458<0 then(some true)else((laws_toHeap.f k a0_0 l0_1).bind fun bt459=>((laws_toValueS.f k l1).bind fun t463=>((spec_Garbage.f k bt459.1 bt459.2 t463).bind fun t466=>((laws_toHeap.f k a0_0 l0_1).bind fun bt469=>((laws_toValueS.f k l1).bind fun t474=>((impl_Garbage.f k bt469.1 bt469.2 t474).bind fun t477=>((laws_eqInt64S.f k t477 t466).bind fun t480=>(if t480=true then((laws_toHeap.f k a0_0 l0_1).bind fun bt481=>((laws_eqHeap.f k bt469.1 bt469.2 bt481.1 bt481.2).bind fun t485=>(if t485=true then((laws_toValueS.f k l1).bind fun t486=>((laws_eqValueS.f k t474 t486).bind fun t489=>(if t489=true then((laws_markHeap.f bt469.1 bt469.2 1).bind fun t490=>((laws_markValueS.f k t474 t490).bind fun bt491=>(if bt491.1<0 then(laws_FnExactGarbage.j0 k l1 t466 t477 true a0_0 l0_1)else((laws_eqInt64S.f k t477 t466).bind fun t493=>(laws_FnExactGarbage.j0 k l1 t466 t477 (!t493) a0_0 l0_1)))))else(some false))))else(some false))))else(some false))))))))))))
set_option maxHeartbeats 8000000 in
set_option maxRecDepth 100000 in
theorem laws_FnExactGarbage.calls (k:Nat) (a0_0:Int) (A0_1:Option Addr) (c0_1:Nat) (l0_1:List (S86)) (A1:Option Addr) (c1:Nat) (l1:List (S57)) (w:World) (hr0_1:Kd.C k86 w A0_1 l0_1.length l0_1) (hc0_1:l0_1.length≤c0_1) (hr1:Kd.C k57 w A1 l1.length l1) (hc1:l1.length≤c1) (h:laws_FnExactGarbage.f k a0_0 l0_1 l1=some true):
  Calls Try.prog 3 #[.agg #[.int .i64 a0_0,.slice A0_1 l0_1.length c0_1],.slice A1 l1.length c1] w fun e w'=>e= .returned (.bool true)∧Below w.heap.size w w':=by
 have cy:=Try.underlying24
 have cz:=Try.underlying32
 have aA:=zM hr0_1
 have aB:=zM hc0_1
 clear hr0_1 hc0_1
 have aK:=zM hr1
 have aL:=zM hc1
 clear hr1 hc1
 have HB:=zM (Below.refl w.heap.size w)
 have H:((laws_szHeap.f k a0_0 l0_1 1048576).bind fun Y=>(if Y<0 then(some true)else((laws_szValueS.f k l1 Y).bind fun aP=>(if aP<0 then(some true)else((laws_toHeap.f k a0_0 l0_1).bind fun bc=>((laws_toValueS.f k l1).bind fun G=>((spec_Garbage.f k bc.1 bc.2 G).bind fun m=>((laws_toHeap.f k a0_0 l0_1).bind fun P=>((laws_toValueS.f k l1).bind fun r=>((impl_Garbage.f k P.1 P.2 r).bind fun j=>((laws_eqInt64S.f k j m).bind fun aC=>(if aC=true then((laws_toHeap.f k a0_0 l0_1).bind fun al=>((laws_eqHeap.f k P.1 P.2 al.1 al.2).bind fun ae=>(if ae=true then((laws_toValueS.f k l1).bind fun I=>((laws_eqValueS.f k r I).bind fun af=>(if af=true then((laws_markHeap.f P.1 P.2 1).bind fun Z=>((laws_markValueS.f k r Z).bind fun aD=>(if aD.1<0 then(laws_FnExactGarbage.j0 k l1 m j true a0_0 l0_1)else((laws_eqInt64S.f k j m).bind fun W=>(laws_FnExactGarbage.j0 k l1 m j (!W) a0_0 l0_1)))))else(some false))))else(some false))))else(some false)))))))))))))=some true:=h
 clear h
 obtain⟨Y,A3,H⟩:=sO H
 by_cases c4:Y<0
 ·(
 rw[if_pos c4]at H
 have c4b0:=zT c4
 clear c4
 clear H
 go_enter Try.func3,Try.ntmps3
 go_wp2_with (first|((with_reducible refine gate_dst (N:=2) rfl ?_);refine sV (N:=2) (cs:= #[.int .i64 a0_0,.slice A0_1 l0_1.length c0_1]) (t:=24) ?_;intro aE hg w5 hbox hb;have b:=zM (hbox);have bd:=sG HB hg;have D:=sG HB hg;replace HB:=sB HB hb;clear hb hbox hg;obtain⟨cA,cB,cC,cD⟩:=cells2 b.out)|((with_reducible refine gate_callee (f:=8) rfl ?_);refine sC (some 16) Try.func8 #[.agg #[.int .i64 a0_0,.slice A0_1 l0_1.length c0_1],.int .i64 1048576] (laws_szHeap.calls k a0_0 _ _ l0_1 1048576 Y _ ?side1 ?side2 A3.out) ?_;(case side1=>exact sD (zC aA.out HB.out));(case side2=>exact aB.out);rintro e w7 ⟨rfl,hb⟩;refine⟨_,rfl,?_⟩;replace b:=sK b hb;replace HB:=sB HB hb;(try clear hb)))
 go_ret
 exact⟨sq,sb⟩)
 rw[if_neg c4]at H
 have c4b0:=zF c4
 clear c4
 obtain⟨aP,A8,H⟩:=sO H
 by_cases c9:aP<0
 ·(
 rw[if_pos c9]at H
 have c9b0:=zT c9
 clear c9
 clear H
 go_enter Try.func3,Try.ntmps3
 go_wp2_with (first|((with_reducible refine gate_dst (N:=2) rfl ?_);refine sV (N:=2) (cs:= #[.int .i64 a0_0,.slice A0_1 l0_1.length c0_1]) (t:=24) ?_;intro aE hg cE hbox hb;have b:=zM (hbox);have bd:=sG HB hg;have D:=sG HB hg;replace HB:=sB HB hb;clear hb hbox hg;obtain⟨cF,cG,cH,cI⟩:=cells2 b.out)|((with_reducible refine gate_callee (f:=8) rfl ?_);refine sC (some 16) Try.func8 #[.agg #[.int .i64 a0_0,.slice A0_1 l0_1.length c0_1],.int .i64 1048576] (laws_szHeap.calls k a0_0 _ _ l0_1 1048576 Y _ ?side1 ?side2 A3.out) ?_;(case side1=>exact sD (zC aA.out HB.out));(case side2=>exact aB.out);rintro e cJ ⟨rfl,hb⟩;refine⟨_,rfl,?_⟩;replace b:=sK b hb;replace HB:=sB HB hb;(try clear hb))|((with_reducible refine gate_callee (f:=9) rfl ?_);refine sC (some 21) Try.func9 #[.slice A1 l1.length c1,.int .i64 Y] (laws_szValueS.calls k _ _ l1 Y aP _ ?side1 ?side2 A8.out) ?_;(case side1=>exact sD (zC aK.out HB.out));(case side2=>exact aL.out);rintro e cK ⟨rfl,hb⟩;refine⟨_,rfl,?_⟩;replace b:=sK b hb;replace HB:=sB HB hb;(try clear hb)))
 go_ret
 exact⟨sq,sb⟩)
 rw[if_neg c9]at H
 have c9b0:=zF c9
 clear c9
 replace H:=Option.bind_eq_some_iff.mp H
 obtain⟨⟨aZ,am⟩,be,H⟩:=H
 replace H:((laws_toValueS.f k l1).bind fun G=>((spec_Garbage.f k aZ am G).bind fun m=>((laws_toHeap.f k a0_0 l0_1).bind fun P=>((laws_toValueS.f k l1).bind fun r=>((impl_Garbage.f k P.1 P.2 r).bind fun j=>((laws_eqInt64S.f k j m).bind fun aC=>(if aC=true then((laws_toHeap.f k a0_0 l0_1).bind fun al=>((laws_eqHeap.f k P.1 P.2 al.1 al.2).bind fun ae=>(if ae=true then((laws_toValueS.f k l1).bind fun I=>((laws_eqValueS.f k r I).bind fun af=>(if af=true then((laws_markHeap.f P.1 P.2 1).bind fun Z=>((laws_markValueS.f k r Z).bind fun aD=>(if aD.1<0 then(laws_FnExactGarbage.j0 k l1 m j true a0_0 l0_1)else((laws_eqInt64S.f k j m).bind fun W=>(laws_FnExactGarbage.j0 k l1 m j (!W) a0_0 l0_1)))))else(some false))))else(some false))))else(some false))))))))=some true:=H
 have br:=zM be
 clear be
 obtain⟨G,bs,H⟩:=sO H
 obtain⟨m,bt,H⟩:=sO H
 replace H:=Option.bind_eq_some_iff.mp H
 obtain⟨⟨J,E⟩,bf,H⟩:=H
 replace H:((laws_toValueS.f k l1).bind fun r=>((impl_Garbage.f k J E r).bind fun j=>((laws_eqInt64S.f k j m).bind fun aC=>(if aC=true then((laws_toHeap.f k a0_0 l0_1).bind fun al=>((laws_eqHeap.f k J E al.1 al.2).bind fun ae=>(if ae=true then((laws_toValueS.f k l1).bind fun I=>((laws_eqValueS.f k r I).bind fun af=>(if af=true then((laws_markHeap.f J E 1).bind fun Z=>((laws_markValueS.f k r Z).bind fun aD=>(if aD.1<0 then(laws_FnExactGarbage.j0 k l1 m j true a0_0 l0_1)else((laws_eqInt64S.f k j m).bind fun W=>(laws_FnExactGarbage.j0 k l1 m j (!W) a0_0 l0_1)))))else(some false))))else(some false))))else(some false)))))=some true:=H
 have bu:=zM bf
 clear bf
 obtain⟨r,bv,H⟩:=sO H
 obtain⟨j,bw,H⟩:=sO H
 obtain⟨aC,bx,H⟩:=sO H
 by_cases aQ:aC=true
 ·(
 subst aQ
 rewrite[if_pos rfl]at H
 replace H:=Option.bind_eq_some_iff.mp H
 obtain⟨⟨a0,aR⟩,bg,H⟩:=H
 replace H:((laws_eqHeap.f k J E a0 aR).bind fun ae=>(if ae=true then((laws_toValueS.f k l1).bind fun I=>((laws_eqValueS.f k r I).bind fun af=>(if af=true then((laws_markHeap.f J E 1).bind fun Z=>((laws_markValueS.f k r Z).bind fun aD=>(if aD.1<0 then(laws_FnExactGarbage.j0 k l1 m j true a0_0 l0_1)else((laws_eqInt64S.f k j m).bind fun W=>(laws_FnExactGarbage.j0 k l1 m j (!W) a0_0 l0_1)))))else(some false))))else(some false)))=some true:=H
 have bz:=zM bg
 clear bg
 obtain⟨ae,bA,H⟩:=sO H
 by_cases aS:ae=true
 ·(
 subst aS
 rewrite[if_pos rfl]at H
 obtain⟨I,bB,H⟩:=sO H
 obtain⟨af,bC,H⟩:=sO H
 by_cases aT:af=true
 ·(
 subst aT
 rewrite[if_pos rfl]at H
 obtain⟨Z,bD,H⟩:=sO H
 replace H:=Option.bind_eq_some_iff.mp H
 obtain⟨⟨a8,bE⟩,bh,H⟩:=H
 replace H:(if a8<0 then(laws_FnExactGarbage.j0 k l1 m j true a0_0 l0_1)else((laws_eqInt64S.f k j m).bind fun W=>(laws_FnExactGarbage.j0 k l1 m j (!W) a0_0 l0_1)))=some true:=H
 have bF:=zM bh
 clear bh
 have a9:=zM H
 clear H
 go_enter Try.func3,Try.ntmps3
 try go_wp2_with (first|((with_reducible refine gate_dst (N:=2) rfl ?_);refine sV (N:=2) (cs:= #[.int .i64 a0_0,.slice A0_1 l0_1.length c0_1]) (t:=24) ?_;intro aE hg cL hbox hb;have b:=zM (hbox);have bd:=sG HB hg;have D:=sG HB hg;replace HB:=sB HB hb;clear hb hbox hg;obtain⟨bG,bH,bI,bJ⟩:=cells2 b.out)|((with_reducible refine gate_callee (f:=8) rfl ?_);refine sC (some 16) Try.func8 #[.agg #[.int .i64 a0_0,.slice A0_1 l0_1.length c0_1],.int .i64 1048576] (laws_szHeap.calls k a0_0 _ _ l0_1 1048576 Y _ ?side1 ?side2 A3.out) ?_;(case side1=>exact sD (zC aA.out HB.out));(case side2=>exact aB.out);rintro e cM ⟨rfl,hb⟩;refine⟨_,rfl,?_⟩;replace b:=sK b hb;replace HB:=sB HB hb;(try clear hb))|((with_reducible refine gate_callee (f:=9) rfl ?_);refine sC (some 21) Try.func9 #[.slice A1 l1.length c1,.int .i64 Y] (laws_szValueS.calls k _ _ l1 Y aP _ ?side1 ?side2 A8.out) ?_;(case side1=>exact sD (zC aK.out HB.out));(case side2=>exact aL.out);rintro e cN ⟨rfl,hb⟩;refine⟨_,rfl,?_⟩;replace b:=sK b hb;replace HB:=sB HB hb;(try clear hb);obtain⟨bK,bL,bM,bN⟩:=cells2 b.out)|((with_reducible refine gate_callee (f:=11) rfl ?_);refine sC (some 25) Try.func11 #[.agg #[.int .i64 a0_0,.slice A0_1 l0_1.length c0_1]] (laws_toHeap.calls k a0_0 _ _ l0_1 aZ am _ ?side1 ?side2 br.out) ?_;(case side1=>exact sD (zC aA.out HB.out));(case side2=>exact aB.out);rintro e cO ⟨cP,rfl,c,hb⟩;refine⟨_,rfl,?_⟩;have s:=zM (Kd.S_lower c (below_size zzR));replace b:=sK b hb;replace HB:=sB HB hb;(try clear hb);(try clear c))|((with_reducible refine gate_callee (f:=12) rfl ?_);refine sC (some 27) Try.func12 #[.slice A1 l1.length c1] (laws_toValueS.calls k _ _ l1 G _ ?side1 ?side2 bs.out) ?_;(case side1=>exact sD (zC aK.out HB.out));(case side2=>exact aL.out);rintro e cQ ⟨cR,rfl,c,hb⟩;refine⟨_,rfl,?_⟩;replace s:=zM (Kd.S_elder' (sI s.out) (Kd.R_base c) hb);have p:=zM (Kd.R_lower c (below_size zzR));replace b:=sK b hb;replace HB:=sB HB hb;(try clear hb);(try clear c);obtain⟨a1,a2,bO⟩:=Kd.S_slice s.out;subst bO;obtain⟨ag,ah,bP⟩:=Kd.R_slice p.out;subst bP)|((with_reducible refine gate_callee (f:=10) rfl ?_);refine sC (some 28) Try.func10 #[.agg #[.int .i64 aZ,.slice a1 am.length a2],.slice ag G.length ah] (spec_Garbage.calls k aZ _ _ am _ _ G m _ ?side1 ?side2 ?side3 ?side4 bt.out) ?_;(case side1=>exact sD ((Kd.S_reads' s.out).2.2));(case side2=>exact(Kd.S_reads' s.out).2.1);(case side3=>exact sD ((Kd.R_reads' p.out).2.2));(case side4=>exact(Kd.R_reads' p.out).2.1);rintro e cS ⟨cT,rfl,c,hb⟩;refine⟨_,rfl,?_⟩;replace s:=zM (Kd.S_below (sI s.out) hb);replace p:=zM (Kd.R_below (sE p.out) hb);have q:=zM (Kd.R_lower c (below_size zzR));replace b:=sK b hb;replace HB:=sB HB hb;(try clear hb);(try clear c);obtain⟨bQ,bR,bS,bT⟩:=cells2 b.out)|((with_reducible refine gate_callee (f:=11) rfl ?_);refine sC (some 30) Try.func11 #[.agg #[.int .i64 a0_0,.slice A0_1 l0_1.length c0_1]] (laws_toHeap.calls k a0_0 _ _ l0_1 J E _ ?side1 ?side2 bu.out) ?_;(case side1=>exact sD (zC aA.out HB.out));(case side2=>exact aB.out);rintro e cU ⟨cV,rfl,c,hb⟩;refine⟨_,rfl,?_⟩;replace q:=zM (Kd.R_below (sE q.out) hb);have y:=zM (Kd.S_lower (Kd.S_new' (Kd.S_new' c (Kd.S_lt (sI s.out))) (Kd.R_lt (sE p.out))) (below_size zzR));replace s:=zM (Kd.S_elder' (sI s.out) (Kd.S_base c) hb);replace p:=zM (Kd.R_below (sE p.out) hb);replace b:=sK b hb;replace HB:=sB HB hb;(try clear hb);(try clear c))|((with_reducible refine gate_dst (N:=7) rfl ?_);refine sV (N:=7) (cs:= #[.int .i64 0,.slice none 0 0]) (t:=32) ?_;intro ai hg cW hbox hb;replace s:=zM (Kd.S_below (sI s.out) hb);replace p:=zM (Kd.R_below (sE p.out) hb);replace q:=zM (Kd.R_below (sE q.out) hb);replace y:=zM (Kd.S_below (sI y.out) hb);have l:=zM (hbox);have cX:=sG HB hg;have an:=sG HB hg;replace HB:=sB HB hb;have ba:=sN b hg;have bU:=sM b hg;replace b:=sK b hb;clear hb hbox hg;have cY:=bU.out;have cZ:=ba.out;obtain⟨bV,bW,bX,bY⟩:=cells2 l.out;obtain⟨aj,ak,bZ⟩:=Kd.S_slice y.out;subst bZ)|((with_reducible refine gate_callee (f:=12) rfl ?_);refine sC (some 32) Try.func12 #[.slice A1 l1.length c1] (laws_toValueS.calls k _ _ l1 r _ ?side1 ?side2 bv.out) ?_;(case side1=>exact zC aK.out zzR);(case side2=>exact aL.out);rintro e c0 ⟨c2,rfl,c,hb⟩;refine⟨_,rfl,?_⟩;have ao:=zM (Kd.S_elder' (by(with_reducible repeat(first|apply Kd.S_alloc|apply Kd.S_drewN|apply Kd.S_drew));exact(Kd.S_mono (sSF2 (g:=ai) (Kd.S_types s.out l.out (by decide)) (fun _ hk=>hk.2)) (fun _ u=>u.1))) (Kd.R_base c) hb);have ap:=zM (Kd.R_elder' (by(with_reducible repeat(first|apply Kd.R_alloc|apply Kd.R_drewN|apply Kd.R_drew));exact(Kd.R_mono (sRF2 (g:=ai) (Kd.R_types p.out l.out (by decide)) (fun _ hk=>hk.2)) (fun _ u=>u.1))) (Kd.R_base c) hb);have aq:=zM (Kd.R_below (by(with_reducible repeat(first|apply Kd.R_alloc|apply Kd.R_drewN|apply Kd.R_drew));exact(Kd.R_mono (sRF2 (g:=ai) (Kd.R_types q.out l.out (by decide)) (fun _ hk=>hk.2)) (fun _ u=>u.1))) hb);have ar:=zM (Kd.S_elder' (by(with_reducible repeat(first|apply Kd.S_alloc|apply Kd.S_drewN|apply Kd.S_drew));exact(Kd.S_mono (sSF2 (g:=ai) (Kd.S_types y.out l.out (by decide)) (fun _ hk=>hk.2)) (fun _ u=>u.1))) (Kd.R_base c) hb);have au:=zM (Kd.R_lower (Kd.R_new' c (Kd.R_lt (by(with_reducible repeat(first|apply Kd.R_alloc|apply Kd.R_drewN|apply Kd.R_drew));exact(Kd.R_mono (sRF2 (g:=ai) (Kd.R_types p.out l.out (by decide)) (fun _ hk=>hk.2)) (fun _ u=>u.1))))) (below_size zzR));have av:=zM (blk_below (g:=aE) (o:= .cells #[.int .i64 a0_0,.slice A0_1 l0_1.length c0_1] 24 (0,0)) (by(with_reducible repeat(first|refine blk_drewN ?_ _|refine blk_drew ?_|refine blk_alloc ?_ _));refine blk_far ?_ ba.out _;(with_reducible repeat(first|refine blk_drewN ?_ _|refine blk_drew ?_|refine blk_alloc ?_ _));refine blk_far ?_ ba.out _;exact sT b.out) hb);have aw:=zM (blk_below (g:=ai) (o:= .cells #[.int .i64 J,.slice aj E.length ak] 32 (0,0)) (by(try with_reducible refine blk_drewN ?_ _);exact sP2 (sT l.out)) hb);have ax:=sB HB hb;clear s;clear p;clear q;clear y;clear b;clear l;clear HB;have s:=ao;have p:=ap;have q:=aq;have y:=ar;have x:=au;have b:=av;have l:=aw;have HB:=ax;clear ao ap aq ar au av aw ax;(try clear hb);(try clear hk);(try clear c);obtain⟨b0,b1,b2,b3⟩:=cells2 l.out;obtain⟨L,M,b4⟩:=Kd.R_slice x.out;subst b4)|((with_reducible refine gate_callee (f:=13) rfl ?_);refine sC (some 35) Try.func13 #[.agg #[.int .i64 J,.slice aj E.length ak],.slice L r.length M] (impl_Garbage.calls k J _ _ E _ _ r j _ ?side1 ?side2 ?side3 ?side4 bw.out) ?_;(case side1=>exact sD ((Kd.S_reads' y.out).2.2));(case side2=>exact(Kd.S_reads' y.out).2.1);(case side3=>exact sD ((Kd.R_reads' x.out).2.2));(case side4=>exact(Kd.R_reads' x.out).2.1);rintro e Q ⟨c3,rfl,c,hb⟩;refine⟨_,rfl,?_⟩;replace s:=zM (Kd.S_below (sI s.out) hb);replace p:=zM (Kd.R_below (sE p.out) hb);replace y:=zM (Kd.S_below (sI y.out) hb);replace x:=zM (Kd.R_below (sE x.out) hb);have A:=zM (Kd.R_lower (Kd.R_new' c (Kd.R_lt (sE q.out))) (below_size zzR));replace q:=zM (Kd.R_elder' (sE q.out) (Kd.R_base c) hb);replace b:=sK b hb;replace l:=sK l hb;replace HB:=sB HB hb;(try clear hb);(try clear hk);(try clear c);obtain⟨T,U,b5⟩:=Kd.R_slice A.out;subst b5;obtain⟨ay,az,b6⟩:=Kd.R_slice q.out;subst b6)|((with_reducible refine gate_callee (f:=14) rfl ?_);refine sC (some 38) Try.func14 #[.slice T j.length U,.slice ay m.length az] (laws_eqInt64S.calls k _ _ j _ _ m true _ ?side1 ?side2 ?side3 ?side4 bx.out) ?_;(case side1=>exact sD ((Kd.R_reads' A.out).2.2));(case side2=>exact(Kd.R_reads' A.out).2.1);(case side3=>exact sD ((Kd.R_reads' q.out).2.2));(case side4=>exact(Kd.R_reads' q.out).2.1);rintro e w' ⟨rfl,⟨nd,rfl⟩⟩;refine⟨_,rfl,?_⟩))
 (try(rw[drewN_self Q];generalize hq_:World.drewN Q _=Q;have ao:Aside0 (Kd.S k64 64 Q w.heap.size (fun a=>some a≠(.slice ag G.length ah:Value).ownBlock∧some a≠(.slice aj E.length ak:Value).ownBlock∧some a≠(.slice L r.length M:Value).ownBlock) (.slice a1 am.length a2) am):=⟨by rw[←hq_];exact(by(with_reducible repeat(first|apply Kd.S_alloc|apply Kd.S_drewN|apply Kd.S_drew));exact Kd.S_mono s.out (fun _ hk=>⟨hk.1.1.2,⟨hk.1.2,hk.2⟩⟩))⟩;have ap:Aside0 (Kd.R k62 62 Q w.heap.size (fun a=>some a≠(.slice L r.length M:Value).ownBlock) (.slice ag G.length ah) G):=⟨by rw[←hq_];exact(by(with_reducible repeat(first|apply Kd.R_alloc|apply Kd.R_drewN|apply Kd.R_drew));exact Kd.R_mono p.out (fun _ hk=>hk.2))⟩;have aq:Aside0 (Kd.R (Kd.int .i64) 2 Q w.heap.size (fun a=>some a≠(.slice T j.length U:Value).ownBlock) (.slice ay m.length az) m):=⟨by rw[←hq_];exact(by(with_reducible repeat(first|apply Kd.R_alloc|apply Kd.R_drewN|apply Kd.R_drew));exact Kd.R_mono q.out (fun _ hk=>hk.2))⟩;have ar:Aside0 (Kd.S k64 64 Q w.heap.size (fun a=>some a≠(.slice a1 am.length a2:Value).ownBlock∧some a≠(.slice ag G.length ah:Value).ownBlock∧some a≠(.slice L r.length M:Value).ownBlock) (.slice aj E.length ak) E):=⟨by rw[←hq_];exact(by(with_reducible repeat(first|apply Kd.S_alloc|apply Kd.S_drewN|apply Kd.S_drew));exact Kd.S_mono y.out (fun _ hk=>⟨hk.1.1.2,⟨hk.1.2,hk.2⟩⟩))⟩;have au:Aside0 (Kd.R k62 62 Q w.heap.size (fun a=>some a≠(.slice ag G.length ah:Value).ownBlock) (.slice L r.length M) r):=⟨by rw[←hq_];exact(by(with_reducible repeat(first|apply Kd.R_alloc|apply Kd.R_drewN|apply Kd.R_drew));exact Kd.R_mono x.out (fun _ hk=>hk.2))⟩;have av:Aside0 (Kd.R (Kd.int .i64) 2 Q w.heap.size (fun a=>some a≠(.slice ay m.length az:Value).ownBlock) (.slice T j.length U) j):=⟨by rw[←hq_];exact(by(with_reducible repeat(first|apply Kd.R_alloc|apply Kd.R_drewN|apply Kd.R_drew));exact Kd.R_mono A.out (fun _ hk=>hk.2))⟩;have aw:Aside0 (Q.heap[aE]?=some (.cells #[.int .i64 a0_0,.slice A0_1 l0_1.length c0_1] 24 (0,0))):=⟨by rw[←hq_];exact(sT b.out)⟩;have ax:Aside0 (Q.heap[ai]?=some (.cells #[.int .i64 J,.slice aj E.length ak] 32 (0,0))):=⟨by rw[←hq_];exact(sT l.out)⟩;have bi:Aside0 (Below w.heap.size w Q):=⟨by rw[←hq_];exact zzR⟩;clear s p q y x A b l HB hq_;have s:=ao;have p:=ap;have q:=aq;have y:=ar;have x:=au;have A:=av;have b:=aw;have l:=ax;have HB:=bi;clear ao ap aq ar au av aw ax bi));obtain⟨c5,c6,c7,c8⟩:=cells2 b.out;obtain⟨da,db,dc,dd⟩:=cells2 l.out
 replace s:=zM (Kd.S_drew s.out)
 replace p:=zM (Kd.R_drew p.out)
 replace q:=zM (Kd.R_drew q.out)
 replace y:=zM (Kd.S_drew y.out)
 replace x:=zM (Kd.R_drew x.out)
 replace A:=zM (Kd.R_drew A.out)
 replace b:=zM (blk_drew b.out)
 replace l:=zM (blk_drew l.out)
 replace HB:=zM (below_drew1 HB.out)
 refine start_ (n:=5) (S:=fun w'=>w'.cell? ⟨ai,0,none⟩=some (.int .i64 J)∧w'.cell? ⟨ai,1,none⟩=some (.slice aj E.length ak)∧w'.cell? ⟨aE,0,none⟩=some (.int .i64 a0_0)∧w'.cell? ⟨aE,1,none⟩=some (.slice A0_1 l0_1.length c0_1)) (ds:=[]) #[false,false,false,false,false] (by kernel_rfl) rfl rfl ⟨(blk_cell l.out 0).trans rfl,(blk_cell l.out 1).trans rfl,(blk_cell b.out 0).trans rfl,(blk_cell b.out 1).trans rfl⟩ (fun hHeld=>?_)
 generalize Q.drew=w53 at s p q y x A b l HB hHeld ⊢
 refine take_ (i:=0) (N:=some 40) (v:=?_) (a':=?_) #[true,false,false,false,false] rfl rfl (by kernel_rfl) (fun _ _ _ h=>h) (Or.inl ⟨by rfl,?_⟩) hHeld ?_ ?_
 rotate_left
 ·(
 rintro w' ⟨s0,s1,s2,s3⟩
 go_simp
 with_reducible rfl)
 rotate_left
 ·(
 simp only[zP,i64_w,i32_w]
 rfl)
 refine take_ (i:=1) (N:=some 41) (v:=?_) (a':=?_) #[true,true,false,false,false] rfl rfl (by kernel_rfl) (fun _ _ _ h=>h) (Or.inl ⟨by rfl,?_⟩) hHeld ?_ ?_
 rotate_left
 ·(
 rintro w' ⟨s0,s1,s2,s3⟩
 go_simp
 with_reducible rfl)
 rotate_left
 ·(
 simp only[zP,i64_w,i32_w]
 rfl)
 refine one_ (i:=2) (N:=some 42) #[true,true,true,false,false] rfl rfl (by kernel_rfl) (by decide) (fun K hK=>?_)
 refine goes_ Try.func11 (by kernel_rfl) rfl #[.agg #[.int .i64 a0_0,.slice A0_1 l0_1.length c0_1]] (by rfl) rfl rfl (by(try simp only[List.map_toArray,List.map_cons,List.map_nil]);first|done|rfl|(simp only[List.length_drop,List.length_take];rfl)) ?_
 with_reducible refine(laws_toHeap.calls k a0_0 _ _ l0_1 a0 aR _ ?side1 ?side2 bz.out).mono ?_
 (case side1=>exact sD (zC aA.out HB.out))
 (case side2=>exact aB.out)
 rintro e de ⟨df,rfl,c,hb⟩
 refine⟨_,rfl,?_⟩
 replace q:=zM (Kd.R_below (sE q.out) hb)
 replace A:=zM (Kd.R_below (sE A.out) hb)
 have ab:=zM (Kd.S_lower (Kd.S_new' (Kd.S_new' (Kd.S_new' (Kd.S_new' c (Kd.S_lt (sI s.out))) (Kd.R_lt (sE p.out))) (Kd.S_lt (sI y.out))) (Kd.R_lt (sE x.out))) (below_size zzR))
 replace s:=zM (Kd.S_elder' (sI s.out) (Kd.S_base c) hb)
 replace p:=zM (Kd.R_below (sE p.out) hb)
 replace y:=zM (Kd.S_elder' (sI y.out) (Kd.S_base c) hb)
 replace x:=zM (Kd.R_below (sE x.out) hb)
 replace b:=sK b hb
 replace l:=sK l hb
 replace HB:=sB HB hb
 (try clear hb)
 (try clear hb2)
 (try clear hk)
 (try clear hi)
 (try clear c)
 obtain⟨bj,bk,bl⟩:=Kd.S_slice ab.out
 (first|subst bl|(injection bl with bm b7 bn;have b8:=bm.symm;have b9:=bn.symm;clear bm b7 bn;subst b8;subst b9))
 refine hK.out _ _ ⟨(blk_cell l.out 0).trans rfl,(blk_cell l.out 1).trans rfl,(blk_cell b.out 0).trans rfl,(blk_cell b.out 1).trans rfl⟩ (fun hHeld=>?_)
 clear hK K
 refine norm_ (a':=?_) ?_ ?_
 rotate_left
 ·(
 show Act.put _ (some 42) _=_
 simp only[zP,i64_w,i32_w]
 rfl)
 refine one_ (i:=3) (N:=some 43) #[true,true,true,true,false] rfl rfl (by kernel_rfl) (by decide) (fun K hK=>?_)
 refine goes_ Try.func15 (by kernel_rfl) rfl #[.agg #[.int .i64 J,.slice aj E.length ak],.agg #[.int .i64 a0,.slice bj aR.length bk]] (by rfl) rfl rfl (by(try simp only[List.map_toArray,List.map_cons,List.map_nil]);first|done|rfl|(simp only[List.length_drop,List.length_take];rfl)) ?_
 with_reducible refine(laws_eqHeap.calls k J _ _ E a0 _ _ aR true _ ?side1 ?side2 ?side3 ?side4 bA.out).mono ?_
 (case side1=>exact sD ((Kd.S_reads' y.out).2.2))
 (case side2=>exact(Kd.S_reads' y.out).2.1)
 (case side3=>exact sD ((Kd.S_reads' ab.out).2.2))
 (case side4=>exact(Kd.S_reads' ab.out).2.1)
 rintro e dg ⟨rfl,hb⟩
 refine⟨_,rfl,?_⟩
 replace s:=zM (Kd.S_below (sI s.out) hb)
 replace p:=zM (Kd.R_below (sE p.out) hb)
 replace q:=zM (Kd.R_below (sE q.out) hb)
 replace y:=zM (Kd.S_below (sI y.out) hb)
 replace x:=zM (Kd.R_below (sE x.out) hb)
 replace A:=zM (Kd.R_below (sE A.out) hb)
 replace ab:=zM (Kd.S_below (sI ab.out) hb)
 replace b:=sK b hb
 replace l:=sK l hb
 replace HB:=sB HB hb
 (try clear hb)
 (try clear hb2)
 (try clear hk)
 (try clear hi)
 refine hK.out _ _ ⟨(blk_cell l.out 0).trans rfl,(blk_cell l.out 1).trans rfl,(blk_cell b.out 0).trans rfl,(blk_cell b.out 1).trans rfl⟩ (fun hHeld=>?_)
 clear hK K
 refine norm_ (a':=?_) ?_ ?_
 rotate_left
 ·(
 show Act.put _ (some 43) _=_
 simp only[zP,i64_w,i32_w]
 rfl)
 refine pure_ (i:=4) (N:=some 44) (v:=?_) (a':=?_) #[true,true,true,true,true] rfl rfl (by kernel_rfl) (fun _ _ _ h=>h) (Or.inl ⟨by rfl,?_⟩) ?_ ?_
 rotate_left
 ·(
 intro w'
 go_simp
 with_reducible rfl)
 rotate_left
 ·(
 simp only[zP,i64_w,i32_w]
 rfl)
 refine done_ (by kernel_rfl) ?_
 go_upto_region 21 with(first|((with_reducible refine gate_callee (f:=12) rfl ?_);refine sC (some 47) Try.func12 #[.slice A1 l1.length c1] (laws_toValueS.calls k _ _ l1 I _ ?side1 ?side2 bB.out) ?_;(case side1=>exact sD (zC aK.out HB.out));(case side2=>exact aL.out);rintro e dh ⟨di,rfl,c,hb⟩;refine⟨_,rfl,?_⟩;replace s:=zM (Kd.S_elder' (sI s.out) (Kd.R_base c) hb);replace q:=zM (Kd.R_below (sE q.out) hb);replace y:=zM (Kd.S_elder' (sI y.out) (Kd.R_base c) hb);replace A:=zM (Kd.R_below (sE A.out) hb);replace ab:=zM (Kd.S_elder' (sI ab.out) (Kd.R_base c) hb);have ac:=zM (Kd.R_lower (Kd.R_new' (Kd.R_new' c (Kd.R_lt (sE p.out))) (Kd.R_lt (sE x.out))) (below_size zzR));replace p:=zM (Kd.R_elder' (sE p.out) (Kd.R_base c) hb);replace x:=zM (Kd.R_elder' (sE x.out) (Kd.R_base c) hb);replace b:=sK b hb;replace l:=sK l hb;replace HB:=sB HB hb;(try clear hb);(try clear c);obtain⟨aU,aV,ca⟩:=Kd.R_slice ac.out;subst ca)|((with_reducible refine gate_callee (f:=16) rfl ?_);refine sC (some 48) Try.func16 #[.slice L r.length M,.slice aU I.length aV] (laws_eqValueS.calls k _ _ r _ _ I true _ ?side1 ?side2 ?side3 ?side4 bC.out) ?_;(case side1=>exact sD ((Kd.R_reads' x.out).2.2));(case side2=>exact(Kd.R_reads' x.out).2.1);(case side3=>exact sD ((Kd.R_reads' ac.out).2.2));(case side4=>exact(Kd.R_reads' ac.out).2.1);rintro e dj ⟨rfl,hb⟩;refine⟨_,rfl,?_⟩;replace s:=zM (Kd.S_below (sI s.out) hb);replace p:=zM (Kd.R_below (sE p.out) hb);replace q:=zM (Kd.R_below (sE q.out) hb);replace y:=zM (Kd.S_below (sI y.out) hb);replace x:=zM (Kd.R_below (sE x.out) hb);replace A:=zM (Kd.R_below (sE A.out) hb);replace ab:=zM (Kd.S_below (sI ab.out) hb);replace ac:=zM (Kd.R_below (sE ac.out) hb);replace b:=sK b hb;replace l:=sK l hb;replace HB:=sB HB hb;(try clear hb);obtain⟨cb,cc,cd,ce⟩:=cells2 l.out)|((with_reducible refine gate_callee (f:=17) rfl ?_);refine sC (some 52) Try.func17 #[.agg #[.int .i64 J,.slice aj E.length ak],.int .i64 1] (laws_markHeap.calls J (fun a=>(((((True∧some a≠(.slice a1 am.length a2:Value).ownBlock)∧some a≠(.slice ag G.length ah:Value).ownBlock)∧some a≠(.slice L r.length M:Value).ownBlock)∧some a≠(.slice bj aR.length bk:Value).ownBlock)∧some a≠(.slice aU I.length aV:Value).ownBlock)) (.slice aj E.length ak) E 1 Z w _ ?side1 ?side2 bD.out) ?_;(case side1=>repeat(first|(with_reducible first|exact HB.out|apply below_alloc|apply pw_below_drewN|apply below_drew1|refine below_set ?_ D.out|refine below_set ?_ an.out)|exact HB.out));(case side2=>exact Kd.R_mono (Kd.S_R (y.out)) (fun a d=>by first|exact d|(simp only[true_and,and_assoc]at d ⊢;exact d)));rintro e dk ⟨rfl,hb,hkp⟩;refine⟨_,rfl,?_⟩;have ao:=zM (blk_kept (sT b.out) hkp (fun z=>(fun B=>mk_treeB (sT b.out) B.2.2.2 (by decide)) z));have ap:=zM (Kd.R_mono (ok':=fun a=>some a≠(.slice L r.length M:Value).ownBlock∧some a≠(.slice aU I.length aV:Value).ownBlock) (Kd.R_keptB ((Kd.R_tight2 rfl p.out)) hkp (fun a d z=>(fun B=>(B.1.1.1.1.2) d.1) z)) (fun a d=>⟨(by have u:=d;(try simp only[true_and]at u);exact u.1.2.1),(by have u:=d;(try simp only[true_and]at u);exact u.1.2.2)⟩));have aq:=zM (Kd.R_mono (ok':=fun a=>some a≠(.slice T j.length U:Value).ownBlock) (Kd.R_keptB ((Kd.R_bound q.out)) hkp (fun a d z=>(fun B=>mk_tree d.2.2.2 B.2.2.2 (by decide)) z)) (fun a d=>(by have u:=d;(try simp only[true_and]at u);exact u.1.1)));have ar:=zM (blk_kept (sT l.out) hkp (fun z=>(fun B=>mk_treeB (sT l.out) B.2.2.2 (by decide)) z));have au:=zM (Kd.R_mono (ok':=fun a=>some a≠(.slice ag G.length ah:Value).ownBlock∧some a≠(.slice aU I.length aV:Value).ownBlock) (Kd.R_keptB ((Kd.R_tight2 rfl x.out)) hkp (fun a d z=>(fun B=>(B.1.1.1.2) d.1) z)) (fun a d=>⟨(by have u:=d;(try simp only[true_and]at u);exact u.1.2.1),(by have u:=d;(try simp only[true_and]at u);exact u.1.2.2)⟩));have av:=zM (Kd.R_mono (ok':=fun a=>some a≠(.slice ay m.length az:Value).ownBlock) (Kd.R_keptB ((Kd.R_bound A.out)) hkp (fun a d z=>(fun B=>mk_tree d.2.2.2 B.2.2.2 (by decide)) z)) (fun a d=>(by have u:=d;(try simp only[true_and]at u);exact u.1.1)));have aw:=zM (Kd.R_mono (ok':=fun a=>some a≠(.slice ag G.length ah:Value).ownBlock∧some a≠(.slice L r.length M:Value).ownBlock) (Kd.R_keptB ((Kd.R_tight2 rfl ac.out)) hkp (fun a d z=>(fun B=>(B.1.2) d.1) z)) (fun a d=>⟨(by have u:=d;(try simp only[true_and]at u);exact u.1.2.1),(by have u:=d;(try simp only[true_and]at u);exact u.1.2.2)⟩));have ax:=zM (hb);clear b;clear p;clear q;clear l;clear x;clear A;clear ac;clear HB;clear s;clear y;clear ab;have b:=ao;have p:=ap;have q:=aq;have l:=ar;have x:=au;have A:=av;have ac:=aw;have HB:=ax;clear ao ap aq ar au av aw ax;(try clear hb);(try clear hkp))|((with_reducible refine gate_callee (f:=18) rfl ?_);refine sC (some 55) Try.func18 #[.slice L r.length M,.int .i64 Z] (laws_markValueS.calls k (fun a=>some a=(.slice L r.length M:Value).ownBlock) (.slice L r.length M) r Z a8 bE w _ ?side1 ?side2 bF.out) ?_;(case side1=>repeat(first|(with_reducible first|exact HB.out|apply below_alloc|apply pw_below_drewN|apply below_drew1|refine below_set ?_ D.out|refine below_set ?_ an.out)|exact HB.out));(case side2=>exact Kd.R_tight rfl x.out);rintro e dl ⟨rfl,aW,hb,hkp⟩;refine⟨_,rfl,?_⟩;replace b:=zM (blk_kept (sT b.out) hkp (fun z=>(fun B=>(Kd.R_ne x.out b.out (by decide)) B) z));replace p:=zM (Kd.R_mono (ok':=fun a=>some a≠(.slice L r.length M:Value).ownBlock∧some a≠(.slice aU I.length aV:Value).ownBlock) (Kd.R_keptB (p.out) hkp (fun a d z=>(d.1) z)) (fun a d=>⟨d.1.1,d.1.2⟩));replace q:=zM (Kd.R_mono (ok':=fun a=>some a≠(.slice T j.length U:Value).ownBlock) (Kd.R_keptB ((Kd.R_apart' q.out (Kd.R_typed x.out) (by decide))) hkp (fun a d z=>(d.2) z)) (fun a d=>d.1.1));replace l:=zM (blk_kept (sT l.out) hkp (fun z=>(fun B=>(Kd.R_ne x.out l.out (by decide)) B) z));replace A:=zM (Kd.R_mono (ok':=fun a=>some a≠(.slice ay m.length az:Value).ownBlock) (Kd.R_keptB ((Kd.R_apart' A.out (Kd.R_typed x.out) (by decide))) hkp (fun a d z=>(d.2) z)) (fun a d=>d.1.1));replace x:=zM (Kd.R_reok rfl aW (fun a B=>x.out.1 a B));replace ac:=zM (Kd.R_mono (ok':=fun a=>some a≠(.slice ag G.length ah:Value).ownBlock∧some a≠(.slice L r.length M:Value).ownBlock) (Kd.R_keptB (ac.out) hkp (fun a d z=>(d.2) z)) (fun a d=>⟨d.1.1,d.1.2⟩));replace HB:=zM (hb);(try clear hb);(try clear hkp);(try clear aW)))
 (try simp only[zP])
 go_cut [63] (fun cf wc=>∃(kq:Nat) (a3:Bool),cf= .bool a3∧Aside0 (laws_FnExactGarbage.j0 kq l1 m j a3 a0_0 l0_1=some true)∧Aside0 (kq≤k)∧Aside0 (Kd.R (Kd.int .i64) 2 wc w.heap.size (fun a=>some a≠((.slice T j.length U):Value).ownBlock) (.slice ay m.length az) m)∧Aside0 (Kd.R (Kd.int .i64) 2 wc w.heap.size (fun a=>some a≠((.slice ay m.length az):Value).ownBlock) (.slice T j.length U) j)∧Aside0 (wc.heap[aE]?=some (.cells #[.int .i64 a0_0,(.slice A0_1 l0_1.length c0_1)] 24 (0,0)))∧Aside0 (Below w.heap.size w wc))
 case first=>(
 have H:=a9.out
 clear a9
 by_cases aM:a8<0
 ·(
 rw[if_pos aM]at H
 have c63b0:=zT aM
 clear aM
 (first|rw[c63b0]|(simp only[i64_w,i32_w];rw[c63b0])|rw[c63b2]|skip)
 have H':=zM H
 clear H
 go_wp2
 go_meet
 case rel=>exact⟨_,(true),sr,H',⟨by first|omega|exact Nat.le_refl _⟩,⟨by exact sE q.out⟩,⟨by exact sE A.out⟩,⟨by exact sT b.out⟩,⟨sb⟩⟩)
 rw[if_neg aM]at H
 have c63b0:=zF aM
 clear aM
 (first|rw[c63b0]|(simp only[i64_w,i32_w];rw[c63b0])|rw[c63b2]|skip)
 obtain⟨W,cg,H⟩:=sO H
 have H':=zM H
 clear H
 go_wp2_with (first|(go_at_call 14;(with_reducible refine(laws_eqInt64S.calls k _ _ j _ _ m W _ ?side1 ?side2 ?side3 ?side4 cg.out).mono ?_);(case side1=>exact sD ((Kd.R_reads' A.out).2.2));(case side2=>exact(Kd.R_reads' A.out).2.1);(case side3=>exact sD ((Kd.R_reads' q.out).2.2));(case side4=>exact(Kd.R_reads' q.out).2.1);rintro e w' ⟨rfl,⟨nd,rfl⟩⟩))
 go_meet
 case rel=>exact⟨_,(!W),sr,H',⟨by first|omega|exact Nat.le_refl _⟩,⟨by exact sE q.out⟩,⟨by exact sE A.out⟩,⟨by exact sT b.out⟩,⟨sb⟩⟩)
 case rest=>(
 clear a9
 try clear c1
 try clear c4
 try clear c4b0
 try clear c9
 try clear c9b0
 try clear aQ
 try clear aS
 try clear aT
 try clear bG
 try clear bH
 try clear bK
 try clear bL
 try clear bQ
 try clear bR
 try clear bV
 try clear bW
 try clear b0
 try clear b1
 try clear cb
 try clear cc
 try clear bI
 try clear bJ
 try clear bM
 try clear bN
 try clear bS
 try clear bT
 try clear bX
 try clear bY
 try clear b2
 try clear b3
 try clear cd
 try clear ce
 obtain⟨kq,a3,rfl,HA,dm,aa,F,b,HB⟩:=hcut
 cases kq with
 |zero=>exact absurd HA.out (by simp[laws_FnExactGarbage.j0])
 |succ kj29=>(
 have H:=HA.out
 clear HA
 simp only[laws_FnExactGarbage.j0]at H
 by_cases a4:a3=true
 ·(
 subst a4
 rewrite[if_pos rfl]at H
 exact absurd H (by simp))
 replace a4:=zB a4
 subst a4
 rewrite[if_neg zQ]at H
 replace H:=Option.bind_eq_some_iff.mp H
 obtain⟨⟨O,X⟩,bo,H⟩:=H
 replace H:((laws_heldInt64S.f kj29 X 1).bind fun ad=>(if ad<0 then(some false)else(if ad=O then((laws_toHeap.f kj29 a0_0 l0_1).bind fun bp=>((laws_toValueS.f kj29 l1).bind fun aF=>((impl_Garbage.f kj29 bp.1 bp.2 aF).bind fun aG=>((laws_eqInt64S.f kj29 aG m).bind fun aX=>(if aX=true then((laws_heldInt64S.f kj29 X 1).bind fun V=>(if V<0 then(some false)else(if V=O then(some true)else(some false))))else(some false))))))else(some false))))=some true:=H
 have ch:=zM bo
 clear bo
 obtain⟨ad,ci,H⟩:=sO H
 by_cases aN:ad<0
 ·(
 rw[if_pos aN]at H
 have c68b0:=zT aN
 clear aN
 exact absurd H (by simp))
 rw[if_neg aN]at H
 have c68b0:=zF aN
 clear aN
 by_cases aH:ad=O
 ·(
 rw[if_pos aH]at H
 have c69b0:(ad==O)=true:=zE aH
 have c69b1:(ad !=O)=false:=zY aH
 clear aH
 replace H:=Option.bind_eq_some_iff.mp H
 obtain⟨⟨a5,a6⟩,bq,H⟩:=H
 replace H:((laws_toValueS.f kj29 l1).bind fun aF=>((impl_Garbage.f kj29 a5 a6 aF).bind fun aG=>((laws_eqInt64S.f kj29 aG m).bind fun aX=>(if aX=true then((laws_heldInt64S.f kj29 X 1).bind fun V=>(if V<0 then(some false)else(if V=O then(some true)else(some false))))else(some false)))))=some true:=H
 have cj:=zM bq
 clear bq
 obtain⟨aF,ck,H⟩:=sO H
 obtain⟨aG,cl,H⟩:=sO H
 obtain⟨aX,cm,H⟩:=sO H
 by_cases a7:aX=true
 ·(
 subst a7
 rewrite[if_pos rfl]at H
 obtain⟨V,cn,H⟩:=sO H
 by_cases aO:V<0
 ·(
 rw[if_pos aO]at H
 have c76b0:=zT aO
 clear aO
 exact absurd H (by simp))
 rw[if_neg aO]at H
 have c76b0:=zF aO
 clear aO
 by_cases aI:V=O
 ·(
 rw[if_pos aI]at H
 have c77b0:(V==O)=true:=zE aI
 have c77b1:(V !=O)=false:=zY aI
 clear aI
 clear H
 go_wp2_with (first|((with_reducible refine gate_callee (f:=19) rfl ?_);refine sC (some 66) Try.func19 #[.slice T j.length U,.int .i64 1] (laws_markInt64S.calls kj29 (fun a=>some a=(.slice T j.length U:Value).ownBlock) (.slice T j.length U) j 1 O X w _ ?side1 ?side2 ch.out) ?_;(case side1=>repeat(first|(with_reducible first|exact HB.out|apply below_alloc|apply pw_below_drewN|apply below_drew1|refine below_set ?_ D.out)|exact HB.out));(case side2=>exact Kd.R_tight rfl F.out);rintro e dn ⟨rfl,aW,hb,hkp⟩;refine⟨_,rfl,?_⟩;replace aa:=zM (Kd.R_mono (ok':=fun a=>some a≠(.slice T j.length U:Value).ownBlock) (Kd.R_keptB (aa.out) hkp (fun a d z=>(d) z)) (fun a d=>d.1));replace b:=zM (blk_kept (sT b.out) hkp (fun z=>(fun B=>(Kd.R_ne F.out b.out (by decide)) B) z));replace F:=zM (Kd.R_reok rfl aW (fun a B=>F.out.1 a B));replace HB:=zM (hb);(try clear hb);(try clear hkp);(try clear aW))|((with_reducible refine gate_callee (f:=20) rfl ?_);refine goesL_ (some 69) rfl rfl Try.func20 (by kernel_rfl) rfl #[.slice T X.length U,.int .i64 1] rfl (by(try simp only[List.map_toArray,List.map_cons,List.map_nil]);first|done|(rw[show X.length=j.length from(Kd.R_reads' F.out).1.symm]<;>rfl)|rfl|(simp only[List.length_drop,List.length_take];rfl)) ?_;(with_reducible refine(laws_heldInt64S.calls kj29 _ _ X 1 ad _ ?side1 ?side2 ci.out).mono ?_);(case side1=>exact sD ((Kd.R_reads' F.out).2.2));(case side2=>rw[show X.length=j.length from(Kd.R_reads' F.out).1.symm];exact(Kd.R_reads' F.out).2.1);rintro e w' ⟨rfl,⟨nd,rfl⟩⟩;refine⟨_,rfl,?_⟩;obtain⟨dp,dq,dr,dt⟩:=cells2 b.out)|((with_reducible refine gate_callee (f:=11) rfl ?_);refine sC (some 76) Try.func11 #[.agg #[.int .i64 a0_0,.slice A0_1 l0_1.length c0_1]] (laws_toHeap.calls kj29 a0_0 _ _ l0_1 a5 a6 _ ?side1 ?side2 cj.out) ?_;(case side1=>exact sD (zC aA.out zzR));(case side2=>exact aB.out);rintro e du ⟨dv,rfl,c,hb⟩;refine⟨_,rfl,?_⟩;replace aa:=zM (Kd.R_below (sE aa.out) hb);replace F:=zM (Kd.R_below (sE F.out) hb);have aJ:=zM (Kd.S_lower c (below_size zzR));replace b:=sK b hb;replace HB:=sB HB hb;(try clear hb);(try clear c))|((with_reducible refine gate_callee (f:=12) rfl ?_);refine sC (some 78) Try.func12 #[.slice A1 l1.length c1] (laws_toValueS.calls kj29 _ _ l1 aF _ ?side1 ?side2 ck.out) ?_;(case side1=>exact sD (zC aK.out HB.out));(case side2=>exact aL.out);rintro e dw ⟨dx,rfl,c,hb⟩;refine⟨_,rfl,?_⟩;replace aa:=zM (Kd.R_below (sE aa.out) hb);replace F:=zM (Kd.R_below (sE F.out) hb);replace aJ:=zM (Kd.S_elder' (sI aJ.out) (Kd.R_base c) hb);have aY:=zM (Kd.R_lower c (below_size zzR));replace b:=sK b hb;replace HB:=sB HB hb;(try clear hb);(try clear c);obtain⟨co,cp,cq⟩:=Kd.S_slice aJ.out;subst cq;obtain⟨cr,ct,cu⟩:=Kd.R_slice aY.out;subst cu)|((with_reducible refine gate_callee (f:=13) rfl ?_);refine sC (some 79) Try.func13 #[.agg #[.int .i64 a5,.slice co a6.length cp],.slice cr aF.length ct] (impl_Garbage.calls kj29 a5 _ _ a6 _ _ aF aG _ ?side1 ?side2 ?side3 ?side4 cl.out) ?_;(case side1=>exact sD ((Kd.S_reads' aJ.out).2.2));(case side2=>exact(Kd.S_reads' aJ.out).2.1);(case side3=>exact sD ((Kd.R_reads' aY.out).2.2));(case side4=>exact(Kd.R_reads' aY.out).2.1);rintro e dy ⟨dz,rfl,c,hb⟩;refine⟨_,rfl,?_⟩;replace aJ:=zM (Kd.S_below (sI aJ.out) hb);replace aY:=zM (Kd.R_below (sE aY.out) hb);have bb:=zM (Kd.R_lower (Kd.R_new' (Kd.R_new' c (Kd.R_lt (sE aa.out))) (Kd.R_lt (sE F.out))) (below_size zzR));replace aa:=zM (Kd.R_elder' (sE aa.out) (Kd.R_base c) hb);replace F:=zM (Kd.R_elder' (sE F.out) (Kd.R_base c) hb);replace b:=sK b hb;replace HB:=sB HB hb;(try clear hb);(try clear c);obtain⟨cv,cw,cx⟩:=Kd.R_slice bb.out;subst cx)|((with_reducible refine gate_callee (f:=14) rfl ?_);refine sC (some 82) Try.func14 #[.slice cv aG.length cw,.slice ay m.length az] (laws_eqInt64S.calls kj29 _ _ aG _ _ m true _ ?side1 ?side2 ?side3 ?side4 cm.out) ?_;(case side1=>exact sD ((Kd.R_reads' bb.out).2.2));(case side2=>exact(Kd.R_reads' bb.out).2.1);(case side3=>exact sD ((Kd.R_reads' aa.out).2.2));(case side4=>exact(Kd.R_reads' aa.out).2.1);rintro e w' ⟨rfl,⟨nd,rfl⟩⟩;refine⟨_,rfl,?_⟩)|((with_reducible refine gate_callee (f:=20) rfl ?_);refine goesL_ (some 86) rfl rfl Try.func20 (by kernel_rfl) rfl #[.slice T X.length U,.int .i64 1] rfl (by(try simp only[List.map_toArray,List.map_cons,List.map_nil]);first|done|(rw[show X.length=j.length from(Kd.R_reads' F.out).1.symm]<;>rfl)|rfl|(simp only[List.length_drop,List.length_take];rfl)) ?_;(with_reducible refine(laws_heldInt64S.calls kj29 _ _ X 1 V _ ?side1 ?side2 cn.out).mono ?_);(case side1=>exact sD ((Kd.R_reads' F.out).2.2));(case side2=>rw[show X.length=j.length from(Kd.R_reads' F.out).1.symm];exact(Kd.R_reads' F.out).2.1);rintro e w' ⟨rfl,⟨nd,rfl⟩⟩;refine⟨_,rfl,?_⟩))
 go_ret
 exact⟨sq,sb⟩)
 rw[if_neg aI]at H
 have c77b0:(V==O)=false:=zN aI
 have c77b1:(V !=O)=true:=zX aI
 exact absurd H (by simp))
 replace a7:=zB a7
 subst a7
 rewrite[if_neg zQ]at H
 exact absurd H (by simp))
 rw[if_neg aH]at H
 have c69b0:(ad==O)=false:=zN aH
 have c69b1:(ad !=O)=true:=zX aH
 exact absurd H (by simp))))
 replace aT:=zB aT
 subst aT
 rewrite[if_neg zQ]at H
 exact absurd H (by simp))
 replace aS:=zB aS
 subst aS
 rewrite[if_neg zQ]at H
 exact absurd H (by simp))
 replace aQ:=zB aQ
 subst aQ
 rewrite[if_neg zQ]at H
 exact absurd H (by simp)
end Go.Proofs.Ytpdljgieaaicpaa.PFnExactGarbage
