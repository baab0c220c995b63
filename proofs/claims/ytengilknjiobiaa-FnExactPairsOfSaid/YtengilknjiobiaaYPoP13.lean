/- Printed functions: spec_PairsOf. -/
import Derived.Test.YtengilknjiobiaaYPoP0
import Derived.Test.YtengilknjiobiaaYPoP4
import Derived.Test.YtengilknjiobiaaYPoP9
import Derived.Test.YtengilknjiobiaaYPoP12
namespace Go.Proofs.Ytengilknjiobiaa.PFnExactPairsOf
open Go.RowKit Go.Proofs.YtengilknjiobiaaG Go.Proofs.YtengilknjiobiaaW.PrintWords Go.Proofs.YtengilknjiobiaaW.PrintLast Go.Proofs.YtengilknjiobiaaW.PrintMore
attribute [local go_sem] max2_int min2_int max_two min_two max_three min_three max_four min_four
set_option linter.unusedVariables false
set_option linter.unusedSimpArgs false
mutual
def spec_PairsOf.j0 : Nat → List (S29) → Bool → Int → List (S56) → Int → Int → ByteArray → Int → Option ((List (S29)))
 |0,_,_,_,_,_,_,_,_=>none
 |k+1,x5,x17,x237000,x237001,x238000,x238001,x238002,x238003=>if x17=true then(some x5)else((spec_l07Find.f k [(⟨x237000,x237001⟩:S34)] x238003).bind fun t246=>(if 0≤t246 then(if t246<(x237001.length:Int)then(spec_PairsOf.l0 k x5 0 ((rd_T56 x237001 t246).f0) ((rd_T56 x237001 t246).f1) ((rd_T56 x237001 t246).f2) ((rd_T56 x237001 t246).f3) ((rd_T56 x237001 t246).f4) ((rd_T56 x237001 t246).f5) ((rd_T56 x237001 t246).f6.f0) ((rd_T56 x237001 t246).f6.f1) ((rd_T56 x237001 t246).f6.f2) ((rd_T56 x237001 t246).f6.f3))else(none))else(none)))
def spec_PairsOf.l0 : Nat → List (S29) → Int → Int → Int → ByteArray → Int → List (S29) → List (S29) → Int → Int → ByteArray → Int → Option ((List (S29)))
 |0,_,_,_,_,_,_,_,_,_,_,_,_=>none
 |k+1,x5,x7,x249000,x249001,x249002,x249003,x249004,x249005,x249006,x249007,x249008,x249009=>if x7<(x249005.length:Int)then(if x249001=1 then(if 0≤x7 then((some (([(⟨2,wrap64 (x249003+x7),(⟨#[]⟩:ByteArray),0⟩:S29),(⟨(rd_T29 x249005 x7).f0,(rd_T29 x249005 x7).f1,(rd_T29 x249005 x7).f2,(rd_T29 x249005 x7).f3⟩:S29)]:List (S29)):List (S29))).bind fun y250=>(if x5.length+y250.length<3518437208883 then(spec_PairsOf.l0 k (x5++y250) (wrap64 (x7+1)) x249000 x249001 x249002 x249003 x249004 x249005 x249006 x249007 x249008 x249009)else(none)))else(none))else(if 0≤x7 then(if x7<(x249004.length:Int)then((some (([(⟨(rd_T29 x249004 x7).f0,(rd_T29 x249004 x7).f1,(rd_T29 x249004 x7).f2,(rd_T29 x249004 x7).f3⟩:S29),(⟨(rd_T29 x249005 x7).f0,(rd_T29 x249005 x7).f1,(rd_T29 x249005 x7).f2,(rd_T29 x249005 x7).f3⟩:S29)]:List (S29)):List (S29))).bind fun y258=>(if x5.length+y258.length<3518437208883 then(spec_PairsOf.l0 k (x5++y258) (wrap64 (x7+1)) x249000 x249001 x249002 x249003 x249004 x249005 x249006 x249007 x249008 x249009)else(none)))else(none))else(none)))else(some x5)
end
def spec_PairsOf.f (k:Nat) (a0_0:Int) (l0_1:List (S56)) (a1_0:Int) (a1_1:Int) (a1_2:ByteArray) (a1_3:Int):Option ((List (S29))):=(some (([]:List (S29)):List (S29))).bind fun y238=>((spec_l09Fit.f k [(⟨a0_0,l0_1⟩:S34)] (([(⟨a1_0,a1_1,a1_2,a1_3⟩:S29)]:List (S29)))).bind fun t244=>(if t244=true then((spec_l07IsRef.f a1_0 a1_1 a1_2 a1_3).bind fun t245=>(spec_PairsOf.j0 k y238 (!t245) a0_0 l0_1 a1_0 a1_1 a1_2 a1_3))else(spec_PairsOf.j0 k y238 true a0_0 l0_1 a1_0 a1_1 a1_2 a1_3)))
def spec_PairsOf.T4:Bool×List (List Nat×List Nat):=(true,[([],[]),([0],[0]),([],[]),([2],[2]),([3],[3]),([1,4],[1,4]),([5],[5]),([],[]),([7,6,4,0,1,2,3,4,5,6,7],[6,7])])
def spec_PairsOf.B4:List Nat:=[0,1,0,4,12,31,63,0,255]
theorem spec_PairsOf.tab4:rtab .any (opsOf Try.f19 4)=spec_PairsOf.T4:=by kernel_rfl
theorem spec_PairsOf.bits4:waitsOk spec_PairsOf.T4.2 spec_PairsOf.B4=true:=by kernel_rfl
def spec_PairsOf.T9:Bool×List (List Nat×List Nat):=(true,[([],[]),([],[]),([1],[1]),([],[]),([2,3],[2,3]),([4],[4]),([],[]),([6],[6]),([],[]),([7,8],[7,8]),([9],[9]),([5,10],[5,10]),([0,11],[0,11]),([12,12,0,1,2,3,4,5,6,7,8,9,10,11,12],[0,12])])
def spec_PairsOf.B9:List Nat:=[0,0,2,0,14,30,0,64,0,448,960,2046,4095,8191]
theorem spec_PairsOf.tab9:rtab .any (opsOf Try.f19 9)=spec_PairsOf.T9:=by kernel_rfl
theorem spec_PairsOf.bits9:waitsOk spec_PairsOf.T9.2 spec_PairsOf.B9=true:=by kernel_rfl
def spec_PairsOf.T10:Bool×List (List Nat×List Nat):=(true,[([],[]),([],[]),([1],[1]),([],[]),([2,3],[2,3]),([4],[4]),([],[]),([6],[6]),([],[]),([7,8],[7,8]),([9],[9]),([5,10],[5,10]),([0,11],[0,11]),([12,12,0,1,2,3,4,5,6,7,8,9,10,11,12],[0,12])])
def spec_PairsOf.B10:List Nat:=[0,0,2,0,14,30,0,64,0,448,960,2046,4095,8191]
theorem spec_PairsOf.tab10:rtab .any (opsOf Try.f19 10)=spec_PairsOf.T10:=by kernel_rfl
theorem spec_PairsOf.bits10:waitsOk spec_PairsOf.T10.2 spec_PairsOf.B10=true:=by kernel_rfl
set_option maxHeartbeats 8000000 in
set_option maxRecDepth 100000 in
theorem spec_PairsOf.calls (k:Nat) (a0_0:Int) (A0_1:Option Addr) (c0_1:Nat) (l0_1:List (S56)) (a1_0:Int) (a1_1:Int) (a1_2:ByteArray) (a1_3:Int) (r:List (S29)) (w:World) (hr0_1:Kd.C k56 w A0_1 l0_1.length l0_1) (hc0_1:l0_1.length≤c0_1) (h:spec_PairsOf.f k a0_0 l0_1 a1_0 a1_1 a1_2 a1_3=some r):
  Calls Try.prog 19 #[.agg #[.int .i64 a0_0,.slice A0_1 l0_1.length c0_1],.agg #[.int .i64 a1_0,.int .i64 a1_1,.string a1_2,.int .i64 a1_3]] w fun e w'=>∃b0:Value,e= .returned (b0)∧Kd.R k29 29 w' w.heap.size (fun _=>True) b0 r∧Below w.heap.size w w':=by
 have cP:=Try.underlying34
 have cQ:=Try.underlying29
 have cR:=Try.underlying56
 have aY:=zM hr0_1
 have bm:=zM hc0_1
 clear hr0_1 hc0_1
 have HB:=zM (Below.refl w.heap.size w)
 have H:((some (([]:List (S29)):List (S29))).bind fun ac=>((spec_l09Fit.f k [(⟨a0_0,l0_1⟩:S34)] (([(⟨a1_0,a1_1,a1_2,a1_3⟩:S29)]:List (S29)))).bind fun au=>(if au=true then((spec_l07IsRef.f a1_0 a1_1 a1_2 a1_3).bind fun ar=>(spec_PairsOf.j0 k ac (!ar) a0_0 l0_1 a1_0 a1_1 a1_2 a1_3))else(spec_PairsOf.j0 k ac true a0_0 l0_1 a1_0 a1_1 a1_2 a1_3))))=some r:=h
 clear h
 obtain⟨ac,hy238⟩:∃y_:List (S29),y_=(([]:List (S29))):=⟨_,rfl⟩
 replace H:((spec_l09Fit.f k [(⟨a0_0,l0_1⟩:S34)] (([(⟨a1_0,a1_1,a1_2,a1_3⟩:S29)]:List (S29)))).bind fun au=>(if au=true then((spec_l07IsRef.f a1_0 a1_1 a1_2 a1_3).bind fun ar=>(spec_PairsOf.j0 k ac (!ar) a0_0 l0_1 a1_0 a1_1 a1_2 a1_3))else(spec_PairsOf.j0 k ac true a0_0 l0_1 a1_0 a1_1 a1_2 a1_3)))=some r:=by first|(rw[hy238];with_reducible exact H)|(have B:=(Option.bind_some _ _).symm.trans H;rw[hy238];with_reducible exact B)|(have B:=(Option.bind_some _ _).symm.trans H;with_reducible exact B)|with_reducible exact H|(rw[hy238];exact H)|exact H
 have b1:=zM hy238
 clear hy238
 have bL:=zM H
 clear H
 go_enter Try.func19,Try.ntmps19
 go_upto_region 2 with(first|((with_reducible refine gate_dst (N:=2) rfl ?_);refine sV (N:=2) (cs:= #[.int .i64 a0_0,.slice A0_1 l0_1.length c0_1]) (t:=34) ?_;intro E hg w4 hbox hb;have l:=zM (hbox);have cS:=sG HB hg;have ae:=sG HB hg;replace HB:=sB HB hb;clear hb hbox hg)|((with_reducible refine gate_dst (N:=3) rfl ?_);refine sV (N:=3) (cs:= #[.int .i64 a1_0,.int .i64 a1_1,.string a1_2,.int .i64 a1_3]) (t:=29) ?_;intro u hg w5 hbox hb;have d:=zM (hbox);have cT:=sG HB hg;have af:=sG HB hg;replace HB:=sB HB hb;have b2:=sN l hg;have b3:=sM l hg;replace l:=sK l hb;clear hb hbox hg)|((with_reducible refine gate_dst (N:=8) rfl ?_);refine Kd.R_lit k29 _ 29 ?hg (N:=8) ?hd (xs:=([]:List (S29))) (inner:=[]) (ok:=fun _=>True) (okp:=fun _=>True) ?hr ?hp (fun _ hk=>hk) trivial (Below.refl _ _) (Nat.le_refl _) (by simp) ?_;(case hd=>rfl);(case hg=>rfl);(case hr=>first|(go_simp;done)|(go_simp;rfl));(case hp=>exact(Reps.none _ _));intro bM w6 aZ hb ak al;clear ak al;(first|rw[←b1.out]at aZ|(simp only[Int.reduceToNat]at aZ;rw[←b1.out]at aZ));have J:=zM (Kd.R_lower (Kd.R_newB aZ (g:=u) (o:= .cells #[.int .i64 a1_0,.int .i64 a1_1,.string a1_2,.int .i64 a1_3] 29 (0,0)) (sT d.out)) (below_size zzR));replace l:=sK l hb;replace d:=sK d hb;replace HB:=sB HB hb;clear hb aZ))
 (try simp only[zP])
 go_cut [17] (fun cp wc=>∃(kq:Nat) (bn:Bool) (I:Int),cp= .bool bn∧Aside0 (spec_PairsOf.j0 kq ac bn I l0_1 a1_0 a1_1 a1_2 a1_3=some r)∧Aside0 (kq≤k)∧Aside0 (Kd.R k29 29 wc w.heap.size (fun D=>D≠u) bM ac)∧Aside0 (wc.heap[E]?=some (.cells #[.int .i64 I,(.slice A0_1 l0_1.length c0_1)] 34 (0,0)))∧Aside0 (wc.heap[u]?=some (.cells #[.int .i64 a1_0,.int .i64 a1_1,.string a1_2,.int .i64 a1_3] 29 (0,0)))∧Aside0 (Below w.heap.size w wc))
 case first=>(
 have H:=bL.out
 clear bL
 obtain⟨y241,hy241⟩:∃y_:List (S29),y_=(([(⟨a1_0,a1_1,a1_2,a1_3⟩:S29)]:List (S29))):=⟨_,rfl⟩
 replace H:((spec_l09Fit.f k [(⟨a0_0,l0_1⟩:S34)] y241).bind fun au=>(if au=true then((spec_l07IsRef.f a1_0 a1_1 a1_2 a1_3).bind fun ar=>(spec_PairsOf.j0 k ac (!ar) a0_0 l0_1 a1_0 a1_1 a1_2 a1_3))else(spec_PairsOf.j0 k ac true a0_0 l0_1 a1_0 a1_1 a1_2 a1_3)))=some r:=by first|(rw[hy241];with_reducible exact H)|(have B:=(Option.bind_some _ _).symm.trans H;rw[hy241];with_reducible exact B)|(have B:=(Option.bind_some _ _).symm.trans H;with_reducible exact B)|with_reducible exact H|(rw[hy241];exact H)|exact H
 have bo:=zM hy241
 clear hy241
 obtain⟨au,A8,H⟩:=sO H
 by_cases c9:au=true
 ·(
 subst c9
 rewrite[if_pos rfl]at H
 obtain⟨ar,cq,H⟩:=sO H
 have H':=zM H
 clear H
 have cU:=b3.out
 have cV:=b2.out
 obtain⟨cW,cX,cY,cZ,c0,c1,c2,c3⟩:=cells4 d.out
 go_wp2_with (first|((with_reducible refine gate_dst (N:=10) rfl ?_);refine Kd.R_lit k29 _ 29 ?hg (N:=10) ?hd (xs:=([(⟨a1_0,a1_1,a1_2,a1_3⟩:S29)]:List (S29))) (inner:=[.int .i64 a1_0,.int .i64 a1_1,.string a1_2,.int .i64 a1_3]) (ok:=fun _=>True) (okp:=fun _=>True) ?hr ?hp (fun _ hk=>hk) trivial (Below.refl _ _) (Nat.le_refl _) (by simp) ?_;(case hd=>rfl);(case hg=>rfl);(case hr=>first|(go_simp;done)|(go_simp;rfl));(case hp=>exact(Reps.c4 (show Kd.M k29 _ _ _ (⟨a1_0,a1_1,a1_2,a1_3⟩:S29) [.int .i64 a1_0,.int .i64 a1_1,.string a1_2,.int .i64 a1_3] from(k29_mkM _ _ _ (⟨a1_0,a1_1,a1_2,a1_3⟩:S29))) (Reps.none _ _)));intro cr c5 az hb ak al;clear ak al;(first|rw[←bo.out]at az|(simp only[Int.reduceToNat]at az;rw[←bo.out]at az));have Z:=zM (Kd.R_lower (Kd.R_newB (Kd.R_new' az (Kd.R_lt (sE J.out))) (g:=u) (o:= .cells #[.int .i64 a1_0,.int .i64 a1_1,.string a1_2,.int .i64 a1_3] 29 (0,0)) (sT d.out)) (below_size zzR));replace J:=zM (Kd.R_elder' (sE J.out) (Kd.R_base az) hb);replace l:=sK l hb;replace d:=sK d hb;replace HB:=sB HB hb;clear hb az;obtain⟨ct,cu,cv⟩:=Kd.R_slice Z.out;subst cv)|((with_reducible refine gate_callee (f:=41) rfl ?_);refine sC (some 11) Try.func41 #[.pointer (some ⟨E,0,none⟩),.slice ct y241.length cu] (spec_l09Fit.calls k _ [(⟨a0_0,l0_1⟩:S34)] _ _ y241 true _ ?side1 ?side2 ?side3 A8.out) ?_;(case side1=>exact C_box (t:=34) (sT l.out) (k34_mk _ (⟨a0_0,l0_1⟩:S34) (by exact bm.out) (by exact sD (zC aY.out HB.out))));(case side2=>exact sD ((Kd.R_reads' Z.out).2.2));(case side3=>exact(Kd.R_reads' Z.out).2.1);rintro e c6 ⟨rfl,hb⟩;refine⟨_,rfl,?_⟩;replace J:=zM (Kd.R_below (sE J.out) hb);replace Z:=zM (Kd.R_below (sE Z.out) hb);replace l:=sK l hb;replace d:=sK d hb;replace HB:=sB HB hb;(try clear hb);(try clear hk);obtain⟨c7,c8,da,db,dc,dd,de,df⟩:=cells4 d.out)|(go_at_call 55;(with_reducible refine(spec_l07IsRef.calls a1_0 a1_1 a1_2 a1_3 ar _ cq.out).mono ?_);rintro e dg ⟨rfl,hb⟩;replace J:=zM (Kd.R_below (sE J.out) hb);replace Z:=zM (Kd.R_below (sE Z.out) hb);replace l:=sK l hb;replace d:=sK d hb;replace HB:=sB HB hb;(try clear hb);(try clear hk)))
 go_meet
 case rel=>exact⟨_,(!ar),(a0_0),sr,H',⟨by first|omega|exact Nat.le_refl _⟩,⟨by(with_reducible repeat(first|apply Kd.R_alloc|apply Kd.R_drewN|apply Kd.R_drew));exact Kd.R_mono J.out (fun _ hk=>hk.1.2)⟩,⟨by exact sT l.out⟩,⟨by exact sT d.out⟩,⟨sb⟩⟩)
 replace c9:=zB c9
 subst c9
 rewrite[if_neg zQ]at H
 have H':=zM H
 clear H
 have dh:=b3.out
 have di:=b2.out
 obtain⟨dj,dk,dl,dm,dn,dp,dq,dr⟩:=cells4 d.out
 go_wp2_with (first|((with_reducible refine gate_dst (N:=10) rfl ?_);refine Kd.R_lit k29 _ 29 ?hg (N:=10) ?hd (xs:=([(⟨a1_0,a1_1,a1_2,a1_3⟩:S29)]:List (S29))) (inner:=[.int .i64 a1_0,.int .i64 a1_1,.string a1_2,.int .i64 a1_3]) (ok:=fun _=>True) (okp:=fun _=>True) ?hr ?hp (fun _ hk=>hk) trivial (Below.refl _ _) (Nat.le_refl _) (by simp) ?_;(case hd=>rfl);(case hg=>rfl);(case hr=>first|(go_simp;done)|(go_simp;rfl));(case hp=>exact(Reps.c4 (show Kd.M k29 _ _ _ (⟨a1_0,a1_1,a1_2,a1_3⟩:S29) [.int .i64 a1_0,.int .i64 a1_1,.string a1_2,.int .i64 a1_3] from(k29_mkM _ _ _ (⟨a1_0,a1_1,a1_2,a1_3⟩:S29))) (Reps.none _ _)));intro cr dt aA hb ak al;clear ak al;(first|rw[←bo.out]at aA|(simp only[Int.reduceToNat]at aA;rw[←bo.out]at aA));have Z:=zM (Kd.R_lower (Kd.R_newB (Kd.R_new' aA (Kd.R_lt (sE J.out))) (g:=u) (o:= .cells #[.int .i64 a1_0,.int .i64 a1_1,.string a1_2,.int .i64 a1_3] 29 (0,0)) (sT d.out)) (below_size zzR));replace J:=zM (Kd.R_elder' (sE J.out) (Kd.R_base aA) hb);replace l:=sK l hb;replace d:=sK d hb;replace HB:=sB HB hb;clear hb aA;obtain⟨cw,cx,cy⟩:=Kd.R_slice Z.out;subst cy)|((with_reducible refine gate_callee (f:=41) rfl ?_);refine sC (some 11) Try.func41 #[.pointer (some ⟨E,0,none⟩),.slice cw y241.length cx] (spec_l09Fit.calls k _ [(⟨a0_0,l0_1⟩:S34)] _ _ y241 false _ ?side1 ?side2 ?side3 A8.out) ?_;(case side1=>exact C_box (t:=34) (sT l.out) (k34_mk _ (⟨a0_0,l0_1⟩:S34) (by exact bm.out) (by exact sD (zC aY.out HB.out))));(case side2=>exact sD ((Kd.R_reads' Z.out).2.2));(case side3=>exact(Kd.R_reads' Z.out).2.1);rintro e du ⟨rfl,hb⟩;refine⟨_,rfl,?_⟩;replace J:=zM (Kd.R_below (sE J.out) hb);replace Z:=zM (Kd.R_below (sE Z.out) hb);replace l:=sK l hb;replace d:=sK d hb;replace HB:=sB HB hb;(try clear hb);(try clear hk)))
 go_meet
 case rel=>exact⟨_,(true),(a0_0),sr,H',⟨by first|omega|exact Nat.le_refl _⟩,⟨by(with_reducible repeat(first|apply Kd.R_alloc|apply Kd.R_drewN|apply Kd.R_drew));exact Kd.R_mono J.out (fun _ hk=>hk.1.2)⟩,⟨by exact sT l.out⟩,⟨by exact sT d.out⟩,⟨sb⟩⟩)
 case rest=>(
 clear bL
 obtain⟨kq,bn,I,rfl,HA,bp,x,l,d,HB⟩:=hcut
 cases kq with
 |zero=>exact absurd HA.out (by simp[spec_PairsOf.j0])
 |succ kj2=>(
 have H:=HA.out
 clear HA
 simp only[spec_PairsOf.j0]at H
 by_cases a0:bn=true
 ·(
 subst a0
 rewrite[if_pos rfl]at H
 obtain rfl:=zI H
 go_wp2
 go_ret
 exact⟨_,sq,by(with_reducible repeat(first|apply Kd.R_alloc|apply Kd.R_drewN|apply Kd.R_drew));exact Kd.R_mono x.out (fun _ hk=>trivial),sb⟩)
 replace a0:=zB a0
 subst a0
 rewrite[if_neg zQ]at H
 obtain⟨a,b4,H⟩:=sO H
 by_cases a1:0≤a
 ·(
 rw[if_pos a1]at H
 have c27b0:=zT a1
 clear a1
 by_cases a2:a<(l0_1.length:Int)
 ·(
 rw[if_pos a2]at H
 have c28b0:=zT a2
 clear a2
 have H':=zM H
 clear H
 try go_wp2
 replace x:=zM (Kd.R_drew x.out)
 replace l:=zM (blk_drew l.out)
 replace d:=zM (blk_drew d.out)
 replace HB:=zM (below_drew1 HB.out)
 have bq:0≤(a:Int):=zzA
 have br:a<(l0_1.length:Int):=zzA
 obtain⟨m,av,am,a3,an,cz,a4,a5,a6,a7,a8,a9,ba,bb,bc,bd,b5,b6,b7,b8⟩:=at_T56 aY.out a bq br
 have L:=bd
 have O:=bc
 have P:=bb
 have Q:=ba
 have T:=a9
 have U:=a8
 have V:=a7
 have W:=a6
 have X:=a5
 have Y:=a4
 cases cz
 replace a4:=sX HB a4
 replace a5:=sX HB a5
 replace a6:=sX HB a6
 replace a7:=sX HB a7
 replace a8:=sX HB a8
 replace a9:=sX HB a9
 replace ba:=sX HB ba
 replace bb:=sX HB bb
 replace bc:=sX HB bc
 replace bd:=sX HB bd
 have b9:=zM b6
 have dv:=zM b5
 clear b6 b5
 have bO:=zM b8
 have dw:=zM b7
 clear b8 b7
 replace bq:=eq_true bq
 replace br:=eq_true br
 refine start_ (n:=9) (S:=fun w'=>w'.cell? ⟨E,0,none⟩=some (.int .i64 I)∧w'.cell? ⟨E,1,none⟩=some (.slice (some m) l0_1.length c0_1)∧w'.cell? ⟨u,0,none⟩=some (.int .i64 a1_0)∧w'.cell? ⟨u,1,none⟩=some (.int .i64 a1_1)∧w'.cell? ⟨u,2,none⟩=some (.string a1_2)∧w'.cell? ⟨u,3,none⟩=some (.int .i64 a1_3)∧w'.cell? (m.add ((a).toNat*10))=some (.int .i64 ((rd_T56 l0_1 a).f0))∧w'.cell? ⟨(m.add ((a).toNat*10)).block,(m.add ((a).toNat*10)).off+1,none⟩=some (.int .i64 ((rd_T56 l0_1 a).f1))∧w'.cell? ⟨(m.add ((a).toNat*10)).block,(m.add ((a).toNat*10)).off+2,none⟩=some (.string ((rd_T56 l0_1 a).f2))∧w'.cell? ⟨(m.add ((a).toNat*10)).block,(m.add ((a).toNat*10)).off+3,none⟩=some (.int .i64 ((rd_T56 l0_1 a).f3))∧w'.cell? ⟨(m.add ((a).toNat*10)).block,(m.add ((a).toNat*10)).off+4,none⟩=some (.slice av ((rd_T56 l0_1 a).f4).length am)∧w'.cell? ⟨(m.add ((a).toNat*10)).block,(m.add ((a).toNat*10)).off+5,none⟩=some (.slice a3 ((rd_T56 l0_1 a).f5).length an)∧w'.cell? ⟨(m.add ((a).toNat*10)).block,(m.add ((a).toNat*10)).off+6,none⟩=some (.int .i64 ((rd_T56 l0_1 a).f6.f0))∧w'.cell? ⟨(m.add ((a).toNat*10)).block,(m.add ((a).toNat*10)).off+7,none⟩=some (.int .i64 ((rd_T56 l0_1 a).f6.f1))∧w'.cell? ⟨(m.add ((a).toNat*10)).block,(m.add ((a).toNat*10)).off+8,none⟩=some (.string ((rd_T56 l0_1 a).f6.f2))∧w'.cell? ⟨(m.add ((a).toNat*10)).block,(m.add ((a).toNat*10)).off+9,none⟩=some (.int .i64 ((rd_T56 l0_1 a).f6.f3))) (ds:=[]) #[false,false,false,false,false,false,false,false,false] (by kernel_rfl) rfl rfl ⟨(blk_cell l.out 0).trans rfl,(blk_cell l.out 1).trans rfl,(blk_cell d.out 0).trans rfl,(blk_cell d.out 1).trans rfl,(blk_cell d.out 2).trans rfl,(blk_cell d.out 3).trans rfl,((HB.out.cell (zL w _ Y)).trans Y),((HB.out.cell (zL w _ X)).trans X),((HB.out.cell (zL w _ W)).trans W),((HB.out.cell (zL w _ V)).trans V),((HB.out.cell (zL w _ U)).trans U),((HB.out.cell (zL w _ T)).trans T),((HB.out.cell (zL w _ Q)).trans Q),((HB.out.cell (zL w _ P)).trans P),((HB.out.cell (zL w _ O)).trans O),((HB.out.cell (zL w _ L)).trans L)⟩ (fun hHeld=>?_);refine with_tabW spec_PairsOf.tab4 spec_PairsOf.bits4 (fun q aa=>?_)
 generalize wc.drew=w29 at x l d HB b9 bO a4 a5 a6 a7 a8 a9 ba bb bc bd hHeld ⊢
 refine pure_ (i:=0) (N:=some 19) (v:=?_) (a':=?_) (bN 9 1) rfl rfl (any_of q.out (by kernel_rfl)) (fun _ _ _ h=>h) (Or.inl ⟨by rfl,?_⟩) ?_ ?_
 rotate_left
 ·(
 intro w'
 go_simp
 with_reducible rfl)
 rotate_left
 ·(
 simp only[zP,i64_w,i32_w]
 rfl)
 refine pure_ (i:=2) (N:=some 21) (v:=?_) (a':=?_) (bN 9 5) rfl rfl (any_of q.out (by kernel_rfl)) (fun _ _ _ h=>h) (Or.inl ⟨by rfl,?_⟩) ?_ ?_
 rotate_left
 ·(
 intro w'
 go_simp
 with_reducible rfl)
 rotate_left
 ·(
 simp only[zP,i64_w,i32_w]
 rfl)
 refine take_ (i:=1) (N:=some 20) (v:=?_) (a':=?_) (bN 9 7) rfl rfl (take_ofW q.out aa.out (by kernel_rfl)) (fun _ _ _ h=>h) (Or.inl ⟨by rfl,?_⟩) hHeld ?_ ?_
 rotate_left
 ·(
 rintro w' ⟨s0,s1,s2,s3,s4,s5,s6,s7,s8,s9,ag,ah,ai,aj,aw,ax⟩
 go_simp
 with_reducible rfl)
 rotate_left
 ·(
 simp only[zP,i64_w,i32_w]
 rfl)
 refine take_ (i:=3) (N:=some 22) (v:=?_) (a':=?_) (bN 9 15) rfl rfl (take_ofW q.out aa.out (by kernel_rfl)) (fun _ _ _ h=>h) (Or.inl ⟨by rfl,?_⟩) hHeld ?_ ?_
 rotate_left
 ·(
 rintro w' ⟨s0,s1,s2,s3,s4,s5,s6,s7,s8,s9,ag,ah,ai,aj,aw,ax⟩
 go_simp
 with_reducible rfl)
 rotate_left
 ·(
 simp only[zP,i64_w,i32_w]
 rfl)
 refine join_ (σ:=Nat) 1 (bN 9 255) (fun s_=>[(23,.int .i64 a),(6,.pointer (some ⟨s_,0,none⟩)),(24,.pointer (some (m.add ((a).toNat*10)))),(25,.agg #[.int .i64 ((rd_T56 l0_1 a).f0),.int .i64 ((rd_T56 l0_1 a).f1),.string ((rd_T56 l0_1 a).f2),.int .i64 ((rd_T56 l0_1 a).f3),.slice av ((rd_T56 l0_1 a).f4).length am,.slice a3 ((rd_T56 l0_1 a).f5).length an,.int .i64 ((rd_T56 l0_1 a).f6.f0),.int .i64 ((rd_T56 l0_1 a).f6.f1),.string ((rd_T56 l0_1 a).f6.f2),.int .i64 ((rd_T56 l0_1 a).f6.f3)])]) (fun s_ w'=>(w'.cell? ⟨E,0,none⟩=some (.int .i64 I)∧w'.cell? ⟨E,1,none⟩=some (.slice (some m) l0_1.length c0_1)∧w'.cell? ⟨u,0,none⟩=some (.int .i64 a1_0)∧w'.cell? ⟨u,1,none⟩=some (.int .i64 a1_1)∧w'.cell? ⟨u,2,none⟩=some (.string a1_2)∧w'.cell? ⟨u,3,none⟩=some (.int .i64 a1_3)∧w'.cell? (m.add ((a).toNat*10))=some (.int .i64 ((rd_T56 l0_1 a).f0))∧w'.cell? ⟨(m.add ((a).toNat*10)).block,(m.add ((a).toNat*10)).off+1,none⟩=some (.int .i64 ((rd_T56 l0_1 a).f1))∧w'.cell? ⟨(m.add ((a).toNat*10)).block,(m.add ((a).toNat*10)).off+2,none⟩=some (.string ((rd_T56 l0_1 a).f2))∧w'.cell? ⟨(m.add ((a).toNat*10)).block,(m.add ((a).toNat*10)).off+3,none⟩=some (.int .i64 ((rd_T56 l0_1 a).f3))∧w'.cell? ⟨(m.add ((a).toNat*10)).block,(m.add ((a).toNat*10)).off+4,none⟩=some (.slice av ((rd_T56 l0_1 a).f4).length am)∧w'.cell? ⟨(m.add ((a).toNat*10)).block,(m.add ((a).toNat*10)).off+5,none⟩=some (.slice a3 ((rd_T56 l0_1 a).f5).length an)∧w'.cell? ⟨(m.add ((a).toNat*10)).block,(m.add ((a).toNat*10)).off+6,none⟩=some (.int .i64 ((rd_T56 l0_1 a).f6.f0))∧w'.cell? ⟨(m.add ((a).toNat*10)).block,(m.add ((a).toNat*10)).off+7,none⟩=some (.int .i64 ((rd_T56 l0_1 a).f6.f1))∧w'.cell? ⟨(m.add ((a).toNat*10)).block,(m.add ((a).toNat*10)).off+8,none⟩=some (.string ((rd_T56 l0_1 a).f6.f2))∧w'.cell? ⟨(m.add ((a).toNat*10)).block,(m.add ((a).toNat*10)).off+9,none⟩=some (.int .i64 ((rd_T56 l0_1 a).f6.f3)))∧(Kd.R k29 29 w' w.heap.size (fun D=>D≠u) bM ac)∧(w'.heap[E]?=some (.cells #[.int .i64 I,.slice (some m) l0_1.length c0_1] 34 (0,0)))∧(w'.heap[u]?=some (.cells #[.int .i64 a1_0,.int .i64 a1_1,.string a1_2,.int .i64 a1_3] 29 (0,0)))∧(w'.heap[s_]?=some (.cells #[.int .i64 0,.int .i64 0,.string (⟨#[]⟩:ByteArray),.int .i64 0,.slice none 0 0,.slice none 0 0,.int .i64 0,.int .i64 0,.string (⟨#[]⟩:ByteArray),.int .i64 0] 56 (0,0)))∧(w.heap.size≤s_)∧(w.heap.size≤s_)∧(E≠s_)∧(s_≠E)∧(u≠s_)∧(s_≠u)∧(Below w.heap.size w w')) ?_ ?_
 rotate_left
 ·(
 intro hCont
 refine two_ (i:=4) (j:=7) (Ni:=some 23) (Nj:=some 6) (bN 9 31) (bN 9 143) rfl rfl rfl rfl (two_of q.out (by kernel_rfl)) (by decide) (by decide) (fun K hK=>?_) (fun K hK=>?_)
 ·(
 skip
 refine goes_ Try.func42 (by kernel_rfl) rfl #[.pointer (some ⟨E,0,none⟩),.int .i64 a1_3] (by rfl) rfl rfl (by(try simp only[List.map_toArray,List.map_cons,List.map_nil]);first|done|rfl|(simp only[List.length_drop,List.length_take];rfl)) ?_
 with_reducible refine(spec_l07Find.calls kj2 _ [(⟨I,l0_1⟩:S34)] a1_3 a _ ?side1 b4.out).mono ?_
 (case side1=>exact C_box (t:=34) (sT l.out) (k34_mk _ (⟨I,l0_1⟩:S34) (by exact bm.out) (by exact sD (zC aY.out HB.out))))
 rintro e w' ⟨rfl,⟨nd,rfl⟩⟩
 refine⟨_,rfl,?_⟩
 refine hK.out _ _ ⟨(blk_cell l.out 0).trans rfl,(blk_cell l.out 1).trans rfl,(blk_cell d.out 0).trans rfl,(blk_cell d.out 1).trans rfl,(blk_cell d.out 2).trans rfl,(blk_cell d.out 3).trans rfl,((HB.out.cell (zL w _ Y)).trans Y),((HB.out.cell (zL w _ X)).trans X),((HB.out.cell (zL w _ W)).trans W),((HB.out.cell (zL w _ V)).trans V),((HB.out.cell (zL w _ U)).trans U),((HB.out.cell (zL w _ T)).trans T),((HB.out.cell (zL w _ Q)).trans Q),((HB.out.cell (zL w _ P)).trans P),((HB.out.cell (zL w _ O)).trans O),((HB.out.cell (zL w _ L)).trans L)⟩ (fun hHeld=>?_)
 clear hK K
 refine norm_ (a':=?_) ?_ ?_
 rotate_left
 ·(
 show Act.put _ (some 23) _=_
 simp only[zP,i64_w,i32_w]
 rfl)
 refine pure_ (i:=5) (N:=some 24) (v:=?_) (a':=?_) (bN 9 63) rfl rfl (any_of q.out (by kernel_rfl)) (fun _ _ _ h=>h) (Or.inl ⟨by rfl,?_⟩) ?_ ?_
 rotate_left
 ·(
 intro w'
 go_simp
 with_reducible rfl)
 rotate_left
 ·(
 simp only[zP,i64_w,i32_w]
 rfl)
 refine take_ (i:=6) (N:=some 25) (v:=?_) (a':=?_) (bN 9 127) rfl rfl (take_ofW q.out aa.out (by kernel_rfl)) (fun _ _ _ h=>h) (Or.inl ⟨by rfl,?_⟩) hHeld ?_ ?_
 rotate_left
 ·(
 rintro w' ⟨s0,s1,s2,s3,s4,s5,s6,s7,s8,s9,ag,ah,ai,aj,aw,ax⟩
 go_simp
 with_reducible rfl)
 rotate_left
 ·(
 simp only[zP,i64_w,i32_w]
 rfl)
 refine one_ (i:=7) (N:=some 6) (bN 9 255) rfl rfl (one_of q.out (by kernel_rfl)) (by decide) (fun K hK=>?_)
 refine box_step ?hg (N:=6) ?hd (cs:= #[.int .i64 0,.int .i64 0,.string (⟨#[]⟩:ByteArray),.int .i64 0,.slice none 0 0,.slice none 0 0,.int .i64 0,.int .i64 0,.string (⟨#[]⟩:ByteArray),.int .i64 0]) (t:=56) ?hr ?_;(case hd=>rfl);(case hg=>rfl);(case hr=>first|(go_simp;done)|(go_simp;rfl))
 intro p hg cA hbox hb
 replace x:=zM (Kd.R_below (sE x.out) hb)
 have c:=zM (hbox)
 have s:=sG HB hg
 have ad:=sG HB hg
 replace HB:=sB HB hb
 have A:=sN l hg
 have F:=sM l hg
 replace l:=sK l hb
 have y:=sN d hg
 have G:=sM d hg
 replace d:=sK d hb
 clear hb hbox hg
 refine hK.out _ _ ⟨(blk_cell l.out 0).trans rfl,(blk_cell l.out 1).trans rfl,(blk_cell d.out 0).trans rfl,(blk_cell d.out 1).trans rfl,(blk_cell d.out 2).trans rfl,(blk_cell d.out 3).trans rfl,((HB.out.cell (zL w _ Y)).trans Y),((HB.out.cell (zL w _ X)).trans X),((HB.out.cell (zL w _ W)).trans W),((HB.out.cell (zL w _ V)).trans V),((HB.out.cell (zL w _ U)).trans U),((HB.out.cell (zL w _ T)).trans T),((HB.out.cell (zL w _ Q)).trans Q),((HB.out.cell (zL w _ P)).trans P),((HB.out.cell (zL w _ O)).trans O),((HB.out.cell (zL w _ L)).trans L)⟩ (fun hHeld=>?_)
 clear hK K
 refine norm_ (a':=?_) ?_ ?_
 rotate_left
 ·(
 show Act.put _ (some 6) _=_
 simp only[zP,i64_w,i32_w]
 rfl)
 exact norm_ (by simp only[putAll,Act.put,List.setIfInBounds_toArray,List.set_cons_zero,List.set_cons_succ]) (hCont (p) _ ⟨hHeld,(sE x.out),(sT l.out),(sT d.out),(sT c.out),s.out,ad.out,A.out,F.out,y.out,G.out,zzR⟩))
 ·(
 skip
 refine box_step ?hg (N:=6) ?hd (cs:= #[.int .i64 0,.int .i64 0,.string (⟨#[]⟩:ByteArray),.int .i64 0,.slice none 0 0,.slice none 0 0,.int .i64 0,.int .i64 0,.string (⟨#[]⟩:ByteArray),.int .i64 0]) (t:=56) ?hr ?_;(case hd=>rfl);(case hg=>rfl);(case hr=>first|(go_simp;done)|(go_simp;rfl))
 intro p hg cA hbox hb
 replace x:=zM (Kd.R_below (sE x.out) hb)
 have c:=zM (hbox)
 have s:=sG HB hg
 have ad:=sG HB hg
 replace HB:=sB HB hb
 have A:=sN l hg
 have F:=sM l hg
 replace l:=sK l hb
 have y:=sN d hg
 have G:=sM d hg
 replace d:=sK d hb
 clear hb hbox hg
 refine hK.out _ _ ⟨(blk_cell l.out 0).trans rfl,(blk_cell l.out 1).trans rfl,(blk_cell d.out 0).trans rfl,(blk_cell d.out 1).trans rfl,(blk_cell d.out 2).trans rfl,(blk_cell d.out 3).trans rfl,((HB.out.cell (zL w _ Y)).trans Y),((HB.out.cell (zL w _ X)).trans X),((HB.out.cell (zL w _ W)).trans W),((HB.out.cell (zL w _ V)).trans V),((HB.out.cell (zL w _ U)).trans U),((HB.out.cell (zL w _ T)).trans T),((HB.out.cell (zL w _ Q)).trans Q),((HB.out.cell (zL w _ P)).trans P),((HB.out.cell (zL w _ O)).trans O),((HB.out.cell (zL w _ L)).trans L)⟩ (fun hHeld=>?_)
 clear hK K
 refine norm_ (a':=?_) ?_ ?_
 rotate_left
 ·(
 show Act.put _ (some 6) _=_
 simp only[zP,i64_w,i32_w]
 rfl)
 refine one_ (i:=4) (N:=some 23) (bN 9 159) rfl rfl (one_of q.out (by kernel_rfl)) (by decide) (fun K hK=>?_)
 refine goes_ Try.func42 (by kernel_rfl) rfl #[.pointer (some ⟨E,0,none⟩),.int .i64 a1_3] (by rfl) rfl rfl (by(try simp only[List.map_toArray,List.map_cons,List.map_nil]);first|done|rfl|(simp only[List.length_drop,List.length_take];rfl)) ?_
 with_reducible refine(spec_l07Find.calls kj2 _ [(⟨I,l0_1⟩:S34)] a1_3 a _ ?side1 b4.out).mono ?_
 (case side1=>exact C_box (t:=34) (sT l.out) (k34_mk _ (⟨I,l0_1⟩:S34) (by exact bm.out) (by exact sD (zC aY.out HB.out))))
 rintro e w' ⟨rfl,⟨nd,rfl⟩⟩
 refine⟨_,rfl,?_⟩
 refine hK.out _ _ ⟨(blk_cell l.out 0).trans rfl,(blk_cell l.out 1).trans rfl,(blk_cell d.out 0).trans rfl,(blk_cell d.out 1).trans rfl,(blk_cell d.out 2).trans rfl,(blk_cell d.out 3).trans rfl,((HB.out.cell (zL w _ Y)).trans Y),((HB.out.cell (zL w _ X)).trans X),((HB.out.cell (zL w _ W)).trans W),((HB.out.cell (zL w _ V)).trans V),((HB.out.cell (zL w _ U)).trans U),((HB.out.cell (zL w _ T)).trans T),((HB.out.cell (zL w _ Q)).trans Q),((HB.out.cell (zL w _ P)).trans P),((HB.out.cell (zL w _ O)).trans O),((HB.out.cell (zL w _ L)).trans L)⟩ (fun hHeld=>?_)
 clear hK K
 refine norm_ (a':=?_) ?_ ?_
 rotate_left
 ·(
 show Act.put _ (some 23) _=_
 simp only[zP,i64_w,i32_w]
 rfl)
 refine pure_ (i:=5) (N:=some 24) (v:=?_) (a':=?_) (bN 9 191) rfl rfl (any_of q.out (by kernel_rfl)) (fun _ _ _ h=>h) (Or.inl ⟨by rfl,?_⟩) ?_ ?_
 rotate_left
 ·(
 intro w'
 go_simp
 with_reducible rfl)
 rotate_left
 ·(
 simp only[zP,i64_w,i32_w]
 rfl)
 refine take_ (i:=6) (N:=some 25) (v:=?_) (a':=?_) (bN 9 255) rfl rfl (take_ofW q.out aa.out (by kernel_rfl)) (fun _ _ _ h=>h) (Or.inl ⟨by rfl,?_⟩) hHeld ?_ ?_
 rotate_left
 ·(
 rintro w' ⟨s0,s1,s2,s3,s4,s5,s6,s7,s8,s9,ag,ah,ai,aj,aw,ax⟩
 go_simp
 with_reducible rfl)
 rotate_left
 ·(
 simp only[zP,i64_w,i32_w]
 rfl)
 exact norm_ (by simp only[putAll,Act.put,List.setIfInBounds_toArray,List.set_cons_zero,List.set_cons_succ]) (hCont (p) _ ⟨hHeld,(sE x.out),(sT l.out),(sT d.out),(sT c.out),s.out,ad.out,A.out,F.out,y.out,G.out,zzR⟩)))
 rintro p z ⟨cB,ca,cb,cc,cd,ce,cf,cg,ch,ci,cj,ck⟩
 replace x:Aside0 (Kd.R k29 29 z w.heap.size (fun D=>D≠u) bM ac):=⟨ca⟩
 replace l:Aside0 (z.heap[E]?=some (.cells #[.int .i64 I,.slice (some m) l0_1.length c0_1] 34 (0,0))):=⟨cb⟩
 replace d:Aside0 (z.heap[u]?=some (.cells #[.int .i64 a1_0,.int .i64 a1_1,.string a1_2,.int .i64 a1_3] 29 (0,0))):=⟨cc⟩
 have c:Aside0 (z.heap[p]?=some (.cells #[.int .i64 0,.int .i64 0,.string (⟨#[]⟩:ByteArray),.int .i64 0,.slice none 0 0,.slice none 0 0,.int .i64 0,.int .i64 0,.string (⟨#[]⟩:ByteArray),.int .i64 0] 56 (0,0))):=⟨cd⟩
 have s:Aside0 (w.heap.size≤p):=⟨ce⟩
 have ad:Aside0 (w.heap.size≤p):=⟨cf⟩
 have A:Aside0 (E≠p):=⟨cg⟩
 have F:Aside0 (p≠E):=⟨ch⟩
 have y:Aside0 (u≠p):=⟨ci⟩
 have G:Aside0 (p≠u):=⟨cj⟩
 replace HB:Aside0 (Below w.heap.size w z):=⟨ck⟩
 clear ca cb cc cd ce cf cg ch ci cj ck
 have hHeld:z.cell? ⟨E,0,none⟩=some (.int .i64 I)∧z.cell? ⟨E,1,none⟩=some (.slice (some m) l0_1.length c0_1)∧z.cell? ⟨u,0,none⟩=some (.int .i64 a1_0)∧z.cell? ⟨u,1,none⟩=some (.int .i64 a1_1)∧z.cell? ⟨u,2,none⟩=some (.string a1_2)∧z.cell? ⟨u,3,none⟩=some (.int .i64 a1_3)∧z.cell? (m.add ((a).toNat*10))=some (.int .i64 ((rd_T56 l0_1 a).f0))∧z.cell? ⟨(m.add ((a).toNat*10)).block,(m.add ((a).toNat*10)).off+1,none⟩=some (.int .i64 ((rd_T56 l0_1 a).f1))∧z.cell? ⟨(m.add ((a).toNat*10)).block,(m.add ((a).toNat*10)).off+2,none⟩=some (.string ((rd_T56 l0_1 a).f2))∧z.cell? ⟨(m.add ((a).toNat*10)).block,(m.add ((a).toNat*10)).off+3,none⟩=some (.int .i64 ((rd_T56 l0_1 a).f3))∧z.cell? ⟨(m.add ((a).toNat*10)).block,(m.add ((a).toNat*10)).off+4,none⟩=some (.slice av ((rd_T56 l0_1 a).f4).length am)∧z.cell? ⟨(m.add ((a).toNat*10)).block,(m.add ((a).toNat*10)).off+5,none⟩=some (.slice a3 ((rd_T56 l0_1 a).f5).length an)∧z.cell? ⟨(m.add ((a).toNat*10)).block,(m.add ((a).toNat*10)).off+6,none⟩=some (.int .i64 ((rd_T56 l0_1 a).f6.f0))∧z.cell? ⟨(m.add ((a).toNat*10)).block,(m.add ((a).toNat*10)).off+7,none⟩=some (.int .i64 ((rd_T56 l0_1 a).f6.f1))∧z.cell? ⟨(m.add ((a).toNat*10)).block,(m.add ((a).toNat*10)).off+8,none⟩=some (.string ((rd_T56 l0_1 a).f6.f2))∧z.cell? ⟨(m.add ((a).toNat*10)).block,(m.add ((a).toNat*10)).off+9,none⟩=some (.int .i64 ((rd_T56 l0_1 a).f6.f3)):=cB
 refine norm_ (a':=?_) ?_ ?_
 rotate_left
 ·(
 simp only[putAll,Act.put,List.setIfInBounds_toArray,List.set_cons_zero,List.set_cons_succ]
 rfl)
 refine one_ (i:=8) (N:=none) (bN 9 511) rfl rfl (one_of q.out (by kernel_rfl)) (by decide) (fun K hK=>?_)
 have dx:z.cell? ⟨p,0,none⟩=some (.int .i64 0):=(blk_cell c.out 0).trans rfl
 have dy:=blk_frozen c.out 0
 have dz:=A.out
 have dA:=y.out
 have dB:=F.out
 have dC:=G.out
 have dD:z.cell? ⟨p,1,none⟩=some (.int .i64 0):=(blk_cell c.out 1).trans rfl
 have dE:=blk_frozen c.out 1
 have dF:=A.out
 have dG:=y.out
 have dH:=F.out
 have dI:=G.out
 have dJ:z.cell? ⟨p,2,none⟩=some (.string (⟨#[]⟩:ByteArray)):=(blk_cell c.out 2).trans rfl
 have dK:=blk_frozen c.out 2
 have dL:=A.out
 have dM:=y.out
 have dN:=F.out
 have dO:=G.out
 have dP:z.cell? ⟨p,3,none⟩=some (.int .i64 0):=(blk_cell c.out 3).trans rfl
 have dQ:=blk_frozen c.out 3
 have dR:=A.out
 have dS:=y.out
 have dT:=F.out
 have dU:=G.out
 have dV:z.cell? ⟨p,4,none⟩=some (.slice none 0 0):=(blk_cell c.out 4).trans rfl
 have dW:=blk_frozen c.out 4
 have dX:=A.out
 have dY:=y.out
 have dZ:=F.out
 have d0:=G.out
 have d1:z.cell? ⟨p,5,none⟩=some (.slice none 0 0):=(blk_cell c.out 5).trans rfl
 have d2:=blk_frozen c.out 5
 have d3:=A.out
 have d4:=y.out
 have d5:=F.out
 have d6:=G.out
 have d7:z.cell? ⟨p,6,none⟩=some (.int .i64 0):=(blk_cell c.out 6).trans rfl
 have d8:=blk_frozen c.out 6
 have d9:=A.out
 have ea:=y.out
 have eb:=F.out
 have ec:=G.out
 have ed:z.cell? ⟨p,7,none⟩=some (.int .i64 0):=(blk_cell c.out 7).trans rfl
 have ee:=blk_frozen c.out 7
 have ef:=A.out
 have eg:=y.out
 have eh:=F.out
 have ei:=G.out
 have ej:z.cell? ⟨p,8,none⟩=some (.string (⟨#[]⟩:ByteArray)):=(blk_cell c.out 8).trans rfl
 have ek:=blk_frozen c.out 8
 have el:=A.out
 have em:=y.out
 have en:=F.out
 have eo:=G.out
 have ep:z.cell? ⟨p,9,none⟩=some (.int .i64 0):=(blk_cell c.out 9).trans rfl
 have er:=blk_frozen c.out 9
 have es:=A.out
 have et:=y.out
 have eu:=F.out
 have ev:=G.out
 refine skip_ (w1:=?_) (by rfl) rfl ?_ ?_
 rotate_left
 ·(
 go_simp
 rfl)
 refine hK.out _ _ ⟨(sQ10 (g:=p) A.out (hHeld.1)),(sQ10 (g:=p) A.out (hHeld.2.1)),(sQ10 (g:=p) y.out (hHeld.2.2.1)),(sQ10 (g:=p) y.out (hHeld.2.2.2.1)),(sQ10 (g:=p) y.out (hHeld.2.2.2.2.1)),(sQ10 (g:=p) y.out (hHeld.2.2.2.2.2.1)),(sQ10 (g:=p) (by first|exact zzU Y s.out|(rw[add_block];exact zzU Y s.out)|(show(Addr.add _ _).block≠_;rw[add_block];exact zzU Y s.out)|(dsimp only;exact zzU Y s.out)) (hHeld.2.2.2.2.2.2.1)),(sQ10 (g:=p) (by first|exact zzU X s.out|(rw[add_block];exact zzU X s.out)|(show(Addr.add _ _).block≠_;rw[add_block];exact zzU X s.out)|(dsimp only;exact zzU X s.out)) (hHeld.2.2.2.2.2.2.2.1)),(sQ10 (g:=p) (by first|exact zzU W s.out|(rw[add_block];exact zzU W s.out)|(show(Addr.add _ _).block≠_;rw[add_block];exact zzU W s.out)|(dsimp only;exact zzU W s.out)) (hHeld.2.2.2.2.2.2.2.2.1)),(sQ10 (g:=p) (by first|exact zzU V s.out|(rw[add_block];exact zzU V s.out)|(show(Addr.add _ _).block≠_;rw[add_block];exact zzU V s.out)|(dsimp only;exact zzU V s.out)) (hHeld.2.2.2.2.2.2.2.2.2.1)),(sQ10 (g:=p) (by first|exact zzU U s.out|(rw[add_block];exact zzU U s.out)|(show(Addr.add _ _).block≠_;rw[add_block];exact zzU U s.out)|(dsimp only;exact zzU U s.out)) (hHeld.2.2.2.2.2.2.2.2.2.2.1)),(sQ10 (g:=p) (by first|exact zzU T s.out|(rw[add_block];exact zzU T s.out)|(show(Addr.add _ _).block≠_;rw[add_block];exact zzU T s.out)|(dsimp only;exact zzU T s.out)) (hHeld.2.2.2.2.2.2.2.2.2.2.2.1)),(sQ10 (g:=p) (by first|exact zzU Q s.out|(rw[add_block];exact zzU Q s.out)|(show(Addr.add _ _).block≠_;rw[add_block];exact zzU Q s.out)|(dsimp only;exact zzU Q s.out)) (hHeld.2.2.2.2.2.2.2.2.2.2.2.2.1)),(sQ10 (g:=p) (by first|exact zzU P s.out|(rw[add_block];exact zzU P s.out)|(show(Addr.add _ _).block≠_;rw[add_block];exact zzU P s.out)|(dsimp only;exact zzU P s.out)) (hHeld.2.2.2.2.2.2.2.2.2.2.2.2.2.1)),(sQ10 (g:=p) (by first|exact zzU O s.out|(rw[add_block];exact zzU O s.out)|(show(Addr.add _ _).block≠_;rw[add_block];exact zzU O s.out)|(dsimp only;exact zzU O s.out)) (hHeld.2.2.2.2.2.2.2.2.2.2.2.2.2.2.1)),(sQ10 (g:=p) (by first|exact zzU L s.out|(rw[add_block];exact zzU L s.out)|(show(Addr.add _ _).block≠_;rw[add_block];exact zzU L s.out)|(dsimp only;exact zzU L s.out)) (hHeld.2.2.2.2.2.2.2.2.2.2.2.2.2.2.2))⟩ (fun hHeld=>?_)
 clear hK K
 refine done_ (done_of q.out (by kernel_rfl)) ?_
 try go_wp2
 go_loopg [5,7] kj2 (fun kq v5 v7 w'=>∃(ab:List (S29)) (b:Int),v7= .int .i64 b∧Aside0 (spec_PairsOf.l0 kq ab b ((rd_T56 l0_1 a).f0) ((rd_T56 l0_1 a).f1) ((rd_T56 l0_1 a).f2) ((rd_T56 l0_1 a).f3) ((rd_T56 l0_1 a).f4) ((rd_T56 l0_1 a).f5) ((rd_T56 l0_1 a).f6.f0) ((rd_T56 l0_1 a).f6.f1) ((rd_T56 l0_1 a).f6.f2) ((rd_T56 l0_1 a).f6.f3)=some r)∧Aside0 (kq≤kj2)∧Aside0 (Kd.R k29 29 w' w.heap.size (fun D=>D≠u) v5 ab)∧Aside0 (w'.heap[E]?=some (.cells #[.int .i64 I,(.slice (some m) l0_1.length c0_1)] 34 (0,0)))∧Aside0 (w'.heap[u]?=some (.cells #[.int .i64 a1_0,.int .i64 a1_1,.string a1_2,.int .i64 a1_3] 29 (0,0)))∧Aside0 (w'.heap[p]?=some (.cells #[.int .i64 ((rd_T56 l0_1 a).f0),.int .i64 ((rd_T56 l0_1 a).f1),.string ((rd_T56 l0_1 a).f2),.int .i64 ((rd_T56 l0_1 a).f3),(.slice av ((rd_T56 l0_1 a).f4).length am),(.slice a3 ((rd_T56 l0_1 a).f5).length an),.int .i64 ((rd_T56 l0_1 a).f6.f0),.int .i64 ((rd_T56 l0_1 a).f6.f1),.string ((rd_T56 l0_1 a).f6.f2),.int .i64 ((rd_T56 l0_1 a).f6.f3)] 56 (0,0)))∧Aside0 (Below w.heap.size w w'))
 case atStart=>exact⟨(ac),(0),sr,H',⟨Nat.le_refl _⟩,⟨by(with_reducible repeat(first|apply Kd.R_alloc|apply Kd.R_drewN|apply Kd.R_drew));exact Kd.R_mono (sRF10 (g:=p) (Kd.R_types x.out c.out (by decide)) (fun _ hk=>hk.2)) (fun _ hk=>hk.1)⟩,⟨by(with_reducible repeat(first|refine blk_drewN ?_ _|refine blk_drew ?_|refine blk_alloc ?_ _));refine blk_far ?_ A.out _;(with_reducible repeat(first|refine blk_drewN ?_ _|refine blk_drew ?_|refine blk_alloc ?_ _));refine blk_far ?_ A.out _;(with_reducible repeat(first|refine blk_drewN ?_ _|refine blk_drew ?_|refine blk_alloc ?_ _));refine blk_far ?_ A.out _;(with_reducible repeat(first|refine blk_drewN ?_ _|refine blk_drew ?_|refine blk_alloc ?_ _));refine blk_far ?_ A.out _;(with_reducible repeat(first|refine blk_drewN ?_ _|refine blk_drew ?_|refine blk_alloc ?_ _));refine blk_far ?_ A.out _;(with_reducible repeat(first|refine blk_drewN ?_ _|refine blk_drew ?_|refine blk_alloc ?_ _));refine blk_far ?_ A.out _;(with_reducible repeat(first|refine blk_drewN ?_ _|refine blk_drew ?_|refine blk_alloc ?_ _));refine blk_far ?_ A.out _;(with_reducible repeat(first|refine blk_drewN ?_ _|refine blk_drew ?_|refine blk_alloc ?_ _));refine blk_far ?_ A.out _;(with_reducible repeat(first|refine blk_drewN ?_ _|refine blk_drew ?_|refine blk_alloc ?_ _));refine blk_far ?_ A.out _;(with_reducible repeat(first|refine blk_drewN ?_ _|refine blk_drew ?_|refine blk_alloc ?_ _));refine blk_far ?_ A.out _;exact sT l.out⟩,⟨by(with_reducible repeat(first|refine blk_drewN ?_ _|refine blk_drew ?_|refine blk_alloc ?_ _));refine blk_far ?_ y.out _;(with_reducible repeat(first|refine blk_drewN ?_ _|refine blk_drew ?_|refine blk_alloc ?_ _));refine blk_far ?_ y.out _;(with_reducible repeat(first|refine blk_drewN ?_ _|refine blk_drew ?_|refine blk_alloc ?_ _));refine blk_far ?_ y.out _;(with_reducible repeat(first|refine blk_drewN ?_ _|refine blk_drew ?_|refine blk_alloc ?_ _));refine blk_far ?_ y.out _;(with_reducible repeat(first|refine blk_drewN ?_ _|refine blk_drew ?_|refine blk_alloc ?_ _));refine blk_far ?_ y.out _;(with_reducible repeat(first|refine blk_drewN ?_ _|refine blk_drew ?_|refine blk_alloc ?_ _));refine blk_far ?_ y.out _;(with_reducible repeat(first|refine blk_drewN ?_ _|refine blk_drew ?_|refine blk_alloc ?_ _));refine blk_far ?_ y.out _;(with_reducible repeat(first|refine blk_drewN ?_ _|refine blk_drew ?_|refine blk_alloc ?_ _));refine blk_far ?_ y.out _;(with_reducible repeat(first|refine blk_drewN ?_ _|refine blk_drew ?_|refine blk_alloc ?_ _));refine blk_far ?_ y.out _;(with_reducible repeat(first|refine blk_drewN ?_ _|refine blk_drew ?_|refine blk_alloc ?_ _));refine blk_far ?_ y.out _;exact sT d.out⟩,⟨by exact sP10 (sT c.out)⟩,⟨sb⟩⟩
 case round=>(
 clear H'
 try clear a0
 try clear a1
 try clear c27b0
 try clear a2
 try clear c28b0
 try clear a4
 try clear a5
 try clear a6
 try clear a7
 try clear a8
 try clear a9
 try clear ba
 try clear bb
 try clear bc
 try clear bd
 try clear bq
 try clear br
 obtain⟨ab,b,rfl,HA,bs,x,l,d,c,HB⟩:=hrel
 cases gk with
 |zero=>exact absurd HA.out (by simp[spec_PairsOf.l0])
 |succ k2=>(
 have H:=HA.out
 clear HA
 simp only[spec_PairsOf.l0]at H
 by_cases aC:b<(((rd_T56 l0_1 a).f5).length:Int)
 ·(
 rw[if_pos aC]at H
 have c42b0:=zT aC
 clear aC
 by_cases ay:((rd_T56 l0_1 a).f1)=1
 ·(
 rw[if_pos ay]at H
 have c43b0:(((rd_T56 l0_1 a).f1)==1)=true:=zE ay
 have c43b1:(((rd_T56 l0_1 a).f1) !=1)=false:=zY ay
 clear ay
 by_cases bt:0≤b
 ·(
 rw[if_pos bt]at H
 have c44b0:=zT bt
 clear bt
 obtain⟨y250,hy250⟩:∃y_:List (S29),y_=(([(⟨2,wrap64 (((rd_T56 l0_1 a).f3)+b),(⟨#[]⟩:ByteArray),0⟩:S29),(⟨(rd_T29 ((rd_T56 l0_1 a).f5) b).f0,(rd_T29 ((rd_T56 l0_1 a).f5) b).f1,(rd_T29 ((rd_T56 l0_1 a).f5) b).f2,(rd_T29 ((rd_T56 l0_1 a).f5) b).f3⟩:S29)]:List (S29))):=⟨_,rfl⟩
 replace H:(if ab.length+y250.length<3518437208883 then(spec_PairsOf.l0 k2 (ab++y250) (wrap64 (b+1)) ((rd_T56 l0_1 a).f0) ((rd_T56 l0_1 a).f1) ((rd_T56 l0_1 a).f2) ((rd_T56 l0_1 a).f3) ((rd_T56 l0_1 a).f4) ((rd_T56 l0_1 a).f5) ((rd_T56 l0_1 a).f6.f0) ((rd_T56 l0_1 a).f6.f1) ((rd_T56 l0_1 a).f6.f2) ((rd_T56 l0_1 a).f6.f3))else(none))=some r:=by first|(rw[hy250];with_reducible exact H)|(have B:=(Option.bind_some _ _).symm.trans H;rw[hy250];with_reducible exact B)|(have B:=(Option.bind_some _ _).symm.trans H;with_reducible exact B)|with_reducible exact H|(rw[hy250];exact H)|exact H
 have cl:=zM hy250
 clear hy250
 by_cases bu:ab.length+y250.length<3518437208883
 ·(
 rw[if_pos bu]at H
 have cC:=zM bu
 clear bu
 obtain⟨y253,hy253⟩:∃y_:List (S29),y_=(ab++y250):=⟨_,rfl⟩
 replace H:(spec_PairsOf.l0 k2 y253 (wrap64 (b+1)) ((rd_T56 l0_1 a).f0) ((rd_T56 l0_1 a).f1) ((rd_T56 l0_1 a).f2) ((rd_T56 l0_1 a).f3) ((rd_T56 l0_1 a).f4) ((rd_T56 l0_1 a).f5) ((rd_T56 l0_1 a).f6.f0) ((rd_T56 l0_1 a).f6.f1) ((rd_T56 l0_1 a).f6.f2) ((rd_T56 l0_1 a).f6.f3))=some r:=by first|(rw[hy253];with_reducible exact H)|(have B:=(Option.bind_some _ _).symm.trans H;rw[hy253];with_reducible exact B)|(have B:=(Option.bind_some _ _).symm.trans H;with_reducible exact B)|with_reducible exact H|(rw[hy253];exact H)|exact H
 have cD:=zM hy253
 clear hy253
 have H':=zM H
 clear H
 have ew:=F.out
 have ex:=A.out
 have ey:=G.out
 have ez:=y.out
 obtain⟨eA,eB,eC,eD,eE,eF,eG,eH,eI,eJ,eK,eL,eM,eN,eO,eP,eQ,eR,eS,eT⟩:=cells10 c.out
 try go_wp2
 replace x:=zM (Kd.R_drew x.out)
 replace l:=zM (blk_drew l.out)
 replace d:=zM (blk_drew d.out)
 replace c:=zM (blk_drew c.out)
 replace HB:=zM (below_drew1 HB.out)
 have bP:0≤(b:Int):=zzA
 have bQ:b<(((rd_T56 l0_1 a).f5).length:Int):=zzA
 obtain⟨ao,cE,bv,bw,bx,bz⟩:=at_T29 bO.out b bP bQ
 have aD:=bz
 have aE:=bx
 have aG:=bw
 have aH:=bv
 cases cE
 replace bv:=sX HB bv
 replace bw:=sX HB bw
 replace bx:=sX HB bx
 replace bz:=sX HB bz
 replace bP:=eq_true bP
 replace bQ:=eq_true bQ
 refine start_ (n:=14) (S:=fun w'=>w'.cell? ⟨p,0,none⟩=some (.int .i64 ((rd_T56 l0_1 a).f0))∧w'.cell? ⟨p,1,none⟩=some (.int .i64 ((rd_T56 l0_1 a).f1))∧w'.cell? ⟨p,2,none⟩=some (.string ((rd_T56 l0_1 a).f2))∧w'.cell? ⟨p,3,none⟩=some (.int .i64 ((rd_T56 l0_1 a).f3))∧w'.cell? ⟨p,4,none⟩=some (.slice av ((rd_T56 l0_1 a).f4).length am)∧w'.cell? ⟨p,5,none⟩=some (.slice (some ao) ((rd_T56 l0_1 a).f5).length an)∧w'.cell? ⟨p,6,none⟩=some (.int .i64 ((rd_T56 l0_1 a).f6.f0))∧w'.cell? ⟨p,7,none⟩=some (.int .i64 ((rd_T56 l0_1 a).f6.f1))∧w'.cell? ⟨p,8,none⟩=some (.string ((rd_T56 l0_1 a).f6.f2))∧w'.cell? ⟨p,9,none⟩=some (.int .i64 ((rd_T56 l0_1 a).f6.f3))∧w'.cell? (ao.add ((b).toNat*4))=some (.int .i64 ((rd_T29 ((rd_T56 l0_1 a).f5) b).f0))∧w'.cell? ⟨(ao.add ((b).toNat*4)).block,(ao.add ((b).toNat*4)).off+1,none⟩=some (.int .i64 ((rd_T29 ((rd_T56 l0_1 a).f5) b).f1))∧w'.cell? ⟨(ao.add ((b).toNat*4)).block,(ao.add ((b).toNat*4)).off+2,none⟩=some (.string ((rd_T29 ((rd_T56 l0_1 a).f5) b).f2))∧w'.cell? ⟨(ao.add ((b).toNat*4)).block,(ao.add ((b).toNat*4)).off+3,none⟩=some (.int .i64 ((rd_T29 ((rd_T56 l0_1 a).f5) b).f3))) (ds:=[]) #[false,false,false,false,false,false,false,false,false,false,false,false,false,false] (by kernel_rfl) rfl rfl ⟨(blk_cell c.out 0).trans rfl,(blk_cell c.out 1).trans rfl,(blk_cell c.out 2).trans rfl,(blk_cell c.out 3).trans rfl,(blk_cell c.out 4).trans rfl,(blk_cell c.out 5).trans rfl,(blk_cell c.out 6).trans rfl,(blk_cell c.out 7).trans rfl,(blk_cell c.out 8).trans rfl,(blk_cell c.out 9).trans rfl,((HB.out.cell (zL w _ aH)).trans aH),((HB.out.cell (zL w _ aG)).trans aG),((HB.out.cell (zL w _ aE)).trans aE),((HB.out.cell (zL w _ aD)).trans aD)⟩ (fun hHeld=>?_);refine with_tabW spec_PairsOf.tab9 spec_PairsOf.bits9 (fun q aa=>?_)
 generalize wr.drew=w49 at x l d c HB bv bw bx bz hHeld ⊢
 refine pure_ (i:=0) (N:=some 36) (v:=?_) (a':=?_) (bN 14 1) rfl rfl (any_of q.out (by kernel_rfl)) (fun _ _ _ h=>h) (Or.inl ⟨by rfl,?_⟩) ?_ ?_
 rotate_left
 ·(
 intro w'
 go_simp
 with_reducible rfl)
 rotate_left
 ·(
 simp only[zP,i64_w,i32_w]
 rfl)
 refine pure_ (i:=1) (N:=some 37) (v:=?_) (a':=?_) (bN 14 3) rfl rfl (any_of q.out (by kernel_rfl)) (fun _ _ _ h=>h) (Or.inl ⟨by rfl,?_⟩) ?_ ?_
 rotate_left
 ·(
 intro w'
 go_simp
 with_reducible rfl)
 rotate_left
 ·(
 simp only[zP,i64_w,i32_w]
 rfl)
 refine pure_ (i:=3) (N:=some 39) (v:=?_) (a':=?_) (bN 14 11) rfl rfl (any_of q.out (by kernel_rfl)) (fun _ _ _ h=>h) (Or.inl ⟨by rfl,?_⟩) ?_ ?_
 rotate_left
 ·(
 intro w'
 go_simp
 with_reducible rfl)
 rotate_left
 ·(
 simp only[zP,i64_w,i32_w]
 rfl)
 refine pure_ (i:=6) (N:=some 42) (v:=?_) (a':=?_) (bN 14 75) rfl rfl (any_of q.out (by kernel_rfl)) (fun _ _ _ h=>h) (Or.inl ⟨by rfl,?_⟩) ?_ ?_
 rotate_left
 ·(
 intro w'
 go_simp
 with_reducible rfl)
 rotate_left
 ·(
 simp only[zP,i64_w,i32_w]
 rfl)
 refine pure_ (i:=8) (N:=some 44) (v:=?_) (a':=?_) (bN 14 331) rfl rfl (any_of q.out (by kernel_rfl)) (fun _ _ _ h=>h) (Or.inl ⟨by rfl,?_⟩) ?_ ?_
 rotate_left
 ·(
 intro w'
 go_simp
 with_reducible rfl)
 rotate_left
 ·(
 simp only[zP,i64_w,i32_w]
 rfl)
 refine take_ (i:=2) (N:=some 38) (v:=?_) (a':=?_) (bN 14 335) rfl rfl (take_ofW q.out aa.out (by kernel_rfl)) (fun _ _ _ h=>h) (Or.inl ⟨by rfl,?_⟩) hHeld ?_ ?_
 rotate_left
 ·(
 rintro w' ⟨s0,s1,s2,s3,s4,s5,s6,s7,s8,s9,ag,ah,ai,aj⟩
 go_simp
 with_reducible rfl)
 rotate_left
 ·(
 simp only[zP,i64_w,i32_w]
 rfl)
 refine pure_ (i:=4) (N:=some 40) (v:=?_) (a':=?_) (bN 14 351) rfl rfl (any_of q.out (by kernel_rfl)) (fun _ _ _ h=>h) (Or.inl ⟨by rfl,?_⟩) ?_ ?_
 rotate_left
 ·(
 intro w'
 go_simp
 with_reducible rfl)
 rotate_left
 ·(
 simp only[zP,i64_w,i32_w]
 rfl)
 refine pure_ (i:=5) (N:=some 41) (v:=?_) (a':=?_) (bN 14 383) rfl rfl (any_of q.out (by kernel_rfl)) (fun _ _ _ h=>h) (Or.inl ⟨by rfl,?_⟩) ?_ ?_
 rotate_left
 ·(
 intro w'
 go_simp
 with_reducible rfl)
 rotate_left
 ·(
 simp only[zP,i64_w,i32_w]
 rfl)
 refine take_ (i:=7) (N:=some 43) (v:=?_) (a':=?_) (bN 14 511) rfl rfl (take_ofW q.out aa.out (by kernel_rfl)) (fun _ _ _ h=>h) (Or.inl ⟨by rfl,?_⟩) hHeld ?_ ?_
 rotate_left
 ·(
 rintro w' ⟨s0,s1,s2,s3,s4,s5,s6,s7,s8,s9,ag,ah,ai,aj⟩
 go_simp
 with_reducible rfl)
 rotate_left
 ·(
 simp only[zP,i64_w,i32_w]
 rfl)
 refine pure_ (i:=9) (N:=some 45) (v:=?_) (a':=?_) (bN 14 1023) rfl rfl (any_of q.out (by kernel_rfl)) (fun _ _ _ h=>h) (Or.inl ⟨by rfl,?_⟩) ?_ ?_
 rotate_left
 ·(
 intro w'
 go_simp
 with_reducible rfl)
 rotate_left
 ·(
 simp only[zP,i64_w,i32_w]
 rfl)
 refine take_ (i:=10) (N:=some 46) (v:=?_) (a':=?_) (bN 14 2047) rfl rfl (take_ofW q.out aa.out (by kernel_rfl)) (fun _ _ _ h=>h) (Or.inl ⟨by rfl,?_⟩) hHeld ?_ ?_
 rotate_left
 ·(
 rintro w' ⟨s0,s1,s2,s3,s4,s5,s6,s7,s8,s9,ag,ah,ai,aj⟩
 go_simp
 with_reducible rfl)
 rotate_left
 ·(
 simp only[zP,i64_w,i32_w]
 rfl)
 refine one_ (i:=11) (N:=some 47) (bN 14 4095) rfl rfl (one_of q.out (by kernel_rfl)) (by decide) (fun K hK=>?_)
 refine Kd.R_lit_step k29 _ 29 ?hg (N:=47) ?hd (xs:=([(⟨2,wrap64 (((rd_T56 l0_1 a).f3)+b),(⟨#[]⟩:ByteArray),0⟩:S29),(⟨(rd_T29 ((rd_T56 l0_1 a).f5) b).f0,(rd_T29 ((rd_T56 l0_1 a).f5) b).f1,(rd_T29 ((rd_T56 l0_1 a).f5) b).f2,(rd_T29 ((rd_T56 l0_1 a).f5) b).f3⟩:S29)]:List (S29))) (inner:=[.int .i64 2,.int .i64 (wrap64 (((rd_T56 l0_1 a).f3)+b)),.string (⟨#[]⟩:ByteArray),.int .i64 0,.int .i64 ((rd_T29 ((rd_T56 l0_1 a).f5) b).f0),.int .i64 ((rd_T29 ((rd_T56 l0_1 a).f5) b).f1),.string ((rd_T29 ((rd_T56 l0_1 a).f5) b).f2),.int .i64 ((rd_T29 ((rd_T56 l0_1 a).f5) b).f3)]) (ok:=fun _=>True) (okp:=fun _=>True) ?hr ?hp (fun _ hk=>hk) trivial (Below.refl _ _) (Nat.le_refl _) (by simp) ?_;(case hd=>rfl);(case hg=>rfl);(case hr=>first|(go_simp;done)|(go_simp;rfl));(case hp=>exact(Reps.c4 (show Kd.M k29 _ _ _ (⟨2,wrap64 (((rd_T56 l0_1 a).f3)+b),(⟨#[]⟩:ByteArray),0⟩:S29) [.int .i64 2,.int .i64 (wrap64 (((rd_T56 l0_1 a).f3)+b)),.string (⟨#[]⟩:ByteArray),.int .i64 0] from(k29_mkM _ _ _ (⟨2,wrap64 (((rd_T56 l0_1 a).f3)+b),(⟨#[]⟩:ByteArray),0⟩:S29))) (Reps.c4 (show Kd.M k29 _ _ _ (⟨(rd_T29 ((rd_T56 l0_1 a).f5) b).f0,(rd_T29 ((rd_T56 l0_1 a).f5) b).f1,(rd_T29 ((rd_T56 l0_1 a).f5) b).f2,(rd_T29 ((rd_T56 l0_1 a).f5) b).f3⟩:S29) [.int .i64 ((rd_T29 ((rd_T56 l0_1 a).f5) b).f0),.int .i64 ((rd_T29 ((rd_T56 l0_1 a).f5) b).f1),.string ((rd_T29 ((rd_T56 l0_1 a).f5) b).f2),.int .i64 ((rd_T29 ((rd_T56 l0_1 a).f5) b).f3)] from(k29_mkM _ _ _ (⟨(rd_T29 ((rd_T56 l0_1 a).f5) b).f0,(rd_T29 ((rd_T56 l0_1 a).f5) b).f1,(rd_T29 ((rd_T56 l0_1 a).f5) b).f2,(rd_T29 ((rd_T56 l0_1 a).f5) b).f3⟩:S29))) (Reps.none _ _))))
 intro eU eV aI hb ak al
 clear ak al
 (first|rw[←cl.out]at aI|(simp only[Int.reduceToNat]at aI;rw[←cl.out]at aI))
 have aJ:=zM (Kd.R_lower (Kd.R_newB (Kd.R_new' aI (Kd.R_lt (sE x.out))) (g:=u) (o:= .cells #[.int .i64 a1_0,.int .i64 a1_1,.string a1_2,.int .i64 a1_3] 29 (0,0)) (sT d.out)) (below_size zzR))
 replace x:=zM (Kd.R_elder' (sE x.out) (Kd.R_base aI) hb)
 replace l:=sK l hb
 replace d:=sK d hb
 replace c:=sK c hb
 replace HB:=sB HB hb
 clear hb aI
 obtain⟨cF,cG,cm⟩:=Kd.R_slice aJ.out
 (first|subst cm|(injection cm with be bR bf;have bS:=be.symm;have bT:=bf.symm;clear be bR bf;subst bS;subst bT))
 refine hK.out _ _ ⟨(blk_cell c.out 0).trans rfl,(blk_cell c.out 1).trans rfl,(blk_cell c.out 2).trans rfl,(blk_cell c.out 3).trans rfl,(blk_cell c.out 4).trans rfl,(blk_cell c.out 5).trans rfl,(blk_cell c.out 6).trans rfl,(blk_cell c.out 7).trans rfl,(blk_cell c.out 8).trans rfl,(blk_cell c.out 9).trans rfl,((HB.out.cell (zL w _ aH)).trans aH),((HB.out.cell (zL w _ aG)).trans aG),((HB.out.cell (zL w _ aE)).trans aE),((HB.out.cell (zL w _ aD)).trans aD)⟩ (fun hHeld=>?_)
 clear hK K
 refine norm_ (a':=?_) ?_ ?_
 rotate_left
 ·(
 show Act.put _ (some 47) _=_
 simp only[zP,i64_w,i32_w]
 rfl)
 refine one_ (i:=12) (N:=some 48) (bN 14 8191) rfl rfl (one_of q.out (by kernel_rfl)) (by decide) (fun K hK=>?_)
 refine Kd.R_append_rows_step k29 (w0:=w) w.heap.size (by rfl) (.tmp 36) (.tmp 47) 43 29 (.agg #[(.int .i64 0),(.int .i64 0),(.string ⟨#[]⟩),(.int .i64 0)]) 40 rfl Try.underlying43 info29 rfl (by decide) (by omega) u5 ab y250 _ _ _ (fun D=>some D≠(.slice cF y250.length cG:Value).ownBlock∧D≠u) (fun _=>False) rfl rfl ?aO ?aR (fun _ _ h=>h) (fun _ h=>h.elim) ?aF ?aB ?aS ?aL ?_
 (case aR=>exact sD ((Kd.R_reads' aJ.out).2.2))
 (case aB=>exact zzR)
 (case aF=>exact(fun D hk=>⟨Kd.fresh' (Kd.R_lt (sE aJ.out)) D hk,Kd.freshB (g:=u) (o:= .cells #[.int .i64 a1_0,.int .i64 a1_1,.string a1_2,.int .i64 a1_3] 29 (0,0)) (sT d.out) D hk⟩))
 (case aO=>exact(by(with_reducible repeat(first|apply Kd.R_alloc|apply Kd.R_drewN|apply Kd.R_drew));exact Kd.R_mono x.out (fun _ hk=>⟨hk.2,hk.1⟩)))
 (case aS=>exact(below_size zzR))
 (case aL=>have:=cC.out;omega)
 intro eW eX ho hb hg hat
 rw[←cD.out]at ho
 have bg:=zM (blk_grown (g:=E) (o:= .cells #[.int .i64 I,.slice (some m) l0_1.length c0_1] 34 (0,0)) (sT l.out) hg (Kd.R_ne x.out l.out (by decide)))
 have bh:=zM (blk_grown (g:=u) (o:= .cells #[.int .i64 a1_0,.int .i64 a1_1,.string a1_2,.int .i64 a1_3] 29 (0,0)) (sT d.out) hg (Kd.R_away x.out (fun _ hk=>hk.1)))
 have bi:=zM (blk_grown (g:=p) (o:= .cells #[.int .i64 ((rd_T56 l0_1 a).f0),.int .i64 ((rd_T56 l0_1 a).f1),.string ((rd_T56 l0_1 a).f2),.int .i64 ((rd_T56 l0_1 a).f3),.slice av ((rd_T56 l0_1 a).f4).length am,.slice (some ao) ((rd_T56 l0_1 a).f5).length an,.int .i64 ((rd_T56 l0_1 a).f6.f0),.int .i64 ((rd_T56 l0_1 a).f6.f1),.string ((rd_T56 l0_1 a).f6.f2),.int .i64 ((rd_T56 l0_1 a).f6.f3)] 56 (0,0)) (sT c.out) hg (Kd.R_ne x.out c.out (by decide)))
 have bj:=zM (Kd.R_after (ok:=(fun D=>D≠u)) (by(with_reducible repeat(first|apply Kd.R_alloc|apply Kd.R_drewN|apply Kd.R_drew));exact Kd.R_mono aJ.out (fun _ hk=>⟨hk.2,hk.1.2⟩)) hg hat)
 have bk:=zM (hb)
 have bl:=zM (ho)
 clear l
 clear d
 clear c
 clear aJ
 clear HB
 clear x
 have l:=bg
 have d:=bh
 have c:=bi
 have aJ:=bj
 have HB:=bk
 have cH:=bl
 clear bg bh bi bj bk bl
 clear ho hb hg hat
 refine hK.out _ _ ⟨(blk_cell c.out 0).trans rfl,(blk_cell c.out 1).trans rfl,(blk_cell c.out 2).trans rfl,(blk_cell c.out 3).trans rfl,(blk_cell c.out 4).trans rfl,(blk_cell c.out 5).trans rfl,(blk_cell c.out 6).trans rfl,(blk_cell c.out 7).trans rfl,(blk_cell c.out 8).trans rfl,(blk_cell c.out 9).trans rfl,((HB.out.cell (zL w _ aH)).trans aH),((HB.out.cell (zL w _ aG)).trans aG),((HB.out.cell (zL w _ aE)).trans aE),((HB.out.cell (zL w _ aD)).trans aD)⟩ (fun hHeld=>?_)
 clear hK K
 refine norm_ (a':=?_) ?_ ?_
 rotate_left
 ·(
 show Act.put _ (some 48) _=_
 simp only[zP,i64_w,i32_w]
 rfl)
 refine pure_ (i:=13) (N:=some 5) (v:=?_) (a':=?_) (bN 14 16383) rfl rfl (any_of q.out (by kernel_rfl)) (fun _ _ _ h=>h) (Or.inl ⟨by rfl,?_⟩) ?_ ?_
 rotate_left
 ·(
 intro w'
 go_simp
 with_reducible rfl)
 rotate_left
 ·(
 simp only[zP,i64_w,i32_w]
 rfl)
 refine done_ (done_of q.out (by kernel_rfl)) ?_
 try go_wp2
 go_roundg k2
 case measure=>have:=bp.out;have:=bs.out;omega
 case rel=>exact⟨(y253),(wrap64 (b+1)),sr,H',⟨by have:=bp.out;have:=bs.out;omega⟩,⟨by(with_reducible repeat(first|apply Kd.R_alloc|apply Kd.R_drewN|apply Kd.R_drew));exact Kd.R_mono cH.out (fun _ hk=>hk.2)⟩,⟨by exact sT l.out⟩,⟨by exact sT d.out⟩,⟨by exact sT c.out⟩,⟨sb⟩⟩)
 rw[if_neg bu]at H
 exact absurd H (by simp))
 rw[if_neg bt]at H
 exact absurd H (by simp))
 rw[if_neg ay]at H
 have c43b0:(((rd_T56 l0_1 a).f1)==1)=false:=zN ay
 have c43b1:(((rd_T56 l0_1 a).f1) !=1)=true:=zX ay
 by_cases bA:0≤b
 ·(
 rw[if_pos bA]at H
 have c54b0:=zT bA
 clear bA
 by_cases bB:b<(((rd_T56 l0_1 a).f4).length:Int)
 ·(
 rw[if_pos bB]at H
 have c55b0:=zT bB
 clear bB
 obtain⟨y258,hy258⟩:∃y_:List (S29),y_=(([(⟨(rd_T29 ((rd_T56 l0_1 a).f4) b).f0,(rd_T29 ((rd_T56 l0_1 a).f4) b).f1,(rd_T29 ((rd_T56 l0_1 a).f4) b).f2,(rd_T29 ((rd_T56 l0_1 a).f4) b).f3⟩:S29),(⟨(rd_T29 ((rd_T56 l0_1 a).f5) b).f0,(rd_T29 ((rd_T56 l0_1 a).f5) b).f1,(rd_T29 ((rd_T56 l0_1 a).f5) b).f2,(rd_T29 ((rd_T56 l0_1 a).f5) b).f3⟩:S29)]:List (S29))):=⟨_,rfl⟩
 replace H:(if ab.length+y258.length<3518437208883 then(spec_PairsOf.l0 k2 (ab++y258) (wrap64 (b+1)) ((rd_T56 l0_1 a).f0) ((rd_T56 l0_1 a).f1) ((rd_T56 l0_1 a).f2) ((rd_T56 l0_1 a).f3) ((rd_T56 l0_1 a).f4) ((rd_T56 l0_1 a).f5) ((rd_T56 l0_1 a).f6.f0) ((rd_T56 l0_1 a).f6.f1) ((rd_T56 l0_1 a).f6.f2) ((rd_T56 l0_1 a).f6.f3))else(none))=some r:=by first|(rw[hy258];with_reducible exact H)|(have B:=(Option.bind_some _ _).symm.trans H;rw[hy258];with_reducible exact B)|(have B:=(Option.bind_some _ _).symm.trans H;with_reducible exact B)|with_reducible exact H|(rw[hy258];exact H)|exact H
 have cn:=zM hy258
 clear hy258
 by_cases bC:ab.length+y258.length<3518437208883
 ·(
 rw[if_pos bC]at H
 have cI:=zM bC
 clear bC
 obtain⟨y261,hy261⟩:∃y_:List (S29),y_=(ab++y258):=⟨_,rfl⟩
 replace H:(spec_PairsOf.l0 k2 y261 (wrap64 (b+1)) ((rd_T56 l0_1 a).f0) ((rd_T56 l0_1 a).f1) ((rd_T56 l0_1 a).f2) ((rd_T56 l0_1 a).f3) ((rd_T56 l0_1 a).f4) ((rd_T56 l0_1 a).f5) ((rd_T56 l0_1 a).f6.f0) ((rd_T56 l0_1 a).f6.f1) ((rd_T56 l0_1 a).f6.f2) ((rd_T56 l0_1 a).f6.f3))=some r:=by first|(rw[hy261];with_reducible exact H)|(have B:=(Option.bind_some _ _).symm.trans H;rw[hy261];with_reducible exact B)|(have B:=(Option.bind_some _ _).symm.trans H;with_reducible exact B)|with_reducible exact H|(rw[hy261];exact H)|exact H
 have cJ:=zM hy261
 clear hy261
 have H':=zM H
 clear H
 have eY:=F.out
 have eZ:=A.out
 have e0:=G.out
 have e1:=y.out
 obtain⟨e2,e3,e4,e5,e6,e7,e8,e9,fa,fb,fc,fd,fe,ff,fg,fh,fi,fj,fk,fl⟩:=cells10 c.out
 try go_wp2
 replace x:=zM (Kd.R_drew x.out)
 replace l:=zM (blk_drew l.out)
 replace d:=zM (blk_drew d.out)
 replace c:=zM (blk_drew c.out)
 replace HB:=zM (below_drew1 HB.out)
 have bU:0≤(b:Int):=zzA
 have bV:b<(((rd_T56 l0_1 a).f4).length:Int):=zzA
 obtain⟨ap,cK,bD,bE,bF,bG⟩:=at_T29 b9.out b bU bV
 have aK:=bG
 have aM:=bF
 have aN:=bE
 have aP:=bD
 cases cK
 replace bD:=sX HB bD
 replace bE:=sX HB bE
 replace bF:=sX HB bF
 replace bG:=sX HB bG
 replace bU:=eq_true bU
 replace bV:=eq_true bV
 have bW:0≤(b:Int):=zzA
 have bX:b<(((rd_T56 l0_1 a).f5).length:Int):=zzA
 obtain⟨aq,cL,bH,bI,bJ,bK⟩:=at_T29 bO.out b bW bX
 have aQ:=bK
 have aT:=bJ
 have aU:=bI
 have aV:=bH
 cases cL
 replace bH:=sX HB bH
 replace bI:=sX HB bI
 replace bJ:=sX HB bJ
 replace bK:=sX HB bK
 replace bW:=eq_true bW
 replace bX:=eq_true bX
 refine start_ (n:=14) (S:=fun w'=>w'.cell? ⟨p,0,none⟩=some (.int .i64 ((rd_T56 l0_1 a).f0))∧w'.cell? ⟨p,1,none⟩=some (.int .i64 ((rd_T56 l0_1 a).f1))∧w'.cell? ⟨p,2,none⟩=some (.string ((rd_T56 l0_1 a).f2))∧w'.cell? ⟨p,3,none⟩=some (.int .i64 ((rd_T56 l0_1 a).f3))∧w'.cell? ⟨p,4,none⟩=some (.slice (some ap) ((rd_T56 l0_1 a).f4).length am)∧w'.cell? ⟨p,5,none⟩=some (.slice (some aq) ((rd_T56 l0_1 a).f5).length an)∧w'.cell? ⟨p,6,none⟩=some (.int .i64 ((rd_T56 l0_1 a).f6.f0))∧w'.cell? ⟨p,7,none⟩=some (.int .i64 ((rd_T56 l0_1 a).f6.f1))∧w'.cell? ⟨p,8,none⟩=some (.string ((rd_T56 l0_1 a).f6.f2))∧w'.cell? ⟨p,9,none⟩=some (.int .i64 ((rd_T56 l0_1 a).f6.f3))∧w'.cell? (ap.add ((b).toNat*4))=some (.int .i64 ((rd_T29 ((rd_T56 l0_1 a).f4) b).f0))∧w'.cell? ⟨(ap.add ((b).toNat*4)).block,(ap.add ((b).toNat*4)).off+1,none⟩=some (.int .i64 ((rd_T29 ((rd_T56 l0_1 a).f4) b).f1))∧w'.cell? ⟨(ap.add ((b).toNat*4)).block,(ap.add ((b).toNat*4)).off+2,none⟩=some (.string ((rd_T29 ((rd_T56 l0_1 a).f4) b).f2))∧w'.cell? ⟨(ap.add ((b).toNat*4)).block,(ap.add ((b).toNat*4)).off+3,none⟩=some (.int .i64 ((rd_T29 ((rd_T56 l0_1 a).f4) b).f3))∧w'.cell? (aq.add ((b).toNat*4))=some (.int .i64 ((rd_T29 ((rd_T56 l0_1 a).f5) b).f0))∧w'.cell? ⟨(aq.add ((b).toNat*4)).block,(aq.add ((b).toNat*4)).off+1,none⟩=some (.int .i64 ((rd_T29 ((rd_T56 l0_1 a).f5) b).f1))∧w'.cell? ⟨(aq.add ((b).toNat*4)).block,(aq.add ((b).toNat*4)).off+2,none⟩=some (.string ((rd_T29 ((rd_T56 l0_1 a).f5) b).f2))∧w'.cell? ⟨(aq.add ((b).toNat*4)).block,(aq.add ((b).toNat*4)).off+3,none⟩=some (.int .i64 ((rd_T29 ((rd_T56 l0_1 a).f5) b).f3))) (ds:=[]) #[false,false,false,false,false,false,false,false,false,false,false,false,false,false] (by kernel_rfl) rfl rfl ⟨(blk_cell c.out 0).trans rfl,(blk_cell c.out 1).trans rfl,(blk_cell c.out 2).trans rfl,(blk_cell c.out 3).trans rfl,(blk_cell c.out 4).trans rfl,(blk_cell c.out 5).trans rfl,(blk_cell c.out 6).trans rfl,(blk_cell c.out 7).trans rfl,(blk_cell c.out 8).trans rfl,(blk_cell c.out 9).trans rfl,((HB.out.cell (zL w _ aP)).trans aP),((HB.out.cell (zL w _ aN)).trans aN),((HB.out.cell (zL w _ aM)).trans aM),((HB.out.cell (zL w _ aK)).trans aK),((HB.out.cell (zL w _ aV)).trans aV),((HB.out.cell (zL w _ aU)).trans aU),((HB.out.cell (zL w _ aT)).trans aT),((HB.out.cell (zL w _ aQ)).trans aQ)⟩ (fun hHeld=>?_);refine with_tabW spec_PairsOf.tab10 spec_PairsOf.bits10 (fun q aa=>?_)
 generalize wr.drew=w60 at x l d c HB bD bE bF bG bH bI bJ bK hHeld ⊢
 refine pure_ (i:=0) (N:=some 49) (v:=?_) (a':=?_) (bN 14 1) rfl rfl (any_of q.out (by kernel_rfl)) (fun _ _ _ h=>h) (Or.inl ⟨by rfl,?_⟩) ?_ ?_
 rotate_left
 ·(
 intro w'
 go_simp
 with_reducible rfl)
 rotate_left
 ·(
 simp only[zP,i64_w,i32_w]
 rfl)
 refine pure_ (i:=1) (N:=some 50) (v:=?_) (a':=?_) (bN 14 3) rfl rfl (any_of q.out (by kernel_rfl)) (fun _ _ _ h=>h) (Or.inl ⟨by rfl,?_⟩) ?_ ?_
 rotate_left
 ·(
 intro w'
 go_simp
 with_reducible rfl)
 rotate_left
 ·(
 simp only[zP,i64_w,i32_w]
 rfl)
 refine pure_ (i:=3) (N:=some 52) (v:=?_) (a':=?_) (bN 14 11) rfl rfl (any_of q.out (by kernel_rfl)) (fun _ _ _ h=>h) (Or.inl ⟨by rfl,?_⟩) ?_ ?_
 rotate_left
 ·(
 intro w'
 go_simp
 with_reducible rfl)
 rotate_left
 ·(
 simp only[zP,i64_w,i32_w]
 rfl)
 refine pure_ (i:=6) (N:=some 55) (v:=?_) (a':=?_) (bN 14 75) rfl rfl (any_of q.out (by kernel_rfl)) (fun _ _ _ h=>h) (Or.inl ⟨by rfl,?_⟩) ?_ ?_
 rotate_left
 ·(
 intro w'
 go_simp
 with_reducible rfl)
 rotate_left
 ·(
 simp only[zP,i64_w,i32_w]
 rfl)
 refine pure_ (i:=8) (N:=some 57) (v:=?_) (a':=?_) (bN 14 331) rfl rfl (any_of q.out (by kernel_rfl)) (fun _ _ _ h=>h) (Or.inl ⟨by rfl,?_⟩) ?_ ?_
 rotate_left
 ·(
 intro w'
 go_simp
 with_reducible rfl)
 rotate_left
 ·(
 simp only[zP,i64_w,i32_w]
 rfl)
 refine take_ (i:=2) (N:=some 51) (v:=?_) (a':=?_) (bN 14 335) rfl rfl (take_ofW q.out aa.out (by kernel_rfl)) (fun _ _ _ h=>h) (Or.inl ⟨by rfl,?_⟩) hHeld ?_ ?_
 rotate_left
 ·(
 rintro w' ⟨s0,s1,s2,s3,s4,s5,s6,s7,s8,s9,ag,ah,ai,aj,aw,ax,bY,bZ⟩
 go_simp
 with_reducible rfl)
 rotate_left
 ·(
 simp only[zP,i64_w,i32_w]
 rfl)
 refine pure_ (i:=4) (N:=some 53) (v:=?_) (a':=?_) (bN 14 351) rfl rfl (any_of q.out (by kernel_rfl)) (fun _ _ _ h=>h) (Or.inl ⟨by rfl,?_⟩) ?_ ?_
 rotate_left
 ·(
 intro w'
 go_simp
 with_reducible rfl)
 rotate_left
 ·(
 simp only[zP,i64_w,i32_w]
 rfl)
 refine take_ (i:=5) (N:=some 54) (v:=?_) (a':=?_) (bN 14 383) rfl rfl (take_ofW q.out aa.out (by kernel_rfl)) (fun _ _ _ h=>h) (Or.inl ⟨by rfl,?_⟩) hHeld ?_ ?_
 rotate_left
 ·(
 rintro w' ⟨s0,s1,s2,s3,s4,s5,s6,s7,s8,s9,ag,ah,ai,aj,aw,ax,bY,bZ⟩
 go_simp
 with_reducible rfl)
 rotate_left
 ·(
 simp only[zP,i64_w,i32_w]
 rfl)
 refine take_ (i:=7) (N:=some 56) (v:=?_) (a':=?_) (bN 14 511) rfl rfl (take_ofW q.out aa.out (by kernel_rfl)) (fun _ _ _ h=>h) (Or.inl ⟨by rfl,?_⟩) hHeld ?_ ?_
 rotate_left
 ·(
 rintro w' ⟨s0,s1,s2,s3,s4,s5,s6,s7,s8,s9,ag,ah,ai,aj,aw,ax,bY,bZ⟩
 go_simp
 with_reducible rfl)
 rotate_left
 ·(
 simp only[zP,i64_w,i32_w]
 rfl)
 refine pure_ (i:=9) (N:=some 58) (v:=?_) (a':=?_) (bN 14 1023) rfl rfl (any_of q.out (by kernel_rfl)) (fun _ _ _ h=>h) (Or.inl ⟨by rfl,?_⟩) ?_ ?_
 rotate_left
 ·(
 intro w'
 go_simp
 with_reducible rfl)
 rotate_left
 ·(
 simp only[zP,i64_w,i32_w]
 rfl)
 refine take_ (i:=10) (N:=some 59) (v:=?_) (a':=?_) (bN 14 2047) rfl rfl (take_ofW q.out aa.out (by kernel_rfl)) (fun _ _ _ h=>h) (Or.inl ⟨by rfl,?_⟩) hHeld ?_ ?_
 rotate_left
 ·(
 rintro w' ⟨s0,s1,s2,s3,s4,s5,s6,s7,s8,s9,ag,ah,ai,aj,aw,ax,bY,bZ⟩
 go_simp
 with_reducible rfl)
 rotate_left
 ·(
 simp only[zP,i64_w,i32_w]
 rfl)
 refine one_ (i:=11) (N:=some 60) (bN 14 4095) rfl rfl (one_of q.out (by kernel_rfl)) (by decide) (fun K hK=>?_)
 refine Kd.R_lit_step k29 _ 29 ?hg (N:=60) ?hd (xs:=([(⟨(rd_T29 ((rd_T56 l0_1 a).f4) b).f0,(rd_T29 ((rd_T56 l0_1 a).f4) b).f1,(rd_T29 ((rd_T56 l0_1 a).f4) b).f2,(rd_T29 ((rd_T56 l0_1 a).f4) b).f3⟩:S29),(⟨(rd_T29 ((rd_T56 l0_1 a).f5) b).f0,(rd_T29 ((rd_T56 l0_1 a).f5) b).f1,(rd_T29 ((rd_T56 l0_1 a).f5) b).f2,(rd_T29 ((rd_T56 l0_1 a).f5) b).f3⟩:S29)]:List (S29))) (inner:=[.int .i64 ((rd_T29 ((rd_T56 l0_1 a).f4) b).f0),.int .i64 ((rd_T29 ((rd_T56 l0_1 a).f4) b).f1),.string ((rd_T29 ((rd_T56 l0_1 a).f4) b).f2),.int .i64 ((rd_T29 ((rd_T56 l0_1 a).f4) b).f3),.int .i64 ((rd_T29 ((rd_T56 l0_1 a).f5) b).f0),.int .i64 ((rd_T29 ((rd_T56 l0_1 a).f5) b).f1),.string ((rd_T29 ((rd_T56 l0_1 a).f5) b).f2),.int .i64 ((rd_T29 ((rd_T56 l0_1 a).f5) b).f3)]) (ok:=fun _=>True) (okp:=fun _=>True) ?hr ?hp (fun _ hk=>hk) trivial (Below.refl _ _) (Nat.le_refl _) (by simp) ?_;(case hd=>rfl);(case hg=>rfl);(case hr=>first|(go_simp;done)|(go_simp;rfl));(case hp=>exact(Reps.c4 (show Kd.M k29 _ _ _ (⟨(rd_T29 ((rd_T56 l0_1 a).f4) b).f0,(rd_T29 ((rd_T56 l0_1 a).f4) b).f1,(rd_T29 ((rd_T56 l0_1 a).f4) b).f2,(rd_T29 ((rd_T56 l0_1 a).f4) b).f3⟩:S29) [.int .i64 ((rd_T29 ((rd_T56 l0_1 a).f4) b).f0),.int .i64 ((rd_T29 ((rd_T56 l0_1 a).f4) b).f1),.string ((rd_T29 ((rd_T56 l0_1 a).f4) b).f2),.int .i64 ((rd_T29 ((rd_T56 l0_1 a).f4) b).f3)] from(k29_mkM _ _ _ (⟨(rd_T29 ((rd_T56 l0_1 a).f4) b).f0,(rd_T29 ((rd_T56 l0_1 a).f4) b).f1,(rd_T29 ((rd_T56 l0_1 a).f4) b).f2,(rd_T29 ((rd_T56 l0_1 a).f4) b).f3⟩:S29))) (Reps.c4 (show Kd.M k29 _ _ _ (⟨(rd_T29 ((rd_T56 l0_1 a).f5) b).f0,(rd_T29 ((rd_T56 l0_1 a).f5) b).f1,(rd_T29 ((rd_T56 l0_1 a).f5) b).f2,(rd_T29 ((rd_T56 l0_1 a).f5) b).f3⟩:S29) [.int .i64 ((rd_T29 ((rd_T56 l0_1 a).f5) b).f0),.int .i64 ((rd_T29 ((rd_T56 l0_1 a).f5) b).f1),.string ((rd_T29 ((rd_T56 l0_1 a).f5) b).f2),.int .i64 ((rd_T29 ((rd_T56 l0_1 a).f5) b).f3)] from(k29_mkM _ _ _ (⟨(rd_T29 ((rd_T56 l0_1 a).f5) b).f0,(rd_T29 ((rd_T56 l0_1 a).f5) b).f1,(rd_T29 ((rd_T56 l0_1 a).f5) b).f2,(rd_T29 ((rd_T56 l0_1 a).f5) b).f3⟩:S29))) (Reps.none _ _))))
 intro fm fn aW hb ak al
 clear ak al
 (first|rw[←cn.out]at aW|(simp only[Int.reduceToNat]at aW;rw[←cn.out]at aW))
 have aX:=zM (Kd.R_lower (Kd.R_newB (Kd.R_new' aW (Kd.R_lt (sE x.out))) (g:=u) (o:= .cells #[.int .i64 a1_0,.int .i64 a1_1,.string a1_2,.int .i64 a1_3] 29 (0,0)) (sT d.out)) (below_size zzR))
 replace x:=zM (Kd.R_elder' (sE x.out) (Kd.R_base aW) hb)
 replace l:=sK l hb
 replace d:=sK d hb
 replace c:=sK c hb
 replace HB:=sB HB hb
 clear hb aW
 obtain⟨cM,cN,co⟩:=Kd.R_slice aX.out
 (first|subst co|(injection co with be bR bf;have bS:=be.symm;have bT:=bf.symm;clear be bR bf;subst bS;subst bT))
 refine hK.out _ _ ⟨(blk_cell c.out 0).trans rfl,(blk_cell c.out 1).trans rfl,(blk_cell c.out 2).trans rfl,(blk_cell c.out 3).trans rfl,(blk_cell c.out 4).trans rfl,(blk_cell c.out 5).trans rfl,(blk_cell c.out 6).trans rfl,(blk_cell c.out 7).trans rfl,(blk_cell c.out 8).trans rfl,(blk_cell c.out 9).trans rfl,((HB.out.cell (zL w _ aP)).trans aP),((HB.out.cell (zL w _ aN)).trans aN),((HB.out.cell (zL w _ aM)).trans aM),((HB.out.cell (zL w _ aK)).trans aK),((HB.out.cell (zL w _ aV)).trans aV),((HB.out.cell (zL w _ aU)).trans aU),((HB.out.cell (zL w _ aT)).trans aT),((HB.out.cell (zL w _ aQ)).trans aQ)⟩ (fun hHeld=>?_)
 clear hK K
 refine norm_ (a':=?_) ?_ ?_
 rotate_left
 ·(
 show Act.put _ (some 60) _=_
 simp only[zP,i64_w,i32_w]
 rfl)
 refine one_ (i:=12) (N:=some 61) (bN 14 8191) rfl rfl (one_of q.out (by kernel_rfl)) (by decide) (fun K hK=>?_)
 refine Kd.R_append_rows_step k29 (w0:=w) w.heap.size (by rfl) (.tmp 49) (.tmp 60) 43 29 (.agg #[(.int .i64 0),(.int .i64 0),(.string ⟨#[]⟩),(.int .i64 0)]) 40 rfl Try.underlying43 info29 rfl (by decide) (by omega) u5 ab y258 _ _ _ (fun D=>some D≠(.slice cM y258.length cN:Value).ownBlock∧D≠u) (fun _=>False) rfl rfl ?aO ?aR (fun _ _ h=>h) (fun _ h=>h.elim) ?aF ?aB ?aS ?aL ?_
 (case aR=>exact sD ((Kd.R_reads' aX.out).2.2))
 (case aB=>exact zzR)
 (case aF=>exact(fun D hk=>⟨Kd.fresh' (Kd.R_lt (sE aX.out)) D hk,Kd.freshB (g:=u) (o:= .cells #[.int .i64 a1_0,.int .i64 a1_1,.string a1_2,.int .i64 a1_3] 29 (0,0)) (sT d.out) D hk⟩))
 (case aO=>exact(by(with_reducible repeat(first|apply Kd.R_alloc|apply Kd.R_drewN|apply Kd.R_drew));exact Kd.R_mono x.out (fun _ hk=>⟨hk.2,hk.1⟩)))
 (case aS=>exact(below_size zzR))
 (case aL=>have:=cI.out;omega)
 intro fo fp ho hb hg hat
 rw[←cJ.out]at ho
 have bg:=zM (blk_grown (g:=E) (o:= .cells #[.int .i64 I,.slice (some m) l0_1.length c0_1] 34 (0,0)) (sT l.out) hg (Kd.R_ne x.out l.out (by decide)))
 have bh:=zM (blk_grown (g:=u) (o:= .cells #[.int .i64 a1_0,.int .i64 a1_1,.string a1_2,.int .i64 a1_3] 29 (0,0)) (sT d.out) hg (Kd.R_away x.out (fun _ hk=>hk.1)))
 have bi:=zM (blk_grown (g:=p) (o:= .cells #[.int .i64 ((rd_T56 l0_1 a).f0),.int .i64 ((rd_T56 l0_1 a).f1),.string ((rd_T56 l0_1 a).f2),.int .i64 ((rd_T56 l0_1 a).f3),.slice (some ap) ((rd_T56 l0_1 a).f4).length am,.slice (some aq) ((rd_T56 l0_1 a).f5).length an,.int .i64 ((rd_T56 l0_1 a).f6.f0),.int .i64 ((rd_T56 l0_1 a).f6.f1),.string ((rd_T56 l0_1 a).f6.f2),.int .i64 ((rd_T56 l0_1 a).f6.f3)] 56 (0,0)) (sT c.out) hg (Kd.R_ne x.out c.out (by decide)))
 have bj:=zM (Kd.R_after (ok:=(fun D=>D≠u)) (by(with_reducible repeat(first|apply Kd.R_alloc|apply Kd.R_drewN|apply Kd.R_drew));exact Kd.R_mono aX.out (fun _ hk=>⟨hk.2,hk.1.2⟩)) hg hat)
 have bk:=zM (hb)
 have bl:=zM (ho)
 clear l
 clear d
 clear c
 clear aX
 clear HB
 clear x
 have l:=bg
 have d:=bh
 have c:=bi
 have aX:=bj
 have HB:=bk
 have cO:=bl
 clear bg bh bi bj bk bl
 clear ho hb hg hat
 refine hK.out _ _ ⟨(blk_cell c.out 0).trans rfl,(blk_cell c.out 1).trans rfl,(blk_cell c.out 2).trans rfl,(blk_cell c.out 3).trans rfl,(blk_cell c.out 4).trans rfl,(blk_cell c.out 5).trans rfl,(blk_cell c.out 6).trans rfl,(blk_cell c.out 7).trans rfl,(blk_cell c.out 8).trans rfl,(blk_cell c.out 9).trans rfl,((HB.out.cell (zL w _ aP)).trans aP),((HB.out.cell (zL w _ aN)).trans aN),((HB.out.cell (zL w _ aM)).trans aM),((HB.out.cell (zL w _ aK)).trans aK),((HB.out.cell (zL w _ aV)).trans aV),((HB.out.cell (zL w _ aU)).trans aU),((HB.out.cell (zL w _ aT)).trans aT),((HB.out.cell (zL w _ aQ)).trans aQ)⟩ (fun hHeld=>?_)
 clear hK K
 refine norm_ (a':=?_) ?_ ?_
 rotate_left
 ·(
 show Act.put _ (some 61) _=_
 simp only[zP,i64_w,i32_w]
 rfl)
 refine pure_ (i:=13) (N:=some 5) (v:=?_) (a':=?_) (bN 14 16383) rfl rfl (any_of q.out (by kernel_rfl)) (fun _ _ _ h=>h) (Or.inl ⟨by rfl,?_⟩) ?_ ?_
 rotate_left
 ·(
 intro w'
 go_simp
 with_reducible rfl)
 rotate_left
 ·(
 simp only[zP,i64_w,i32_w]
 rfl)
 refine done_ (done_of q.out (by kernel_rfl)) ?_
 try go_wp2
 go_roundg k2
 case measure=>have:=bp.out;have:=bs.out;omega
 case rel=>exact⟨(y261),(wrap64 (b+1)),sr,H',⟨by have:=bp.out;have:=bs.out;omega⟩,⟨by(with_reducible repeat(first|apply Kd.R_alloc|apply Kd.R_drewN|apply Kd.R_drew));exact Kd.R_mono cO.out (fun _ hk=>hk.2)⟩,⟨by exact sT l.out⟩,⟨by exact sT d.out⟩,⟨by exact sT c.out⟩,⟨sb⟩⟩)
 rw[if_neg bC]at H
 exact absurd H (by simp))
 rw[if_neg bB]at H
 exact absurd H (by simp))
 rw[if_neg bA]at H
 exact absurd H (by simp))
 rw[if_neg aC]at H
 have c42b0:=zF aC
 clear aC
 obtain rfl:=zI H
 have fq:=F.out
 have fr:=A.out
 have fs:=G.out
 have ft:=y.out
 obtain⟨fu,fv,fw,fx,fy,fz,fA,fB,fC,fD,fE,fF,fG,fH,fI,fJ,fK,fL,fM,fN⟩:=cells10 c.out
 go_wp2
 go_ret
 exact⟨_,sq,by(with_reducible repeat(first|apply Kd.R_alloc|apply Kd.R_drewN|apply Kd.R_drew));exact Kd.R_mono x.out (fun _ hk=>trivial),sb⟩)))
 rw[if_neg a2]at H
 exact absurd H (by simp))
 rw[if_neg a1]at H
 exact absurd H (by simp)))
end Go.Proofs.Ytengilknjiobiaa.PFnExactPairsOf
