/- Printed functions: spec_GetElement. -/
import Derived.Test.YtengilknjiobiaaYGeP0
import Derived.Test.YtengilknjiobiaaYGeP9
import Derived.Test.YtengilknjiobiaaYGeP12
import Derived.Test.YtengilknjiobiaaYGeP13
import Derived.Test.YtengilknjiobiaaYGeP14
namespace Go.Proofs.Ytengilknjiobiaa.PFnExactGetElement
open Go.RowKit Go.Proofs.YtengilknjiobiaaG Go.Proofs.YtengilknjiobiaaW.PrintWords Go.Proofs.YtengilknjiobiaaW.PrintLast Go.Proofs.YtengilknjiobiaaW.PrintMore
attribute [local go_sem] max2_int min2_int max_two min_two max_three min_three max_four min_four
set_option linter.unusedVariables false
set_option linter.unusedSimpArgs false
mutual
def spec_GetElement.j0 : Nat → Bool → Int → List (S56) → Int → Int → ByteArray → Int → Int → Int → ByteArray → Int → Option (Int × Int × ByteArray × Int × Bool × Int)
 |0,_,_,_,_,_,_,_,_,_,_,_=>none
 |k+1,x15,x249000,x249001,x250000,x250001,x250002,x250003,x251000,x251001,x251002,x251003=>if x15=true then(some (0,0,(⟨#[]⟩:ByteArray),0,false,1))else((spec_l09Indexed.f x250000 x250001 x250002 x250003).bind fun t256=>(spec_GetElement.j1 k (!t256) x249000 x249001 x250000 x250001 x250002 x250003 x251000 x251001 x251002 x251003))
def spec_GetElement.j1 : Nat → Bool → Int → List (S56) → Int → Int → ByteArray → Int → Int → Int → ByteArray → Int → Option (Int × Int × ByteArray × Int × Bool × Int)
 |0,_,_,_,_,_,_,_,_,_,_,_=>none
 |k+1,x19,x249000,x249001,x250000,x250001,x250002,x250003,x251000,x251001,x251002,x251003=>if x19=true then(some (0,0,(⟨#[]⟩:ByteArray),0,false,4))else((spec_l07Find.f k [(⟨x249000,x249001⟩:S34)] x250003).bind fun t257=>(if 0≤t257 then(if t257<(x249001.length:Int)then((spec_l09At.f k [(⟨(rd_T56 x249001 t257).f0,(rd_T56 x249001 t257).f1,(rd_T56 x249001 t257).f2,(rd_T56 x249001 t257).f3,(rd_T56 x249001 t257).f4,(rd_T56 x249001 t257).f5,(⟨(rd_T56 x249001 t257).f6.f0,(rd_T56 x249001 t257).f6.f1,(rd_T56 x249001 t257).f6.f2,(rd_T56 x249001 t257).f6.f3⟩:S29)⟩:S56)] x251000 x251001 x251002 x251003).bind fun t260=>(spec_GetElement.j2 k t260 ((rd_T56 x249001 t257).f0) ((rd_T56 x249001 t257).f1) ((rd_T56 x249001 t257).f2) ((rd_T56 x249001 t257).f3) ((rd_T56 x249001 t257).f4) ((rd_T56 x249001 t257).f5) ((rd_T56 x249001 t257).f6.f0) ((rd_T56 x249001 t257).f6.f1) ((rd_T56 x249001 t257).f6.f2) ((rd_T56 x249001 t257).f6.f3)))else(none))else(none)))
def spec_GetElement.j2 : Nat → Int → Int → Int → ByteArray → Int → List (S29) → List (S29) → Int → Int → ByteArray → Int → Option (Int × Int × ByteArray × Int × Bool × Int)
 |0,_,_,_,_,_,_,_,_,_,_,_=>none
 |k+1,x10,x260000,x260001,x260002,x260003,x260004,x260005,x260006,x260007,x260008,x260009=>if x10≥0 then(if 0≤x10 then(if x10<(x260005.length:Int)then(some ((rd_T29 x260005 x10).f0,(rd_T29 x260005 x10).f1,(rd_T29 x260005 x10).f2,(rd_T29 x260005 x10).f3,true,0))else(none))else(none))else(if x260001=2 then(some (x260006,x260007,x260008,x260009,true,0))else(some (0,0,(⟨#[]⟩:ByteArray),0,false,0)))
end
def spec_GetElement.f (k:Nat) (a0_0:Int) (l0_1:List (S56)) (a1_0:Int) (a1_1:Int) (a1_2:ByteArray) (a1_3:Int) (a2_0:Int) (a2_1:Int) (a2_2:ByteArray) (a2_3:Int):Option (Int×Int×ByteArray×Int×Bool×Int):=(spec_l09Fit.f k [(⟨a0_0,l0_1⟩:S34)] (([(⟨a1_0,a1_1,a1_2,a1_3⟩:S29),(⟨a2_0,a2_1,a2_2,a2_3⟩:S29)]:List (S29)))).bind fun t255=>(spec_GetElement.j0 k (!t255) a0_0 l0_1 a1_0 a1_1 a1_2 a1_3 a2_0 a2_1 a2_2 a2_3)
def spec_GetElement.T5:Bool×List (List Nat×List Nat):=(true,[([],[]),([0],[0]),([],[]),([2],[2]),([3],[3]),([1,4],[1,4]),([5],[5]),([],[]),([7,6,4,0,1,2,3,4,5,6,7],[6,7])])
def spec_GetElement.B5:List Nat:=[0,1,0,4,12,31,63,0,255]
theorem spec_GetElement.tab5:rtab .any (opsOf Try.f17 5)=spec_GetElement.T5:=by kernel_rfl
theorem spec_GetElement.bits5:waitsOk spec_GetElement.T5.2 spec_GetElement.B5=true:=by kernel_rfl
set_option maxHeartbeats 8000000 in
set_option maxRecDepth 100000 in
theorem spec_GetElement.calls (k:Nat) (a0_0:Int) (A0_1:Option Addr) (c0_1:Nat) (l0_1:List (S56)) (a1_0:Int) (a1_1:Int) (a1_2:ByteArray) (a1_3:Int) (a2_0:Int) (a2_1:Int) (a2_2:ByteArray) (a2_3:Int) (r1:Int) (r2:Int) (r3:ByteArray) (r4:Int) (r5:Bool) (r6:Int) (w:World) (hr0_1:Kd.C k56 w A0_1 l0_1.length l0_1) (hc0_1:l0_1.length≤c0_1) (h:spec_GetElement.f k a0_0 l0_1 a1_0 a1_1 a1_2 a1_3 a2_0 a2_1 a2_2 a2_3=some (r1,r2,r3,r4,r5,r6)):
  Calls Try.prog 17 #[.agg #[.int .i64 a0_0,.slice A0_1 l0_1.length c0_1],.agg #[.int .i64 a1_0,.int .i64 a1_1,.string a1_2,.int .i64 a1_3],.agg #[.int .i64 a2_0,.int .i64 a2_1,.string a2_2,.int .i64 a2_3]] w fun e w'=>e= .returned (.tuple #[.agg #[.int .i64 r1,.int .i64 r2,.string r3,.int .i64 r4],.bool r5,.int .i64 r6])∧Below w.heap.size w w':=by
 have ce:=Try.underlying34
 have cf:=Try.underlying29
 have cg:=Try.underlying56
 have aM:=zM hr0_1
 have aY:=zM hc0_1
 clear hr0_1 hc0_1
 have HB:=zM (Below.refl w.heap.size w)
 have H:((spec_l09Fit.f k [(⟨a0_0,l0_1⟩:S34)] (([(⟨a1_0,a1_1,a1_2,a1_3⟩:S29),(⟨a2_0,a2_1,a2_2,a2_3⟩:S29)]:List (S29)))).bind fun ai=>(spec_GetElement.j0 k (!ai) a0_0 l0_1 a1_0 a1_1 a1_2 a1_3 a2_0 a2_1 a2_2 a2_3))=some (r1,r2,r3,r4,r5,r6):=h
 clear h
 have aZ:=zM H
 clear H
 go_enter Try.func17,Try.ntmps17
 go_upto_region 1 with(first|((with_reducible refine gate_dst (N:=3) rfl ?_);refine sV (N:=3) (cs:= #[.int .i64 a0_0,.slice A0_1 l0_1.length c0_1]) (t:=34) ?_;intro B hg w5 hbox hb;have d:=zM (hbox);have ch:=sG HB hg;have ap:=sG HB hg;replace HB:=sB HB hb;clear hb hbox hg)|((with_reducible refine gate_dst (N:=4) rfl ?_);refine sV (N:=4) (cs:= #[.int .i64 a1_0,.int .i64 a1_1,.string a1_2,.int .i64 a1_3]) (t:=29) ?_;intro A hg w6 hbox hb;have c:=zM (hbox);have ci:=sG HB hg;have aq:=sG HB hg;replace HB:=sB HB hb;have bh:=sN d hg;have bi:=sM d hg;replace d:=sK d hb;clear hb hbox hg)|((with_reducible refine gate_dst (N:=5) rfl ?_);refine sV (N:=5) (cs:= #[.int .i64 a2_0,.int .i64 a2_1,.string a2_2,.int .i64 a2_3]) (t:=29) ?_;intro aa hg w7 hbox hb;have q:=zM (hbox);have cj:=sG HB hg;have ar:=sG HB hg;replace HB:=sB HB hb;have bj:=sN d hg;have bk:=sM d hg;replace d:=sK d hb;have a0:=sN c hg;have a1:=sM c hg;replace c:=sK c hb;clear hb hbox hg)|((with_reducible refine gate_dst (N:=6) rfl ?_);refine sV (N:=6) (cs:= #[.int .i64 0,.int .i64 0,.string (⟨#[]⟩:ByteArray),.int .i64 0]) (t:=29) ?_;intro I hg w8 hbox hb;have p:=zM (hbox);have ck:=sG HB hg;have au:=sG HB hg;replace HB:=sB HB hb;have av:=sN d hg;have aw:=sM d hg;replace d:=sK d hb;have ad:=sN c hg;have ae:=sM c hg;replace c:=sK c hb;have af:=sN q hg;have ag:=sM q hg;replace q:=sK q hb;clear hb hbox hg))
 (try simp only[zP])
 go_cut [15] (fun bX wc=>∃(kq:Nat) (aN:Bool) (J:Int),bX= .bool aN∧Aside0 (spec_GetElement.j0 kq aN J l0_1 a1_0 a1_1 a1_2 a1_3 a2_0 a2_1 a2_2 a2_3=some (r1,r2,r3,r4,r5,r6))∧Aside0 (kq≤k)∧Aside0 (wc.heap[B]?=some (.cells #[.int .i64 J,(.slice A0_1 l0_1.length c0_1)] 34 (0,0)))∧Aside0 (wc.heap[A]?=some (.cells #[.int .i64 a1_0,.int .i64 a1_1,.string a1_2,.int .i64 a1_3] 29 (0,0)))∧Aside0 (wc.heap[aa]?=some (.cells #[.int .i64 a2_0,.int .i64 a2_1,.string a2_2,.int .i64 a2_3] 29 (0,0)))∧Aside0 (wc.heap[I]?=some (.cells #[.int .i64 0,.int .i64 0,.string (⟨#[]⟩:ByteArray),.int .i64 0] 29 (0,0)))∧Aside0 (Below w.heap.size w wc))
 case first=>(
 have H:=aZ.out
 clear aZ
 obtain⟨y252,hy252⟩:∃y_:List (S29),y_=(([(⟨a1_0,a1_1,a1_2,a1_3⟩:S29),(⟨a2_0,a2_1,a2_2,a2_3⟩:S29)]:List (S29))):=⟨_,rfl⟩
 replace H:((spec_l09Fit.f k [(⟨a0_0,l0_1⟩:S34)] y252).bind fun ai=>(spec_GetElement.j0 k (!ai) a0_0 l0_1 a1_0 a1_1 a1_2 a1_3 a2_0 a2_1 a2_2 a2_3))=some (r1,r2,r3,r4,r5,r6):=by first|(rw[hy252];with_reducible exact H)|(have a2:=(Option.bind_some _ _).symm.trans H;rw[hy252];with_reducible exact a2)|(have a2:=(Option.bind_some _ _).symm.trans H;with_reducible exact a2)|with_reducible exact H|(rw[hy252];exact H)|exact H
 have bl:=zM hy252
 clear hy252
 obtain⟨ai,A9,H⟩:=sO H
 have H':=zM H
 clear H
 have cl:=bi.out
 have cm:=bh.out
 have cn:=a0.out
 have co:=a1.out
 have cp:=ad.out
 have cq:=ae.out
 obtain⟨cr,ct,cu,cv,cw,cx,cy,cz⟩:=cells4 c.out
 have cA:=bk.out
 have cB:=bj.out
 have cC:=af.out
 have cD:=ag.out
 obtain⟨cE,cF,cG,cH,cI,cJ,cK,cL⟩:=cells4 q.out
 go_wp2_with (first|((with_reducible refine gate_dst (N:=13) rfl ?_);refine Kd.R_lit k29 _ 29 ?hg (N:=13) ?hd (xs:=([(⟨a1_0,a1_1,a1_2,a1_3⟩:S29),(⟨a2_0,a2_1,a2_2,a2_3⟩:S29)]:List (S29))) (inner:=[.int .i64 a1_0,.int .i64 a1_1,.string a1_2,.int .i64 a1_3,.int .i64 a2_0,.int .i64 a2_1,.string a2_2,.int .i64 a2_3]) (ok:=fun _=>True) (okp:=fun _=>True) ?hr ?hp (fun _ hk=>hk) trivial (Below.refl _ _) (Nat.le_refl _) (by simp) ?_;(case hd=>rfl);(case hg=>rfl);(case hr=>first|(go_simp;done)|(go_simp;rfl));(case hp=>exact(Reps.c4 (show Kd.M k29 _ _ _ (⟨a1_0,a1_1,a1_2,a1_3⟩:S29) [.int .i64 a1_0,.int .i64 a1_1,.string a1_2,.int .i64 a1_3] from(k29_mkM _ _ _ (⟨a1_0,a1_1,a1_2,a1_3⟩:S29))) (Reps.c4 (show Kd.M k29 _ _ _ (⟨a2_0,a2_1,a2_2,a2_3⟩:S29) [.int .i64 a2_0,.int .i64 a2_1,.string a2_2,.int .i64 a2_3] from(k29_mkM _ _ _ (⟨a2_0,a2_1,a2_2,a2_3⟩:S29))) (Reps.none _ _))));intro cM cN ax hb bY bZ;clear bY bZ;(first|rw[←bl.out]at ax|(simp only[Int.reduceToNat]at ax;rw[←bl.out]at ax));have ay:=zM (Kd.R_lower (Kd.R_newB (Kd.R_newB (Kd.R_newB ax (g:=A) (o:= .cells #[.int .i64 a1_0,.int .i64 a1_1,.string a1_2,.int .i64 a1_3] 29 (0,0)) (sT c.out)) (g:=aa) (o:= .cells #[.int .i64 a2_0,.int .i64 a2_1,.string a2_2,.int .i64 a2_3] 29 (0,0)) (sT q.out)) (g:=I) (o:= .cells #[.int .i64 0,.int .i64 0,.string (⟨#[]⟩:ByteArray),.int .i64 0] 29 (0,0)) (sT p.out)) (below_size (by repeat(first|(with_reducible first|exact HB.out|apply below_alloc|apply pw_below_drewN|apply below_drew1|refine below_set ?_ ap.out|refine below_set ?_ aq.out|refine below_set ?_ ar.out|refine below_set ?_ au.out)|exact HB.out))));replace d:=sK d hb;replace c:=sK c hb;replace q:=sK q hb;replace p:=sK p hb;replace HB:=sB HB hb;clear hb ax;obtain⟨b0,b1,b2⟩:=Kd.R_slice ay.out;subst b2)|((with_reducible refine gate_callee (f:=41) rfl ?_);refine sC (some 14) Try.func41 #[.pointer (some ⟨B,0,none⟩),.slice b0 y252.length b1] (spec_l09Fit.calls k _ [(⟨a0_0,l0_1⟩:S34)] _ _ y252 ai _ ?side1 ?side2 ?side3 A9.out) ?_;(case side1=>exact C_box (t:=34) (sT d.out) (k34_mk _ (⟨a0_0,l0_1⟩:S34) (by exact aY.out) (by exact sD (zC aM.out HB.out))));(case side2=>exact sD ((Kd.R_reads' ay.out).2.2));(case side3=>exact(Kd.R_reads' ay.out).2.1);rintro e cO ⟨rfl,hb⟩;refine⟨_,rfl,?_⟩;replace ay:=zM (Kd.R_below (sE ay.out) hb);replace d:=sK d hb;replace c:=sK c hb;replace q:=sK q hb;replace p:=sK p hb;replace HB:=sB HB hb;(try clear hb);(try clear hk)))
 go_meet
 case rel=>exact⟨_,(!ai),(a0_0),sr,H',⟨by first|omega|exact Nat.le_refl _⟩,⟨by exact sT d.out⟩,⟨by exact sT c.out⟩,⟨by exact sT q.out⟩,⟨by exact sT p.out⟩,⟨sb⟩⟩)
 case rest=>(
 clear aZ
 obtain⟨kq,aN,J,rfl,HA,bm,d,c,q,p,HB⟩:=hcut
 cases kq with
 |zero=>exact absurd HA.out (by simp[spec_GetElement.j0])
 |succ kj3=>(
 have H:=HA.out
 clear HA
 simp only[spec_GetElement.j0]at H
 by_cases aj:aN=true
 ·(
 subst aj
 rewrite[if_pos rfl]at H
 simp only[Option.some.injEq,Prod.mk.injEq]at H
 obtain⟨rfl,rfl,rfl,rfl,rfl,rfl⟩:=H
 have cP:=aw.out
 have cQ:=av.out
 have cR:=ae.out
 have cS:=ad.out
 have cT:=ag.out
 have cU:=af.out
 obtain⟨cV,cW,cX,cY,cZ,c0,c1,c2⟩:=cells4 p.out
 go_wp2
 refine bodyPost_ret (results_ctt rfl _ _ I 29 #[.int .i64 0,.int .i64 0,.string (⟨#[]⟩:ByteArray),.int .i64 0] (0,0) _ rfl (by exact sP4 (sT p.out)) Try.underlying29 rfl (by kernel_rfl)) rfl ?_
 exact⟨sq,sb⟩)
 replace aj:=zB aj
 subst aj
 rewrite[if_neg zQ]at H
 have a3:=zM H
 clear H
 go_upto_region 3 with(fail)
 go_cut [19] (fun b3 wc=>∃(kq:Nat) (aO:Bool),b3= .bool aO∧Aside0 (spec_GetElement.j1 kq aO J l0_1 a1_0 a1_1 a1_2 a1_3 a2_0 a2_1 a2_2 a2_3=some (r1,r2,r3,r4,r5,r6))∧Aside0 (kq≤kj3)∧Aside0 (wc.heap[B]?=some (.cells #[.int .i64 J,(.slice A0_1 l0_1.length c0_1)] 34 (0,0)))∧Aside0 (wc.heap[A]?=some (.cells #[.int .i64 a1_0,.int .i64 a1_1,.string a1_2,.int .i64 a1_3] 29 (0,0)))∧Aside0 (wc.heap[aa]?=some (.cells #[.int .i64 a2_0,.int .i64 a2_1,.string a2_2,.int .i64 a2_3] 29 (0,0)))∧Aside0 (wc.heap[I]?=some (.cells #[.int .i64 0,.int .i64 0,.string (⟨#[]⟩:ByteArray),.int .i64 0] 29 (0,0)))∧Aside0 (Below w.heap.size w wc))
 case first=>(
 have H:=a3.out
 clear a3
 obtain⟨bn,b4,H⟩:=sO H
 have H':=zM H
 clear H
 have c3:=bi.out
 have c5:=bh.out
 have c6:=a0.out
 have c7:=a1.out
 have c8:=ad.out
 have c9:=ae.out
 obtain⟨da,db,dc,dd,de,df,dg,dh⟩:=cells4 c.out
 go_wp2_with (first|((with_reducible refine gate_callee (f:=48) rfl ?_);refine sC (some 18) Try.func48 #[.agg #[.int .i64 a1_0,.int .i64 a1_1,.string a1_2,.int .i64 a1_3]] (spec_l09Indexed.calls a1_0 a1_1 a1_2 a1_3 bn _ b4.out) ?_;rintro e di ⟨rfl,hb⟩;refine⟨_,rfl,?_⟩;replace d:=sK d hb;replace c:=sK c hb;replace q:=sK q hb;replace p:=sK p hb;replace HB:=sB HB hb;(try clear hb)))
 go_meet
 case rel=>exact⟨_,(!bn),sr,H',⟨by have:=bm.out;first|omega|exact Nat.le_refl _⟩,⟨by exact sT d.out⟩,⟨by exact sT c.out⟩,⟨by exact sT q.out⟩,⟨by exact sT p.out⟩,⟨sb⟩⟩)
 case rest=>(
 clear a3
 try clear aj
 obtain⟨kq,aO,rfl,HA,b5,d,c,q,p,HB⟩:=hcut
 cases kq with
 |zero=>exact absurd HA.out (by simp[spec_GetElement.j1])
 |succ kj25=>(
 have H:=HA.out
 clear HA
 simp only[spec_GetElement.j1]at H
 by_cases az:aO=true
 ·(
 subst az
 rewrite[if_pos rfl]at H
 simp only[Option.some.injEq,Prod.mk.injEq]at H
 obtain⟨rfl,rfl,rfl,rfl,rfl,rfl⟩:=H
 have dj:=aw.out
 have dk:=av.out
 have dl:=ae.out
 have dm:=ad.out
 have dn:=ag.out
 have dp:=af.out
 obtain⟨dq,dr,dt,du,dv,dw,dx,dy⟩:=cells4 p.out
 go_wp2
 refine bodyPost_ret (results_ctt rfl _ _ I 29 #[.int .i64 0,.int .i64 0,.string (⟨#[]⟩:ByteArray),.int .i64 0] (0,0) _ rfl (by exact sP4 (sT p.out)) Try.underlying29 rfl (by kernel_rfl)) rfl ?_
 exact⟨sq,sb⟩)
 replace az:=zB az
 subst az
 rewrite[if_neg zQ]at H
 obtain⟨a,bo,H⟩:=sO H
 by_cases aA:0≤a
 ·(
 rw[if_pos aA]at H
 have c39b0:=zT aA
 clear aA
 by_cases aB:a<(l0_1.length:Int)
 ·(
 rw[if_pos aB]at H
 have c40b0:=zT aB
 clear aB
 have a4:=zM H
 clear H
 try go_wp2
 replace d:=zM (blk_drew d.out)
 replace c:=zM (blk_drew c.out)
 replace q:=zM (blk_drew q.out)
 replace p:=zM (blk_drew p.out)
 replace HB:=zM (below_drew1 HB.out)
 have aP:0≤(a:Int):=zO (by first|(with_reducible assumption)|assumption)
 have aQ:a<(l0_1.length:Int):=zO (by first|(with_reducible assumption)|assumption)
 obtain⟨b,ak,al,am,an,b6,aC,aD,aE,aF,aG,aH,aI,aJ,aK,aL,bp,bq,br,bs⟩:=at_T56 aM.out a aP aQ
 have O:=aL
 have P:=aK
 have Q:=aJ
 have R:=aI
 have T:=aH
 have U:=aG
 have V:=aF
 have W:=aE
 have X:=aD
 have Y:=aC
 cases b6
 replace aC:=sX HB aC
 replace aD:=sX HB aD
 replace aE:=sX HB aE
 replace aF:=sX HB aF
 replace aG:=sX HB aG
 replace aH:=sX HB aH
 replace aI:=sX HB aI
 replace aJ:=sX HB aJ
 replace aK:=sX HB aK
 replace aL:=sX HB aL
 have bt:=zM bq
 have b7:=zM bp
 clear bq bp
 have a5:=zM bs
 have b8:=zM br
 clear bs br
 replace aP:=eq_true aP
 replace aQ:=eq_true aQ
 refine start_ (n:=9) (S:=fun w'=>w'.cell? ⟨B,0,none⟩=some (.int .i64 J)∧w'.cell? ⟨B,1,none⟩=some (.slice (some b) l0_1.length c0_1)∧w'.cell? ⟨A,0,none⟩=some (.int .i64 a1_0)∧w'.cell? ⟨A,1,none⟩=some (.int .i64 a1_1)∧w'.cell? ⟨A,2,none⟩=some (.string a1_2)∧w'.cell? ⟨A,3,none⟩=some (.int .i64 a1_3)∧w'.cell? (b.add ((a).toNat*10))=some (.int .i64 ((rd_T56 l0_1 a).f0))∧w'.cell? ⟨(b.add ((a).toNat*10)).block,(b.add ((a).toNat*10)).off+1,none⟩=some (.int .i64 ((rd_T56 l0_1 a).f1))∧w'.cell? ⟨(b.add ((a).toNat*10)).block,(b.add ((a).toNat*10)).off+2,none⟩=some (.string ((rd_T56 l0_1 a).f2))∧w'.cell? ⟨(b.add ((a).toNat*10)).block,(b.add ((a).toNat*10)).off+3,none⟩=some (.int .i64 ((rd_T56 l0_1 a).f3))∧w'.cell? ⟨(b.add ((a).toNat*10)).block,(b.add ((a).toNat*10)).off+4,none⟩=some (.slice ak ((rd_T56 l0_1 a).f4).length al)∧w'.cell? ⟨(b.add ((a).toNat*10)).block,(b.add ((a).toNat*10)).off+5,none⟩=some (.slice am ((rd_T56 l0_1 a).f5).length an)∧w'.cell? ⟨(b.add ((a).toNat*10)).block,(b.add ((a).toNat*10)).off+6,none⟩=some (.int .i64 ((rd_T56 l0_1 a).f6.f0))∧w'.cell? ⟨(b.add ((a).toNat*10)).block,(b.add ((a).toNat*10)).off+7,none⟩=some (.int .i64 ((rd_T56 l0_1 a).f6.f1))∧w'.cell? ⟨(b.add ((a).toNat*10)).block,(b.add ((a).toNat*10)).off+8,none⟩=some (.string ((rd_T56 l0_1 a).f6.f2))∧w'.cell? ⟨(b.add ((a).toNat*10)).block,(b.add ((a).toNat*10)).off+9,none⟩=some (.int .i64 ((rd_T56 l0_1 a).f6.f3))) (ds:=[]) #[false,false,false,false,false,false,false,false,false] (by kernel_rfl) rfl rfl ⟨(blk_cell d.out 0).trans rfl,(blk_cell d.out 1).trans rfl,(blk_cell c.out 0).trans rfl,(blk_cell c.out 1).trans rfl,(blk_cell c.out 2).trans rfl,(blk_cell c.out 3).trans rfl,((HB.out.cell (zL w _ Y)).trans Y),((HB.out.cell (zL w _ X)).trans X),((HB.out.cell (zL w _ W)).trans W),((HB.out.cell (zL w _ V)).trans V),((HB.out.cell (zL w _ U)).trans U),((HB.out.cell (zL w _ T)).trans T),((HB.out.cell (zL w _ R)).trans R),((HB.out.cell (zL w _ Q)).trans Q),((HB.out.cell (zL w _ P)).trans P),((HB.out.cell (zL w _ O)).trans O)⟩ (fun hHeld=>?_);refine with_tabW spec_GetElement.tab5 spec_GetElement.bits5 (fun Z aR=>?_)
 generalize wc.drew=w42 at d c q p HB bt a5 aC aD aE aF aG aH aI aJ aK aL hHeld ⊢
 refine pure_ (i:=0) (N:=some 21) (v:=?_) (a':=?_) (bN 9 1) rfl rfl (any_of Z.out (by kernel_rfl)) (fun _ _ _ h=>h) (Or.inl ⟨by rfl,?_⟩) ?_ ?_
 rotate_left
 ·(
 intro w'
 go_simp
 with_reducible rfl)
 rotate_left
 ·(
 simp only[zP,i64_w,i32_w]
 rfl)
 refine pure_ (i:=2) (N:=some 23) (v:=?_) (a':=?_) (bN 9 5) rfl rfl (any_of Z.out (by kernel_rfl)) (fun _ _ _ h=>h) (Or.inl ⟨by rfl,?_⟩) ?_ ?_
 rotate_left
 ·(
 intro w'
 go_simp
 with_reducible rfl)
 rotate_left
 ·(
 simp only[zP,i64_w,i32_w]
 rfl)
 refine take_ (i:=1) (N:=some 22) (v:=?_) (a':=?_) (bN 9 7) rfl rfl (take_ofW Z.out aR.out (by kernel_rfl)) (fun _ _ _ h=>h) (Or.inl ⟨by rfl,?_⟩) hHeld ?_ ?_
 rotate_left
 ·(
 rintro w' ⟨s0,s1,s2,s3,s4,s5,s6,s7,s8,s9,a6,a7,a8,a9,ba,bb⟩
 go_simp
 with_reducible rfl)
 rotate_left
 ·(
 simp only[zP,i64_w,i32_w]
 rfl)
 refine take_ (i:=3) (N:=some 24) (v:=?_) (a':=?_) (bN 9 15) rfl rfl (take_ofW Z.out aR.out (by kernel_rfl)) (fun _ _ _ h=>h) (Or.inl ⟨by rfl,?_⟩) hHeld ?_ ?_
 rotate_left
 ·(
 rintro w' ⟨s0,s1,s2,s3,s4,s5,s6,s7,s8,s9,a6,a7,a8,a9,ba,bb⟩
 go_simp
 with_reducible rfl)
 rotate_left
 ·(
 simp only[zP,i64_w,i32_w]
 rfl)
 refine join_ (σ:=Nat) 1 (bN 9 255) (fun s_=>[(25,.int .i64 a),(9,.pointer (some ⟨s_,0,none⟩)),(26,.pointer (some (b.add ((a).toNat*10)))),(27,.agg #[.int .i64 ((rd_T56 l0_1 a).f0),.int .i64 ((rd_T56 l0_1 a).f1),.string ((rd_T56 l0_1 a).f2),.int .i64 ((rd_T56 l0_1 a).f3),.slice ak ((rd_T56 l0_1 a).f4).length al,.slice am ((rd_T56 l0_1 a).f5).length an,.int .i64 ((rd_T56 l0_1 a).f6.f0),.int .i64 ((rd_T56 l0_1 a).f6.f1),.string ((rd_T56 l0_1 a).f6.f2),.int .i64 ((rd_T56 l0_1 a).f6.f3)])]) (fun s_ w'=>(w'.cell? ⟨B,0,none⟩=some (.int .i64 J)∧w'.cell? ⟨B,1,none⟩=some (.slice (some b) l0_1.length c0_1)∧w'.cell? ⟨A,0,none⟩=some (.int .i64 a1_0)∧w'.cell? ⟨A,1,none⟩=some (.int .i64 a1_1)∧w'.cell? ⟨A,2,none⟩=some (.string a1_2)∧w'.cell? ⟨A,3,none⟩=some (.int .i64 a1_3)∧w'.cell? (b.add ((a).toNat*10))=some (.int .i64 ((rd_T56 l0_1 a).f0))∧w'.cell? ⟨(b.add ((a).toNat*10)).block,(b.add ((a).toNat*10)).off+1,none⟩=some (.int .i64 ((rd_T56 l0_1 a).f1))∧w'.cell? ⟨(b.add ((a).toNat*10)).block,(b.add ((a).toNat*10)).off+2,none⟩=some (.string ((rd_T56 l0_1 a).f2))∧w'.cell? ⟨(b.add ((a).toNat*10)).block,(b.add ((a).toNat*10)).off+3,none⟩=some (.int .i64 ((rd_T56 l0_1 a).f3))∧w'.cell? ⟨(b.add ((a).toNat*10)).block,(b.add ((a).toNat*10)).off+4,none⟩=some (.slice ak ((rd_T56 l0_1 a).f4).length al)∧w'.cell? ⟨(b.add ((a).toNat*10)).block,(b.add ((a).toNat*10)).off+5,none⟩=some (.slice am ((rd_T56 l0_1 a).f5).length an)∧w'.cell? ⟨(b.add ((a).toNat*10)).block,(b.add ((a).toNat*10)).off+6,none⟩=some (.int .i64 ((rd_T56 l0_1 a).f6.f0))∧w'.cell? ⟨(b.add ((a).toNat*10)).block,(b.add ((a).toNat*10)).off+7,none⟩=some (.int .i64 ((rd_T56 l0_1 a).f6.f1))∧w'.cell? ⟨(b.add ((a).toNat*10)).block,(b.add ((a).toNat*10)).off+8,none⟩=some (.string ((rd_T56 l0_1 a).f6.f2))∧w'.cell? ⟨(b.add ((a).toNat*10)).block,(b.add ((a).toNat*10)).off+9,none⟩=some (.int .i64 ((rd_T56 l0_1 a).f6.f3)))∧(w'.heap[B]?=some (.cells #[.int .i64 J,.slice (some b) l0_1.length c0_1] 34 (0,0)))∧(w'.heap[A]?=some (.cells #[.int .i64 a1_0,.int .i64 a1_1,.string a1_2,.int .i64 a1_3] 29 (0,0)))∧(w'.heap[aa]?=some (.cells #[.int .i64 a2_0,.int .i64 a2_1,.string a2_2,.int .i64 a2_3] 29 (0,0)))∧(w'.heap[I]?=some (.cells #[.int .i64 0,.int .i64 0,.string (⟨#[]⟩:ByteArray),.int .i64 0] 29 (0,0)))∧(w'.heap[s_]?=some (.cells #[.int .i64 0,.int .i64 0,.string (⟨#[]⟩:ByteArray),.int .i64 0,.slice none 0 0,.slice none 0 0,.int .i64 0,.int .i64 0,.string (⟨#[]⟩:ByteArray),.int .i64 0] 56 (0,0)))∧(w.heap.size≤s_)∧(w.heap.size≤s_)∧(B≠s_)∧(s_≠B)∧(A≠s_)∧(s_≠A)∧(aa≠s_)∧(s_≠aa)∧(I≠s_)∧(s_≠I)∧(Below w.heap.size w w')) ?_ ?_
 rotate_left
 ·(
 intro hCont
 refine two_ (i:=4) (j:=7) (Ni:=some 25) (Nj:=some 9) (bN 9 31) (bN 9 143) rfl rfl rfl rfl (two_of Z.out (by kernel_rfl)) (by decide) (by decide) (fun K hK=>?_) (fun K hK=>?_)
 ·(
 skip
 refine goes_ Try.func42 (by kernel_rfl) rfl #[.pointer (some ⟨B,0,none⟩),.int .i64 a1_3] (by rfl) rfl rfl (by(try simp only[List.map_toArray,List.map_cons,List.map_nil]);first|done|rfl|(simp only[List.length_drop,List.length_take];rfl)) ?_
 with_reducible refine(spec_l07Find.calls kj25 _ [(⟨J,l0_1⟩:S34)] a1_3 a _ ?side1 bo.out).mono ?_
 (case side1=>exact C_box (t:=34) (sT d.out) (k34_mk _ (⟨J,l0_1⟩:S34) (by exact aY.out) (by exact sD (zC aM.out HB.out))))
 rintro e w' ⟨rfl,⟨nd,rfl⟩⟩
 refine⟨_,rfl,?_⟩
 refine hK.out _ _ ⟨(blk_cell d.out 0).trans rfl,(blk_cell d.out 1).trans rfl,(blk_cell c.out 0).trans rfl,(blk_cell c.out 1).trans rfl,(blk_cell c.out 2).trans rfl,(blk_cell c.out 3).trans rfl,((HB.out.cell (zL w _ Y)).trans Y),((HB.out.cell (zL w _ X)).trans X),((HB.out.cell (zL w _ W)).trans W),((HB.out.cell (zL w _ V)).trans V),((HB.out.cell (zL w _ U)).trans U),((HB.out.cell (zL w _ T)).trans T),((HB.out.cell (zL w _ R)).trans R),((HB.out.cell (zL w _ Q)).trans Q),((HB.out.cell (zL w _ P)).trans P),((HB.out.cell (zL w _ O)).trans O)⟩ (fun hHeld=>?_)
 clear hK K
 refine norm_ (a':=?_) ?_ ?_
 rotate_left
 ·(
 show Act.put _ (some 25) _=_
 simp only[zP,i64_w,i32_w]
 rfl)
 refine pure_ (i:=5) (N:=some 26) (v:=?_) (a':=?_) (bN 9 63) rfl rfl (any_of Z.out (by kernel_rfl)) (fun _ _ _ h=>h) (Or.inl ⟨by rfl,?_⟩) ?_ ?_
 rotate_left
 ·(
 intro w'
 go_simp
 with_reducible rfl)
 rotate_left
 ·(
 simp only[zP,i64_w,i32_w]
 rfl)
 refine take_ (i:=6) (N:=some 27) (v:=?_) (a':=?_) (bN 9 127) rfl rfl (take_ofW Z.out aR.out (by kernel_rfl)) (fun _ _ _ h=>h) (Or.inl ⟨by rfl,?_⟩) hHeld ?_ ?_
 rotate_left
 ·(
 rintro w' ⟨s0,s1,s2,s3,s4,s5,s6,s7,s8,s9,a6,a7,a8,a9,ba,bb⟩
 go_simp
 with_reducible rfl)
 rotate_left
 ·(
 simp only[zP,i64_w,i32_w]
 rfl)
 refine one_ (i:=7) (N:=some 9) (bN 9 255) rfl rfl (one_of Z.out (by kernel_rfl)) (by decide) (fun K hK=>?_)
 refine box_step ?hg (N:=9) ?hd (cs:= #[.int .i64 0,.int .i64 0,.string (⟨#[]⟩:ByteArray),.int .i64 0,.slice none 0 0,.slice none 0 0,.int .i64 0,.int .i64 0,.string (⟨#[]⟩:ByteArray),.int .i64 0]) (t:=56) ?hr ?_;(case hd=>rfl);(case hg=>rfl);(case hr=>first|(go_simp;done)|(go_simp;rfl))
 intro l hg b9 hbox hb
 have r:=zM (hbox)
 have m:=sG HB hg
 have ab:=sG HB hg
 replace HB:=sB HB hb
 have x:=sN d hg
 have E:=sM d hg
 replace d:=sK d hb
 have u:=sN c hg
 have F:=sM c hg
 replace c:=sK c hb
 have y:=sN q hg
 have D:=sM q hg
 replace q:=sK q hb
 have z:=sN p hg
 have G:=sM p hg
 replace p:=sK p hb
 clear hb hbox hg
 refine hK.out _ _ ⟨(blk_cell d.out 0).trans rfl,(blk_cell d.out 1).trans rfl,(blk_cell c.out 0).trans rfl,(blk_cell c.out 1).trans rfl,(blk_cell c.out 2).trans rfl,(blk_cell c.out 3).trans rfl,((HB.out.cell (zL w _ Y)).trans Y),((HB.out.cell (zL w _ X)).trans X),((HB.out.cell (zL w _ W)).trans W),((HB.out.cell (zL w _ V)).trans V),((HB.out.cell (zL w _ U)).trans U),((HB.out.cell (zL w _ T)).trans T),((HB.out.cell (zL w _ R)).trans R),((HB.out.cell (zL w _ Q)).trans Q),((HB.out.cell (zL w _ P)).trans P),((HB.out.cell (zL w _ O)).trans O)⟩ (fun hHeld=>?_)
 clear hK K
 refine norm_ (a':=?_) ?_ ?_
 rotate_left
 ·(
 show Act.put _ (some 9) _=_
 simp only[zP,i64_w,i32_w]
 rfl)
 exact norm_ (by simp only[putAll,Act.put,List.setIfInBounds_toArray,List.set_cons_zero,List.set_cons_succ]) (hCont (l) _ ⟨hHeld,(sT d.out),(sT c.out),(sT q.out),(sT p.out),(sT r.out),m.out,ab.out,x.out,E.out,u.out,F.out,y.out,D.out,z.out,G.out,(by repeat(first|(with_reducible first|exact HB.out|apply below_alloc|apply pw_below_drewN|apply below_drew1|refine below_set ?_ ap.out|refine below_set ?_ aq.out|refine below_set ?_ ar.out|refine below_set ?_ au.out|refine below_set ?_ ab.out)|exact HB.out))⟩))
 ·(
 skip
 refine box_step ?hg (N:=9) ?hd (cs:= #[.int .i64 0,.int .i64 0,.string (⟨#[]⟩:ByteArray),.int .i64 0,.slice none 0 0,.slice none 0 0,.int .i64 0,.int .i64 0,.string (⟨#[]⟩:ByteArray),.int .i64 0]) (t:=56) ?hr ?_;(case hd=>rfl);(case hg=>rfl);(case hr=>first|(go_simp;done)|(go_simp;rfl))
 intro l hg b9 hbox hb
 have r:=zM (hbox)
 have m:=sG HB hg
 have ab:=sG HB hg
 replace HB:=sB HB hb
 have x:=sN d hg
 have E:=sM d hg
 replace d:=sK d hb
 have u:=sN c hg
 have F:=sM c hg
 replace c:=sK c hb
 have y:=sN q hg
 have D:=sM q hg
 replace q:=sK q hb
 have z:=sN p hg
 have G:=sM p hg
 replace p:=sK p hb
 clear hb hbox hg
 refine hK.out _ _ ⟨(blk_cell d.out 0).trans rfl,(blk_cell d.out 1).trans rfl,(blk_cell c.out 0).trans rfl,(blk_cell c.out 1).trans rfl,(blk_cell c.out 2).trans rfl,(blk_cell c.out 3).trans rfl,((HB.out.cell (zL w _ Y)).trans Y),((HB.out.cell (zL w _ X)).trans X),((HB.out.cell (zL w _ W)).trans W),((HB.out.cell (zL w _ V)).trans V),((HB.out.cell (zL w _ U)).trans U),((HB.out.cell (zL w _ T)).trans T),((HB.out.cell (zL w _ R)).trans R),((HB.out.cell (zL w _ Q)).trans Q),((HB.out.cell (zL w _ P)).trans P),((HB.out.cell (zL w _ O)).trans O)⟩ (fun hHeld=>?_)
 clear hK K
 refine norm_ (a':=?_) ?_ ?_
 rotate_left
 ·(
 show Act.put _ (some 9) _=_
 simp only[zP,i64_w,i32_w]
 rfl)
 refine one_ (i:=4) (N:=some 25) (bN 9 159) rfl rfl (one_of Z.out (by kernel_rfl)) (by decide) (fun K hK=>?_)
 refine goes_ Try.func42 (by kernel_rfl) rfl #[.pointer (some ⟨B,0,none⟩),.int .i64 a1_3] (by rfl) rfl rfl (by(try simp only[List.map_toArray,List.map_cons,List.map_nil]);first|done|rfl|(simp only[List.length_drop,List.length_take];rfl)) ?_
 with_reducible refine(spec_l07Find.calls kj25 _ [(⟨J,l0_1⟩:S34)] a1_3 a _ ?side1 bo.out).mono ?_
 (case side1=>exact C_box (t:=34) (sT d.out) (k34_mk _ (⟨J,l0_1⟩:S34) (by exact aY.out) (by exact sD (zC aM.out HB.out))))
 rintro e w' ⟨rfl,⟨nd,rfl⟩⟩
 refine⟨_,rfl,?_⟩
 refine hK.out _ _ ⟨(blk_cell d.out 0).trans rfl,(blk_cell d.out 1).trans rfl,(blk_cell c.out 0).trans rfl,(blk_cell c.out 1).trans rfl,(blk_cell c.out 2).trans rfl,(blk_cell c.out 3).trans rfl,((HB.out.cell (zL w _ Y)).trans Y),((HB.out.cell (zL w _ X)).trans X),((HB.out.cell (zL w _ W)).trans W),((HB.out.cell (zL w _ V)).trans V),((HB.out.cell (zL w _ U)).trans U),((HB.out.cell (zL w _ T)).trans T),((HB.out.cell (zL w _ R)).trans R),((HB.out.cell (zL w _ Q)).trans Q),((HB.out.cell (zL w _ P)).trans P),((HB.out.cell (zL w _ O)).trans O)⟩ (fun hHeld=>?_)
 clear hK K
 refine norm_ (a':=?_) ?_ ?_
 rotate_left
 ·(
 show Act.put _ (some 25) _=_
 simp only[zP,i64_w,i32_w]
 rfl)
 refine pure_ (i:=5) (N:=some 26) (v:=?_) (a':=?_) (bN 9 191) rfl rfl (any_of Z.out (by kernel_rfl)) (fun _ _ _ h=>h) (Or.inl ⟨by rfl,?_⟩) ?_ ?_
 rotate_left
 ·(
 intro w'
 go_simp
 with_reducible rfl)
 rotate_left
 ·(
 simp only[zP,i64_w,i32_w]
 rfl)
 refine take_ (i:=6) (N:=some 27) (v:=?_) (a':=?_) (bN 9 255) rfl rfl (take_ofW Z.out aR.out (by kernel_rfl)) (fun _ _ _ h=>h) (Or.inl ⟨by rfl,?_⟩) hHeld ?_ ?_
 rotate_left
 ·(
 rintro w' ⟨s0,s1,s2,s3,s4,s5,s6,s7,s8,s9,a6,a7,a8,a9,ba,bb⟩
 go_simp
 with_reducible rfl)
 rotate_left
 ·(
 simp only[zP,i64_w,i32_w]
 rfl)
 exact norm_ (by simp only[putAll,Act.put,List.setIfInBounds_toArray,List.set_cons_zero,List.set_cons_succ]) (hCont (l) _ ⟨hHeld,(sT d.out),(sT c.out),(sT q.out),(sT p.out),(sT r.out),m.out,ab.out,x.out,E.out,u.out,F.out,y.out,D.out,z.out,G.out,(by repeat(first|(with_reducible first|exact HB.out|apply below_alloc|apply pw_below_drewN|apply below_drew1|refine below_set ?_ ap.out|refine below_set ?_ aq.out|refine below_set ?_ ar.out|refine below_set ?_ au.out|refine below_set ?_ ab.out)|exact HB.out))⟩)))
 rintro l s ⟨ca,bu,bv,bw,bx,bz,bA,bB,bC,bD,bE,bF,bG,bH,bI,bJ,bK⟩
 replace d:Aside0 (s.heap[B]?=some (.cells #[.int .i64 J,.slice (some b) l0_1.length c0_1] 34 (0,0))):=⟨bu⟩
 replace c:Aside0 (s.heap[A]?=some (.cells #[.int .i64 a1_0,.int .i64 a1_1,.string a1_2,.int .i64 a1_3] 29 (0,0))):=⟨bv⟩
 replace q:Aside0 (s.heap[aa]?=some (.cells #[.int .i64 a2_0,.int .i64 a2_1,.string a2_2,.int .i64 a2_3] 29 (0,0))):=⟨bw⟩
 replace p:Aside0 (s.heap[I]?=some (.cells #[.int .i64 0,.int .i64 0,.string (⟨#[]⟩:ByteArray),.int .i64 0] 29 (0,0))):=⟨bx⟩
 have r:Aside0 (s.heap[l]?=some (.cells #[.int .i64 0,.int .i64 0,.string (⟨#[]⟩:ByteArray),.int .i64 0,.slice none 0 0,.slice none 0 0,.int .i64 0,.int .i64 0,.string (⟨#[]⟩:ByteArray),.int .i64 0] 56 (0,0))):=⟨bz⟩
 have m:Aside0 (w.heap.size≤l):=⟨bA⟩
 have ab:Aside0 (w.heap.size≤l):=⟨bB⟩
 have x:Aside0 (B≠l):=⟨bC⟩
 have E:Aside0 (l≠B):=⟨bD⟩
 have u:Aside0 (A≠l):=⟨bE⟩
 have F:Aside0 (l≠A):=⟨bF⟩
 have y:Aside0 (aa≠l):=⟨bG⟩
 have D:Aside0 (l≠aa):=⟨bH⟩
 have z:Aside0 (I≠l):=⟨bI⟩
 have G:Aside0 (l≠I):=⟨bJ⟩
 replace HB:Aside0 (Below w.heap.size w s):=⟨bK⟩
 clear bu bv bw bx bz bA bB bC bD bE bF bG bH bI bJ bK
 have hHeld:s.cell? ⟨B,0,none⟩=some (.int .i64 J)∧s.cell? ⟨B,1,none⟩=some (.slice (some b) l0_1.length c0_1)∧s.cell? ⟨A,0,none⟩=some (.int .i64 a1_0)∧s.cell? ⟨A,1,none⟩=some (.int .i64 a1_1)∧s.cell? ⟨A,2,none⟩=some (.string a1_2)∧s.cell? ⟨A,3,none⟩=some (.int .i64 a1_3)∧s.cell? (b.add ((a).toNat*10))=some (.int .i64 ((rd_T56 l0_1 a).f0))∧s.cell? ⟨(b.add ((a).toNat*10)).block,(b.add ((a).toNat*10)).off+1,none⟩=some (.int .i64 ((rd_T56 l0_1 a).f1))∧s.cell? ⟨(b.add ((a).toNat*10)).block,(b.add ((a).toNat*10)).off+2,none⟩=some (.string ((rd_T56 l0_1 a).f2))∧s.cell? ⟨(b.add ((a).toNat*10)).block,(b.add ((a).toNat*10)).off+3,none⟩=some (.int .i64 ((rd_T56 l0_1 a).f3))∧s.cell? ⟨(b.add ((a).toNat*10)).block,(b.add ((a).toNat*10)).off+4,none⟩=some (.slice ak ((rd_T56 l0_1 a).f4).length al)∧s.cell? ⟨(b.add ((a).toNat*10)).block,(b.add ((a).toNat*10)).off+5,none⟩=some (.slice am ((rd_T56 l0_1 a).f5).length an)∧s.cell? ⟨(b.add ((a).toNat*10)).block,(b.add ((a).toNat*10)).off+6,none⟩=some (.int .i64 ((rd_T56 l0_1 a).f6.f0))∧s.cell? ⟨(b.add ((a).toNat*10)).block,(b.add ((a).toNat*10)).off+7,none⟩=some (.int .i64 ((rd_T56 l0_1 a).f6.f1))∧s.cell? ⟨(b.add ((a).toNat*10)).block,(b.add ((a).toNat*10)).off+8,none⟩=some (.string ((rd_T56 l0_1 a).f6.f2))∧s.cell? ⟨(b.add ((a).toNat*10)).block,(b.add ((a).toNat*10)).off+9,none⟩=some (.int .i64 ((rd_T56 l0_1 a).f6.f3)):=ca
 refine norm_ (a':=?_) ?_ ?_
 rotate_left
 ·(
 simp only[putAll,Act.put,List.setIfInBounds_toArray,List.set_cons_zero,List.set_cons_succ]
 rfl)
 refine one_ (i:=8) (N:=none) (bN 9 511) rfl rfl (one_of Z.out (by kernel_rfl)) (by decide) (fun K hK=>?_)
 have dz:s.cell? ⟨l,0,none⟩=some (.int .i64 0):=(blk_cell r.out 0).trans rfl
 have dA:=blk_frozen r.out 0
 have dB:=x.out
 have dC:=u.out
 have dD:=y.out
 have dE:=z.out
 have dF:=E.out
 have dG:=F.out
 have dH:=D.out
 have dI:=G.out
 have dJ:s.cell? ⟨l,1,none⟩=some (.int .i64 0):=(blk_cell r.out 1).trans rfl
 have dK:=blk_frozen r.out 1
 have dL:=x.out
 have dM:=u.out
 have dN:=y.out
 have dO:=z.out
 have dP:=E.out
 have dQ:=F.out
 have dR:=D.out
 have dS:=G.out
 have dT:s.cell? ⟨l,2,none⟩=some (.string (⟨#[]⟩:ByteArray)):=(blk_cell r.out 2).trans rfl
 have dU:=blk_frozen r.out 2
 have dV:=x.out
 have dW:=u.out
 have dX:=y.out
 have dY:=z.out
 have dZ:=E.out
 have d0:=F.out
 have d1:=D.out
 have d2:=G.out
 have d3:s.cell? ⟨l,3,none⟩=some (.int .i64 0):=(blk_cell r.out 3).trans rfl
 have d4:=blk_frozen r.out 3
 have d5:=x.out
 have d6:=u.out
 have d7:=y.out
 have d8:=z.out
 have d9:=E.out
 have ea:=F.out
 have eb:=D.out
 have ec:=G.out
 have ed:s.cell? ⟨l,4,none⟩=some (.slice none 0 0):=(blk_cell r.out 4).trans rfl
 have ee:=blk_frozen r.out 4
 have ef:=x.out
 have eg:=u.out
 have eh:=y.out
 have ei:=z.out
 have ej:=E.out
 have ek:=F.out
 have el:=D.out
 have em:=G.out
 have en:s.cell? ⟨l,5,none⟩=some (.slice none 0 0):=(blk_cell r.out 5).trans rfl
 have eo:=blk_frozen r.out 5
 have ep:=x.out
 have er:=u.out
 have es:=y.out
 have et:=z.out
 have eu:=E.out
 have ev:=F.out
 have ew:=D.out
 have ex:=G.out
 have ey:s.cell? ⟨l,6,none⟩=some (.int .i64 0):=(blk_cell r.out 6).trans rfl
 have ez:=blk_frozen r.out 6
 have eA:=x.out
 have eB:=u.out
 have eC:=y.out
 have eD:=z.out
 have eE:=E.out
 have eF:=F.out
 have eG:=D.out
 have eH:=G.out
 have eI:s.cell? ⟨l,7,none⟩=some (.int .i64 0):=(blk_cell r.out 7).trans rfl
 have eJ:=blk_frozen r.out 7
 have eK:=x.out
 have eL:=u.out
 have eM:=y.out
 have eN:=z.out
 have eO:=E.out
 have eP:=F.out
 have eQ:=D.out
 have eR:=G.out
 have eS:s.cell? ⟨l,8,none⟩=some (.string (⟨#[]⟩:ByteArray)):=(blk_cell r.out 8).trans rfl
 have eT:=blk_frozen r.out 8
 have eU:=x.out
 have eV:=u.out
 have eW:=y.out
 have eX:=z.out
 have eY:=E.out
 have eZ:=F.out
 have e0:=D.out
 have e1:=G.out
 have e2:s.cell? ⟨l,9,none⟩=some (.int .i64 0):=(blk_cell r.out 9).trans rfl
 have e3:=blk_frozen r.out 9
 have e4:=x.out
 have e5:=u.out
 have e6:=y.out
 have e7:=z.out
 have e8:=E.out
 have e9:=F.out
 have fa:=D.out
 have fb:=G.out
 refine skip_ (w1:=?_) (by rfl) rfl ?_ ?_
 rotate_left
 ·(
 go_simp
 rfl)
 refine hK.out _ _ ⟨(sQ10 (g:=l) x.out (hHeld.1)),(sQ10 (g:=l) x.out (hHeld.2.1)),(sQ10 (g:=l) u.out (hHeld.2.2.1)),(sQ10 (g:=l) u.out (hHeld.2.2.2.1)),(sQ10 (g:=l) u.out (hHeld.2.2.2.2.1)),(sQ10 (g:=l) u.out (hHeld.2.2.2.2.2.1)),(sQ10 (g:=l) (by first|exact Nat.ne_of_lt (Nat.lt_of_lt_of_le (by have:=zL _ _ Y;first|rwa [add_block]at this|exact this) m.out)|(rw[add_block];exact Nat.ne_of_lt (Nat.lt_of_lt_of_le (by have:=zL _ _ Y;first|rwa [add_block]at this|exact this) m.out))|(show(Addr.add _ _).block≠_;rw[add_block];exact Nat.ne_of_lt (Nat.lt_of_lt_of_le (by have:=zL _ _ Y;first|rwa [add_block]at this|exact this) m.out))|(dsimp only;exact Nat.ne_of_lt (Nat.lt_of_lt_of_le (by have:=zL _ _ Y;first|rwa [add_block]at this|exact this) m.out))) (hHeld.2.2.2.2.2.2.1)),(sQ10 (g:=l) (by first|exact Nat.ne_of_lt (Nat.lt_of_lt_of_le (by have:=zL _ _ X;first|rwa [add_block]at this|exact this) m.out)|(rw[add_block];exact Nat.ne_of_lt (Nat.lt_of_lt_of_le (by have:=zL _ _ X;first|rwa [add_block]at this|exact this) m.out))|(show(Addr.add _ _).block≠_;rw[add_block];exact Nat.ne_of_lt (Nat.lt_of_lt_of_le (by have:=zL _ _ X;first|rwa [add_block]at this|exact this) m.out))|(dsimp only;exact Nat.ne_of_lt (Nat.lt_of_lt_of_le (by have:=zL _ _ X;first|rwa [add_block]at this|exact this) m.out))) (hHeld.2.2.2.2.2.2.2.1)),(sQ10 (g:=l) (by first|exact Nat.ne_of_lt (Nat.lt_of_lt_of_le (by have:=zL _ _ W;first|rwa [add_block]at this|exact this) m.out)|(rw[add_block];exact Nat.ne_of_lt (Nat.lt_of_lt_of_le (by have:=zL _ _ W;first|rwa [add_block]at this|exact this) m.out))|(show(Addr.add _ _).block≠_;rw[add_block];exact Nat.ne_of_lt (Nat.lt_of_lt_of_le (by have:=zL _ _ W;first|rwa [add_block]at this|exact this) m.out))|(dsimp only;exact Nat.ne_of_lt (Nat.lt_of_lt_of_le (by have:=zL _ _ W;first|rwa [add_block]at this|exact this) m.out))) (hHeld.2.2.2.2.2.2.2.2.1)),(sQ10 (g:=l) (by first|exact Nat.ne_of_lt (Nat.lt_of_lt_of_le (by have:=zL _ _ V;first|rwa [add_block]at this|exact this) m.out)|(rw[add_block];exact Nat.ne_of_lt (Nat.lt_of_lt_of_le (by have:=zL _ _ V;first|rwa [add_block]at this|exact this) m.out))|(show(Addr.add _ _).block≠_;rw[add_block];exact Nat.ne_of_lt (Nat.lt_of_lt_of_le (by have:=zL _ _ V;first|rwa [add_block]at this|exact this) m.out))|(dsimp only;exact Nat.ne_of_lt (Nat.lt_of_lt_of_le (by have:=zL _ _ V;first|rwa [add_block]at this|exact this) m.out))) (hHeld.2.2.2.2.2.2.2.2.2.1)),(sQ10 (g:=l) (by first|exact Nat.ne_of_lt (Nat.lt_of_lt_of_le (by have:=zL _ _ U;first|rwa [add_block]at this|exact this) m.out)|(rw[add_block];exact Nat.ne_of_lt (Nat.lt_of_lt_of_le (by have:=zL _ _ U;first|rwa [add_block]at this|exact this) m.out))|(show(Addr.add _ _).block≠_;rw[add_block];exact Nat.ne_of_lt (Nat.lt_of_lt_of_le (by have:=zL _ _ U;first|rwa [add_block]at this|exact this) m.out))|(dsimp only;exact Nat.ne_of_lt (Nat.lt_of_lt_of_le (by have:=zL _ _ U;first|rwa [add_block]at this|exact this) m.out))) (hHeld.2.2.2.2.2.2.2.2.2.2.1)),(sQ10 (g:=l) (by first|exact Nat.ne_of_lt (Nat.lt_of_lt_of_le (by have:=zL _ _ T;first|rwa [add_block]at this|exact this) m.out)|(rw[add_block];exact Nat.ne_of_lt (Nat.lt_of_lt_of_le (by have:=zL _ _ T;first|rwa [add_block]at this|exact this) m.out))|(show(Addr.add _ _).block≠_;rw[add_block];exact Nat.ne_of_lt (Nat.lt_of_lt_of_le (by have:=zL _ _ T;first|rwa [add_block]at this|exact this) m.out))|(dsimp only;exact Nat.ne_of_lt (Nat.lt_of_lt_of_le (by have:=zL _ _ T;first|rwa [add_block]at this|exact this) m.out))) (hHeld.2.2.2.2.2.2.2.2.2.2.2.1)),(sQ10 (g:=l) (by first|exact Nat.ne_of_lt (Nat.lt_of_lt_of_le (by have:=zL _ _ R;first|rwa [add_block]at this|exact this) m.out)|(rw[add_block];exact Nat.ne_of_lt (Nat.lt_of_lt_of_le (by have:=zL _ _ R;first|rwa [add_block]at this|exact this) m.out))|(show(Addr.add _ _).block≠_;rw[add_block];exact Nat.ne_of_lt (Nat.lt_of_lt_of_le (by have:=zL _ _ R;first|rwa [add_block]at this|exact this) m.out))|(dsimp only;exact Nat.ne_of_lt (Nat.lt_of_lt_of_le (by have:=zL _ _ R;first|rwa [add_block]at this|exact this) m.out))) (hHeld.2.2.2.2.2.2.2.2.2.2.2.2.1)),(sQ10 (g:=l) (by first|exact Nat.ne_of_lt (Nat.lt_of_lt_of_le (by have:=zL _ _ Q;first|rwa [add_block]at this|exact this) m.out)|(rw[add_block];exact Nat.ne_of_lt (Nat.lt_of_lt_of_le (by have:=zL _ _ Q;first|rwa [add_block]at this|exact this) m.out))|(show(Addr.add _ _).block≠_;rw[add_block];exact Nat.ne_of_lt (Nat.lt_of_lt_of_le (by have:=zL _ _ Q;first|rwa [add_block]at this|exact this) m.out))|(dsimp only;exact Nat.ne_of_lt (Nat.lt_of_lt_of_le (by have:=zL _ _ Q;first|rwa [add_block]at this|exact this) m.out))) (hHeld.2.2.2.2.2.2.2.2.2.2.2.2.2.1)),(sQ10 (g:=l) (by first|exact Nat.ne_of_lt (Nat.lt_of_lt_of_le (by have:=zL _ _ P;first|rwa [add_block]at this|exact this) m.out)|(rw[add_block];exact Nat.ne_of_lt (Nat.lt_of_lt_of_le (by have:=zL _ _ P;first|rwa [add_block]at this|exact this) m.out))|(show(Addr.add _ _).block≠_;rw[add_block];exact Nat.ne_of_lt (Nat.lt_of_lt_of_le (by have:=zL _ _ P;first|rwa [add_block]at this|exact this) m.out))|(dsimp only;exact Nat.ne_of_lt (Nat.lt_of_lt_of_le (by have:=zL _ _ P;first|rwa [add_block]at this|exact this) m.out))) (hHeld.2.2.2.2.2.2.2.2.2.2.2.2.2.2.1)),(sQ10 (g:=l) (by first|exact Nat.ne_of_lt (Nat.lt_of_lt_of_le (by have:=zL _ _ O;first|rwa [add_block]at this|exact this) m.out)|(rw[add_block];exact Nat.ne_of_lt (Nat.lt_of_lt_of_le (by have:=zL _ _ O;first|rwa [add_block]at this|exact this) m.out))|(show(Addr.add _ _).block≠_;rw[add_block];exact Nat.ne_of_lt (Nat.lt_of_lt_of_le (by have:=zL _ _ O;first|rwa [add_block]at this|exact this) m.out))|(dsimp only;exact Nat.ne_of_lt (Nat.lt_of_lt_of_le (by have:=zL _ _ O;first|rwa [add_block]at this|exact this) m.out))) (hHeld.2.2.2.2.2.2.2.2.2.2.2.2.2.2.2))⟩ (fun hHeld=>?_)
 clear hK K
 refine done_ (done_of Z.out (by kernel_rfl)) ?_
 go_upto_region 6 with(fail)
 go_cut [10] (fun cb wc=>∃(kq:Nat) (L:Int) (bc:Int) (ac:Int) (bd:ByteArray) (be:Int) (aS:Int) (aT:Int) (aU:ByteArray) (aV:Int),cb= .int .i64 L∧Aside0 (spec_GetElement.j2 kq L bc ac bd be ((rd_T56 l0_1 a).f4) ((rd_T56 l0_1 a).f5) aS aT aU aV=some (r1,r2,r3,r4,r5,r6))∧Aside0 (kq≤kj25)∧Aside0 (wc.heap[B]?=some (.cells #[.int .i64 J,(.slice (some b) l0_1.length c0_1)] 34 (0,0)))∧Aside0 (wc.heap[A]?=some (.cells #[.int .i64 a1_0,.int .i64 a1_1,.string a1_2,.int .i64 a1_3] 29 (0,0)))∧Aside0 (wc.heap[aa]?=some (.cells #[.int .i64 a2_0,.int .i64 a2_1,.string a2_2,.int .i64 a2_3] 29 (0,0)))∧Aside0 (wc.heap[I]?=some (.cells #[.int .i64 0,.int .i64 0,.string (⟨#[]⟩:ByteArray),.int .i64 0] 29 (0,0)))∧Aside0 (wc.heap[l]?=some (.cells #[.int .i64 bc,.int .i64 ac,.string bd,.int .i64 be,(.slice ak ((rd_T56 l0_1 a).f4).length al),(.slice am ((rd_T56 l0_1 a).f5).length an),.int .i64 aS,.int .i64 aT,.string aU,.int .i64 aV] 56 (0,0)))∧Aside0 (Below w.heap.size w wc))
 case first=>(
 have H:=a4.out
 clear a4
 obtain⟨bL,cc,H⟩:=sO H
 have H':=zM H
 clear H
 have fc:=bk.out
 have fd:=bj.out
 have fe:=a1.out
 have ff:=a0.out
 have fg:=af.out
 have fh:=ag.out
 have fi:=y.out
 have fj:=D.out
 obtain⟨fk,fl,fm,fn,fo,fp,fq,fr⟩:=cells4 q.out
 go_wp2_with (first|((with_reducible refine gate_callee (f:=49) rfl ?_);refine sC (some 29) Try.func49 #[.pointer (some ⟨l,0,none⟩),.agg #[.int .i64 a2_0,.int .i64 a2_1,.string a2_2,.int .i64 a2_3]] (spec_l09At.calls kj25 _ [(⟨(rd_T56 l0_1 a).f0,(rd_T56 l0_1 a).f1,(rd_T56 l0_1 a).f2,(rd_T56 l0_1 a).f3,(rd_T56 l0_1 a).f4,(rd_T56 l0_1 a).f5,(⟨(rd_T56 l0_1 a).f6.f0,(rd_T56 l0_1 a).f6.f1,(rd_T56 l0_1 a).f6.f2,(rd_T56 l0_1 a).f6.f3⟩:S29)⟩:S56)] a2_0 a2_1 a2_2 a2_3 bL _ ?side1 cc.out) ?_;(case side1=>exact C_box (t:=56) (by exact sP10 (sT r.out)) (k56_mk _ (⟨(rd_T56 l0_1 a).f0,(rd_T56 l0_1 a).f1,(rd_T56 l0_1 a).f2,(rd_T56 l0_1 a).f3,(rd_T56 l0_1 a).f4,(rd_T56 l0_1 a).f5,(⟨(rd_T56 l0_1 a).f6.f0,(rd_T56 l0_1 a).f6.f1,(rd_T56 l0_1 a).f6.f2,(rd_T56 l0_1 a).f6.f3⟩:S29)⟩:S56) (by exact b7.out) (by exact zC bt.out (by repeat(first|(with_reducible first|exact HB.out|apply below_alloc|apply pw_below_drewN|apply below_drew1|refine below_set ?_ ap.out|refine below_set ?_ aq.out|refine below_set ?_ ar.out|refine below_set ?_ au.out|refine below_set ?_ ab.out)|exact HB.out))) (by exact b8.out) (by exact zC a5.out (by repeat(first|(with_reducible first|exact HB.out|apply below_alloc|apply pw_below_drewN|apply below_drew1|refine below_set ?_ ap.out|refine below_set ?_ aq.out|refine below_set ?_ ar.out|refine below_set ?_ au.out|refine below_set ?_ ab.out)|exact HB.out)))));rintro e fs ⟨rfl,hb⟩;refine⟨_,rfl,?_⟩;have bM:=zM (blk_below (g:=B) (o:= .cells #[.int .i64 J,.slice (some b) l0_1.length c0_1] 34 (0,0)) (by(with_reducible repeat(first|refine blk_drewN ?_ _|refine blk_drew ?_|refine blk_alloc ?_ _));refine blk_far ?_ x.out _;(with_reducible repeat(first|refine blk_drewN ?_ _|refine blk_drew ?_|refine blk_alloc ?_ _));refine blk_far ?_ x.out _;(with_reducible repeat(first|refine blk_drewN ?_ _|refine blk_drew ?_|refine blk_alloc ?_ _));refine blk_far ?_ x.out _;(with_reducible repeat(first|refine blk_drewN ?_ _|refine blk_drew ?_|refine blk_alloc ?_ _));refine blk_far ?_ x.out _;(with_reducible repeat(first|refine blk_drewN ?_ _|refine blk_drew ?_|refine blk_alloc ?_ _));refine blk_far ?_ x.out _;(with_reducible repeat(first|refine blk_drewN ?_ _|refine blk_drew ?_|refine blk_alloc ?_ _));refine blk_far ?_ x.out _;(with_reducible repeat(first|refine blk_drewN ?_ _|refine blk_drew ?_|refine blk_alloc ?_ _));refine blk_far ?_ x.out _;(with_reducible repeat(first|refine blk_drewN ?_ _|refine blk_drew ?_|refine blk_alloc ?_ _));refine blk_far ?_ x.out _;(with_reducible repeat(first|refine blk_drewN ?_ _|refine blk_drew ?_|refine blk_alloc ?_ _));refine blk_far ?_ x.out _;(with_reducible repeat(first|refine blk_drewN ?_ _|refine blk_drew ?_|refine blk_alloc ?_ _));refine blk_far ?_ x.out _;exact sT d.out) hb);have bO:=zM (blk_below (g:=A) (o:= .cells #[.int .i64 a1_0,.int .i64 a1_1,.string a1_2,.int .i64 a1_3] 29 (0,0)) (by(with_reducible repeat(first|refine blk_drewN ?_ _|refine blk_drew ?_|refine blk_alloc ?_ _));refine blk_far ?_ u.out _;(with_reducible repeat(first|refine blk_drewN ?_ _|refine blk_drew ?_|refine blk_alloc ?_ _));refine blk_far ?_ u.out _;(with_reducible repeat(first|refine blk_drewN ?_ _|refine blk_drew ?_|refine blk_alloc ?_ _));refine blk_far ?_ u.out _;(with_reducible repeat(first|refine blk_drewN ?_ _|refine blk_drew ?_|refine blk_alloc ?_ _));refine blk_far ?_ u.out _;(with_reducible repeat(first|refine blk_drewN ?_ _|refine blk_drew ?_|refine blk_alloc ?_ _));refine blk_far ?_ u.out _;(with_reducible repeat(first|refine blk_drewN ?_ _|refine blk_drew ?_|refine blk_alloc ?_ _));refine blk_far ?_ u.out _;(with_reducible repeat(first|refine blk_drewN ?_ _|refine blk_drew ?_|refine blk_alloc ?_ _));refine blk_far ?_ u.out _;(with_reducible repeat(first|refine blk_drewN ?_ _|refine blk_drew ?_|refine blk_alloc ?_ _));refine blk_far ?_ u.out _;(with_reducible repeat(first|refine blk_drewN ?_ _|refine blk_drew ?_|refine blk_alloc ?_ _));refine blk_far ?_ u.out _;(with_reducible repeat(first|refine blk_drewN ?_ _|refine blk_drew ?_|refine blk_alloc ?_ _));refine blk_far ?_ u.out _;exact sT c.out) hb);have bP:=zM (blk_below (g:=aa) (o:= .cells #[.int .i64 a2_0,.int .i64 a2_1,.string a2_2,.int .i64 a2_3] 29 (0,0)) (by(with_reducible repeat(first|refine blk_drewN ?_ _|refine blk_drew ?_|refine blk_alloc ?_ _));refine blk_far ?_ y.out _;(with_reducible repeat(first|refine blk_drewN ?_ _|refine blk_drew ?_|refine blk_alloc ?_ _));refine blk_far ?_ y.out _;(with_reducible repeat(first|refine blk_drewN ?_ _|refine blk_drew ?_|refine blk_alloc ?_ _));refine blk_far ?_ y.out _;(with_reducible repeat(first|refine blk_drewN ?_ _|refine blk_drew ?_|refine blk_alloc ?_ _));refine blk_far ?_ y.out _;(with_reducible repeat(first|refine blk_drewN ?_ _|refine blk_drew ?_|refine blk_alloc ?_ _));refine blk_far ?_ y.out _;(with_reducible repeat(first|refine blk_drewN ?_ _|refine blk_drew ?_|refine blk_alloc ?_ _));refine blk_far ?_ y.out _;(with_reducible repeat(first|refine blk_drewN ?_ _|refine blk_drew ?_|refine blk_alloc ?_ _));refine blk_far ?_ y.out _;(with_reducible repeat(first|refine blk_drewN ?_ _|refine blk_drew ?_|refine blk_alloc ?_ _));refine blk_far ?_ y.out _;(with_reducible repeat(first|refine blk_drewN ?_ _|refine blk_drew ?_|refine blk_alloc ?_ _));refine blk_far ?_ y.out _;(with_reducible repeat(first|refine blk_drewN ?_ _|refine blk_drew ?_|refine blk_alloc ?_ _));refine blk_far ?_ y.out _;exact sT q.out) hb);have bQ:=zM (blk_below (g:=I) (o:= .cells #[.int .i64 0,.int .i64 0,.string (⟨#[]⟩:ByteArray),.int .i64 0] 29 (0,0)) (by(with_reducible repeat(first|refine blk_drewN ?_ _|refine blk_drew ?_|refine blk_alloc ?_ _));refine blk_far ?_ z.out _;(with_reducible repeat(first|refine blk_drewN ?_ _|refine blk_drew ?_|refine blk_alloc ?_ _));refine blk_far ?_ z.out _;(with_reducible repeat(first|refine blk_drewN ?_ _|refine blk_drew ?_|refine blk_alloc ?_ _));refine blk_far ?_ z.out _;(with_reducible repeat(first|refine blk_drewN ?_ _|refine blk_drew ?_|refine blk_alloc ?_ _));refine blk_far ?_ z.out _;(with_reducible repeat(first|refine blk_drewN ?_ _|refine blk_drew ?_|refine blk_alloc ?_ _));refine blk_far ?_ z.out _;(with_reducible repeat(first|refine blk_drewN ?_ _|refine blk_drew ?_|refine blk_alloc ?_ _));refine blk_far ?_ z.out _;(with_reducible repeat(first|refine blk_drewN ?_ _|refine blk_drew ?_|refine blk_alloc ?_ _));refine blk_far ?_ z.out _;(with_reducible repeat(first|refine blk_drewN ?_ _|refine blk_drew ?_|refine blk_alloc ?_ _));refine blk_far ?_ z.out _;(with_reducible repeat(first|refine blk_drewN ?_ _|refine blk_drew ?_|refine blk_alloc ?_ _));refine blk_far ?_ z.out _;(with_reducible repeat(first|refine blk_drewN ?_ _|refine blk_drew ?_|refine blk_alloc ?_ _));refine blk_far ?_ z.out _;exact sT p.out) hb);have bR:=zM (blk_below (g:=l) (o:= .cells #[.int .i64 ((rd_T56 l0_1 a).f0),.int .i64 ((rd_T56 l0_1 a).f1),.string ((rd_T56 l0_1 a).f2),.int .i64 ((rd_T56 l0_1 a).f3),.slice ak ((rd_T56 l0_1 a).f4).length al,.slice am ((rd_T56 l0_1 a).f5).length an,.int .i64 ((rd_T56 l0_1 a).f6.f0),.int .i64 ((rd_T56 l0_1 a).f6.f1),.string ((rd_T56 l0_1 a).f6.f2),.int .i64 ((rd_T56 l0_1 a).f6.f3)] 56 (0,0)) (by exact sP10 (sT r.out)) hb);have bS:=sB HB hb;clear d;clear c;clear q;clear p;clear r;clear HB;have d:=bM;have c:=bO;have q:=bP;have p:=bQ;have r:=bR;have HB:=bS;clear bM bO bP bQ bR bS;(try clear hb)))
 go_meet
 case rel=>exact⟨_,(bL),((rd_T56 l0_1 a).f0),((rd_T56 l0_1 a).f1),((rd_T56 l0_1 a).f2),((rd_T56 l0_1 a).f3),((rd_T56 l0_1 a).f6.f0),((rd_T56 l0_1 a).f6.f1),((rd_T56 l0_1 a).f6.f2),((rd_T56 l0_1 a).f6.f3),sr,H',⟨by have:=bm.out;have:=b5.out;first|omega|exact Nat.le_refl _⟩,⟨by exact sT d.out⟩,⟨by exact sT c.out⟩,⟨by exact sT q.out⟩,⟨by exact sT p.out⟩,⟨by exact sT r.out⟩,⟨sb⟩⟩)
 case rest=>(
 clear a4
 try clear aj
 try clear az
 try clear aA
 try clear c39b0
 try clear aB
 try clear c40b0
 try clear aC
 try clear aD
 try clear aE
 try clear aF
 try clear aG
 try clear aH
 try clear aI
 try clear aJ
 try clear aK
 try clear aL
 try clear aP
 try clear aQ
 obtain⟨kq,L,bc,ac,bd,be,aS,aT,aU,aV,rfl,HA,ft,d,c,q,p,r,HB⟩:=hcut
 cases kq with
 |zero=>exact absurd HA.out (by simp[spec_GetElement.j2])
 |succ kj40=>(
 have H:=HA.out
 clear HA
 simp only[spec_GetElement.j2]at H
 by_cases ao:L≥0
 ·(
 rw[if_pos ao]at H
 have c62b0:decide (0≤L)=true:=zT ao
 clear ao
 by_cases aW:0≤L
 ·(
 rw[if_pos aW]at H
 have c63b0:=zT aW
 clear aW
 by_cases aX:L<(((rd_T56 l0_1 a).f5).length:Int)
 ·(
 rw[if_pos aX]at H
 have c64b0:=zT aX
 clear aX
 simp only[Option.some.injEq,Prod.mk.injEq]at H
 obtain⟨rfl,rfl,rfl,rfl,rfl,rfl⟩:=H
 have fu:=E.out
 have fv:=x.out
 have fw:=F.out
 have fx:=u.out
 have fy:=D.out
 have fz:=y.out
 have fA:=G.out
 have fB:=z.out
 obtain⟨fC,fD,fE,fF,fG,fH,fI,fJ,fK,fL,fM,fN,fO,fP,fQ,fR,fS,fT,fU,fV⟩:=cells10 r.out
 have bf:0≤(L:Int):=zO (by first|(with_reducible assumption)|assumption)
 have bg:L<(((rd_T56 l0_1 a).f5).length:Int):=zO (by first|(with_reducible assumption)|assumption)
 obtain⟨fW,cd,bT,bU,bV,bW⟩:=at_T29 a5.out L bf bg
 cases cd
 replace bT:=sX HB bT
 replace bU:=sX HB bU
 replace bV:=sX HB bV
 replace bW:=sX HB bW
 replace bf:=eq_true bf
 replace bg:=eq_true bg
 have fX:=aw.out
 have fY:=av.out
 have fZ:=ae.out
 have f7:=ad.out
 have f8:=ag.out
 have f9:=af.out
 obtain⟨ga,gb,gc,gd,gf,gg,gh,gi⟩:=cells4 p.out
 go_wp2
 refine bodyPost_ret (results_ctt rfl _ _ I 29 #[.int .i64 ((rd_T29 ((rd_T56 l0_1 a).f5) L).f0),.int .i64 ((rd_T29 ((rd_T56 l0_1 a).f5) L).f1),.string ((rd_T29 ((rd_T56 l0_1 a).f5) L).f2),.int .i64 ((rd_T29 ((rd_T56 l0_1 a).f5) L).f3)] (0,0) _ rfl (by exact sP4 (sT p.out)) Try.underlying29 rfl (by kernel_rfl)) rfl ?_
 exact⟨sq,sb⟩)
 rw[if_neg aX]at H
 exact absurd H (by simp))
 rw[if_neg aW]at H
 exact absurd H (by simp))
 rw[if_neg ao]at H
 have c62b0:decide (0≤L)=false:=zF ao
 clear ao
 by_cases ah:ac=2
 ·(
 rw[if_pos ah]at H
 have c74b0:(ac==2)=true:=zE ah
 have c74b1:(ac !=2)=false:=zY ah
 clear ah
 simp only[Option.some.injEq,Prod.mk.injEq]at H
 obtain⟨rfl,rfl,rfl,rfl,rfl,rfl⟩:=H
 have gj:=E.out
 have gk:=x.out
 have gl:=F.out
 have gm:=u.out
 have gn:=D.out
 have go:=y.out
 have gp:=G.out
 have gq:=z.out
 obtain⟨gr,gs,gu,gv,gw,gx,gy,gz,gA,gB,gC,gD,gE,gF,gG,gH,gI,gJ,gK,gL⟩:=cells10 r.out
 have gM:=aw.out
 have gN:=av.out
 have gO:=ae.out
 have gP:=ad.out
 have gQ:=ag.out
 have gR:=af.out
 obtain⟨gS,gT,gU,gV,gW,gX,gY,gZ⟩:=cells4 p.out
 go_wp2
 refine bodyPost_ret (results_ctt rfl _ _ I 29 #[.int .i64 aS,.int .i64 aT,.string aU,.int .i64 aV] (0,0) _ rfl (by exact sP4 (sT p.out)) Try.underlying29 rfl (by kernel_rfl)) rfl ?_
 exact⟨sq,sb⟩)
 rw[if_neg ah]at H
 have c74b0:(ac==2)=false:=zN ah
 have c74b1:(ac !=2)=true:=zX ah
 simp only[Option.some.injEq,Prod.mk.injEq]at H
 obtain⟨rfl,rfl,rfl,rfl,rfl,rfl⟩:=H
 have g0:=E.out
 have g1:=x.out
 have g2:=F.out
 have g3:=u.out
 have g4:=D.out
 have g5:=y.out
 have g6:=G.out
 have g7:=z.out
 obtain⟨g8,g9,ha,hc,he,hf,hh,hi,hj,hl,hm,hn,ho,hq,hs,ht,hu,hv,hw,hx⟩:=cells10 r.out
 have hy:=aw.out
 have hz:=av.out
 have hA:=ae.out
 have hB:=ad.out
 have hC:=ag.out
 have hD:=af.out
 obtain⟨hE,hF,hG,hH,hI,hJ,hL,hM⟩:=cells4 p.out
 go_wp2
 refine bodyPost_ret (results_ctt rfl _ _ I 29 #[.int .i64 0,.int .i64 0,.string (⟨#[]⟩:ByteArray),.int .i64 0] (0,0) _ rfl (by exact sP4 (sT p.out)) Try.underlying29 rfl (by kernel_rfl)) rfl ?_
 exact⟨sq,sb⟩)))
 rw[if_neg aB]at H
 exact absurd H (by simp))
 rw[if_neg aA]at H
 exact absurd H (by simp)))))
end Go.Proofs.Ytengilknjiobiaa.PFnExactGetElement
