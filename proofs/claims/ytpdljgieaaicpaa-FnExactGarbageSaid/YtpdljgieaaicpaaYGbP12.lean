/- Printed functions: spec_l08Valid, spec_Garbage. -/
import Derived.Test.YtpdljgieaaicpaaYGbP0
import Derived.Test.YtpdljgieaaicpaaYGbP9
import Derived.Test.YtpdljgieaaicpaaYGbP11
import Derived.Test.YtpdljgieaaicpaaYGbP13
import Derived.Test.YtpdljgieaaicpaaYGbP14
namespace Go.Proofs.Ytpdljgieaaicpaa.PFnExactGarbage
open Go.RowKit Go.Proofs.YtpdljgieaaicpaaG Go.Proofs.YtpdljgieaaicpaaW.PrintWords Go.Proofs.YtpdljgieaaicpaaW.PrintLast Go.Proofs.YtpdljgieaaicpaaW.PrintMore
attribute [local go_sem] max2_int min2_int max_two min_two max_three min_three max_four min_four
set_option linter.unusedVariables false
set_option linter.unusedSimpArgs false
def spec_l08Valid.f (k:Nat) (l0:List (S32)) (l1:List (S62)):Option (Bool):=(spec_l07Ok.f k l0).bind fun t234=>(if t234=true then((spec_l07FitAll.f k l0 l1).bind fun t235=>(some t235))else(some false))
set_option maxHeartbeats 8000000 in
set_option maxRecDepth 100000 in
theorem spec_l08Valid.calls (k:Nat) (A0:Option Addr) (l0:List (S32)) (A1:Option Addr) (c1:Nat) (l1:List (S62)) (r:Bool) (w:World) (hr0:Kd.C k32 w A0 l0.length l0) (hr1:Kd.C k62 w A1 l1.length l1) (hc1:l1.length≤c1) (h:spec_l08Valid.f k l0 l1=some r):
  Calls Try.prog 38 #[.pointer A0,.slice A1 l1.length c1] w fun e w'=>e= .returned (.bool r)∧Below w.heap.size w w':=by
 have c:=zM hr0
 have p:=zM (Nat.le_refl l0.length)
 clear hr0
 have l:=zM hr1
 have m:=zM hc1
 clear hr1 hc1
 have HB:=zM (Below.refl w.heap.size w)
 have H:((spec_l07Ok.f k l0).bind fun d=>(if d=true then((spec_l07FitAll.f k l0 l1).bind fun i=>(some i))else(some false)))=some r:=h
 clear h
 obtain⟨d,j,H⟩:=sO H
 by_cases a:d=true
 ·(
 subst a
 rewrite[if_pos rfl]at H
 obtain⟨i,n,H⟩:=sO H
 obtain rfl:=zI H
 go_enter Try.func38,Try.ntmps38
 go_wp2_with (first|((with_reducible refine gate_callee (f:=57) rfl ?_);refine sC (some 6) Try.func57 #[.pointer A0] (spec_l07Ok.calls k _ l0 true _ ?side1 j.out) ?_;(case side1=>exact sD c.out);rintro e q ⟨rfl,hb⟩;refine⟨_,rfl,?_⟩;replace HB:=sB HB hb;(try clear hb))|(go_at_call 65;(with_reducible refine(spec_l07FitAll.calls k _ l0 _ _ l1 i _ ?side1 ?side2 ?side3 n.out).mono ?_);(case side1=>exact sD (zC c.out HB.out));(case side2=>exact sD (zC l.out HB.out));(case side3=>exact m.out);rintro e s ⟨rfl,hb⟩;replace HB:=sB HB hb;(try clear hb)))
 go_ret
 exact⟨sq,sb⟩)
 replace a:=zB a
 subst a
 rewrite[if_neg zQ]at H
 obtain rfl:=zI H
 go_enter Try.func38,Try.ntmps38
 go_wp2_with (first|((with_reducible refine gate_callee (f:=57) rfl ?_);refine sC (some 6) Try.func57 #[.pointer A0] (spec_l07Ok.calls k _ l0 false _ ?side1 j.out) ?_;(case side1=>exact sD c.out);rintro e u ⟨rfl,hb⟩;refine⟨_,rfl,?_⟩;replace HB:=sB HB hb;(try clear hb)))
 go_ret
 exact⟨sq,sb⟩
def spec_Garbage.l0 : Nat → List Int → List Int → Int → Int → List (S64) → Option (List Int)
 |0,_,_,_,_,_=>none
 |k+1,x5,x6,x7,x266000,x266001=>if x7<(x266001.length:Int)then(if 0≤x7 then((spec_l00Has.f k x6 ((rd_T64 x266001 x7).f0)).bind fun t274=>(if t274=true then(spec_Garbage.l0 k x5 x6 (wrap64 (x7+1)) x266000 x266001)else(if x5.length<17592186044416 then(spec_Garbage.l0 k (x5++[(rd_T64 x266001 x7).f0]) x6 (wrap64 (x7+1)) x266000 x266001)else(none))))else(none))else(some x5)
def spec_Garbage.f (k:Nat) (a0_0:Int) (l0_1:List (S64)) (l1:List (S62)):Option (List Int):=(some (([]:List Int):List Int)).bind fun y266=>((spec_l08Valid.f k [(⟨a0_0,l0_1⟩:S32)] l1).bind fun t269=>(if t269=true then((spec_l08Trace.f k [(⟨a0_0,l0_1⟩:S32)] l1).bind fun t270=>(spec_Garbage.l0 k y266 t270 0 a0_0 l0_1))else(some y266)))
set_option maxHeartbeats 8000000 in
set_option maxRecDepth 100000 in
theorem spec_Garbage.calls (k:Nat) (a0_0:Int) (A0_1:Option Addr) (c0_1:Nat) (l0_1:List (S64)) (A1:Option Addr) (c1:Nat) (l1:List (S62)) (r:List Int) (w:World) (hr0_1:Kd.C k64 w A0_1 l0_1.length l0_1) (hc0_1:l0_1.length≤c0_1) (hr1:Kd.C k62 w A1 l1.length l1) (hc1:l1.length≤c1) (h:spec_Garbage.f k a0_0 l0_1 l1=some r):
  Calls Try.prog 10 #[.agg #[.int .i64 a0_0,.slice A0_1 l0_1.length c0_1],.slice A1 l1.length c1] w fun e w'=>∃aq:Value,e= .returned (aq)∧Kd.R (Kd.int .i64) 2 w' w.heap.size (fun _=>True) aq r∧Below w.heap.size w w':=by
 have bd:=Try.underlying32
 have u:=zM hr0_1
 have ac:=zM hc0_1
 clear hr0_1 hc0_1
 have ad:=zM hr1
 have ae:=zM hc1
 clear hr1 hc1
 have HB:=zM (Below.refl w.heap.size w)
 have H:((some (([]:List Int):List Int)).bind fun v=>((spec_l08Valid.f k [(⟨a0_0,l0_1⟩:S32)] l1).bind fun D=>(if D=true then((spec_l08Trace.f k [(⟨a0_0,l0_1⟩:S32)] l1).bind fun d=>(spec_Garbage.l0 k v d 0 a0_0 l0_1))else(some v))))=some r:=h
 clear h
 obtain⟨v,hy266⟩:∃y_:List Int,y_=(([]:List Int)):=⟨_,rfl⟩
 replace H:((spec_l08Valid.f k [(⟨a0_0,l0_1⟩:S32)] l1).bind fun D=>(if D=true then((spec_l08Trace.f k [(⟨a0_0,l0_1⟩:S32)] l1).bind fun d=>(spec_Garbage.l0 k v d 0 a0_0 l0_1))else(some v)))=some r:=by first|(rw[hy266];with_reducible exact H)|(have l:=(Option.bind_some _ _).symm.trans H;rw[hy266];with_reducible exact l)|(have l:=(Option.bind_some _ _).symm.trans H;with_reducible exact l)|with_reducible exact H|(rw[hy266];exact H)|exact H
 have X:=zM hy266
 clear hy266
 obtain⟨D,A3,H⟩:=sO H
 by_cases E:D=true
 ·(
 subst E
 rewrite[if_pos rfl]at H
 obtain⟨d,A5,H⟩:=sO H
 have H':=zM H
 clear H
 go_enter Try.func10,Try.ntmps10
 go_wp2_with (first|((with_reducible refine gate_dst (N:=2) rfl ?_);refine sV (N:=2) (cs:= #[.int .i64 a0_0,.slice A0_1 l0_1.length c0_1]) (t:=32) ?_;intro x hg w6 hbox hb;have a:=zM (hbox);have aT:=sG HB hg;have y:=sG HB hg;replace HB:=sB HB hb;clear hb hbox hg)|((with_reducible refine gate_dst (N:=8) rfl ?_);refine Kd.R_lit (Kd.int .i64) _ 2 ?hg (N:=8) ?hd (xs:=([]:List Int)) (inner:=[]) (ok:=fun _=>True) (okp:=fun _=>True) ?hr ?hp (fun _ hk=>hk) trivial (Below.refl _ _) (Nat.le_refl _) (by simp) ?_;(case hd=>rfl);(case hg=>rfl);(case hr=>first|(go_simp;done)|(go_simp;rfl));(case hp=>exact(Reps.none _ _));intro aU w7 F hb af ag;clear af ag;(first|rw[←X.out]at F|(simp only[Int.reduceToNat]at F;rw[←X.out]at F));have j:=zM (Kd.R_lower F (below_size zzR));replace a:=sK a hb;replace HB:=sB HB hb;clear hb F)|((with_reducible refine gate_callee (f:=38) rfl ?_);refine sC (some 10) Try.func38 #[.pointer (some ⟨x,0,none⟩),.slice A1 l1.length c1] (spec_l08Valid.calls k _ [(⟨a0_0,l0_1⟩:S32)] _ _ l1 true _ ?side1 ?side2 ?side3 A3.out) ?_;(case side1=>exact C_box (t:=32) (sT a.out) (k32_mk _ (⟨a0_0,l0_1⟩:S32) (by exact ac.out) (by exact sD (zC u.out HB.out))));(case side2=>exact sD (zC ad.out HB.out));(case side3=>exact ae.out);rintro e w9 ⟨rfl,hb⟩;refine⟨_,rfl,?_⟩;replace j:=zM (Kd.R_below (sE j.out) hb);replace a:=sK a hb;replace HB:=sB HB hb;(try clear hb);(try clear hk))|((with_reducible refine gate_callee (f:=39) rfl ?_);refine sC (some 14) Try.func39 #[.pointer (some ⟨x,0,none⟩),.slice A1 l1.length c1] (spec_l08Trace.calls k _ [(⟨a0_0,l0_1⟩:S32)] _ _ l1 d _ ?side1 ?side2 ?side3 A5.out) ?_;(case side1=>exact C_box (t:=32) (sT a.out) (k32_mk _ (⟨a0_0,l0_1⟩:S32) (by exact ac.out) (by exact sD (zC u.out HB.out))));(case side2=>exact sD (zC ad.out HB.out));(case side3=>exact ae.out);rintro e be ⟨ar,rfl,ah,hb⟩;refine⟨_,rfl,?_⟩;have aV:=zM (Kd.R_lower (Kd.R_new' ah (Kd.R_lt (sE j.out))) (below_size zzR));replace j:=zM (Kd.R_elder' (sE j.out) (Kd.R_base ah) hb);replace a:=sK a hb;replace HB:=sB HB hb;(try clear hb);(try clear hk);(try clear ah)))
 go_loopg [5,7] k (fun kq v5 v7 w'=>∃(m:List Int) (c:Int),v7= .int .i64 c∧Aside0 (spec_Garbage.l0 kq m d c a0_0 l0_1=some r)∧Aside0 (kq≤k)∧Aside0 (Kd.R (Kd.int .i64) 2 w' w.heap.size (fun n=>some n≠(ar:Value).ownBlock) v5 m)∧Aside0 (Kd.R (Kd.int .i64) 2 w' w.heap.size (fun n=>some n≠(v5:Value).ownBlock) ar d)∧Aside0 (w'.heap[x]?=some (.cells #[.int .i64 a0_0,(.slice A0_1 l0_1.length c0_1)] 32 (0,0)))∧Aside0 (Below w.heap.size w w'))
 case atStart=>exact⟨(v),(0),sr,H',⟨Nat.le_refl _⟩,⟨by(with_reducible repeat(first|apply Kd.R_alloc|apply Kd.R_drewN|apply Kd.R_drew));exact Kd.R_mono j.out (fun _ hk=>hk.2)⟩,⟨by(with_reducible repeat(first|apply Kd.R_alloc|apply Kd.R_drewN|apply Kd.R_drew));exact Kd.R_mono aV.out (fun _ hk=>hk.2)⟩,⟨by exact sT a.out⟩,⟨sb⟩⟩
 case round=>(
 clear H'
 try clear c1
 try clear E
 obtain⟨m,c,rfl,HA,Y,G,i,a,HB⟩:=hrel
 cases gk with
 |zero=>exact absurd HA.out (by simp[spec_Garbage.l0])
 |succ k1=>(
 have H:=HA.out
 clear HA
 simp only[spec_Garbage.l0]at H
 by_cases z:c<(l0_1.length:Int)
 ·(
 rw[if_pos z]at H
 have c11b0:=zT z
 clear z
 by_cases Z:0≤c
 ·(
 rw[if_pos Z]at H
 have c12b0:=zT Z
 clear Z
 obtain⟨aW,au,H⟩:=sO H
 by_cases aa:aW=true
 ·(
 subst aa
 rewrite[if_pos rfl]at H
 have H':=zM H
 clear H
 obtain⟨bf,bg,bh,bi⟩:=cells2 a.out
 have p:0≤(c:Int):=zzA
 have q:c<(l0_1.length:Int):=zzA
 obtain⟨ai,aX,aY,aZ,a0,aj,I,J,K,L,A,B,M,O,P,Q,S,T,U,V⟩:=at_T64 u.out c p q
 cases aj
 replace I:=sX HB I
 replace J:=sX HB J
 replace K:=sX HB K
 replace L:=sX HB L
 replace A:=sX HB A
 replace B:=sX HB B
 replace M:=sX HB M
 replace O:=sX HB O
 replace P:=sX HB P
 replace Q:=sX HB Q
 have a1:=zM T
 have a2:=zM S
 clear T S
 have a3:=zM V
 have a4:=zM U
 clear V U
 replace p:=eq_true p
 replace q:=eq_true q
 obtain⟨a5,a6,a7⟩:=Kd.R_slice i.out
 subst a7
 go_wp2_with (first|((with_reducible refine gate_callee (f:=40) rfl ?_);refine sC (some 29) Try.func40 #[.slice a5 d.length a6,.int .i64 ((rd_T64 l0_1 c).f0)] (spec_l00Has.calls k1 _ _ d ((rd_T64 l0_1 c).f0) true _ ?side1 ?side2 au.out) ?_;(case side1=>exact sD ((Kd.R_reads' i.out).2.2));(case side2=>exact(Kd.R_reads' i.out).2.1);rintro e w' ⟨rfl,⟨nd,rfl⟩⟩;refine⟨_,rfl,?_⟩))
 go_roundg k1
 case measure=>have:=Y.out;omega
 case rel=>exact⟨(m),(wrap64 (c+1)),sr,H',⟨by have:=Y.out;omega⟩,⟨by exact sE G.out⟩,⟨by exact sE i.out⟩,⟨by exact sT a.out⟩,⟨sb⟩⟩)
 replace aa:=zB aa
 subst aa
 rewrite[if_neg zQ]at H
 by_cases ab:m.length<17592186044416
 ·(
 rw[if_pos ab]at H
 have a8:=zM ab
 clear ab
 obtain⟨y276,hy276⟩:∃y_:List Int,y_=(m++[(rd_T64 l0_1 c).f0]):=⟨_,rfl⟩
 replace H:(spec_Garbage.l0 k1 y276 d (wrap64 (c+1)) a0_0 l0_1)=some r:=by first|(rw[hy276];with_reducible exact H)|(have l:=(Option.bind_some _ _).symm.trans H;rw[hy276];with_reducible exact l)|(have l:=(Option.bind_some _ _).symm.trans H;with_reducible exact l)|with_reducible exact H|(rw[hy276];exact H)|exact H
 have a9:=zM hy276
 clear hy276
 have H':=zM H
 clear H
 obtain⟨bj,bk,bl,bm⟩:=cells2 a.out
 have p:0≤(c:Int):=zzA
 have q:c<(l0_1.length:Int):=zzA
 obtain⟨ai,aX,aY,aZ,a0,aj,I,J,K,L,A,B,M,O,P,Q,S,T,U,V⟩:=at_T64 u.out c p q
 cases aj
 replace I:=sX HB I
 replace J:=sX HB J
 replace K:=sX HB K
 replace L:=sX HB L
 replace A:=sX HB A
 replace B:=sX HB B
 replace M:=sX HB M
 replace O:=sX HB O
 replace P:=sX HB P
 replace Q:=sX HB Q
 have a1:=zM T
 have a2:=zM S
 clear T S
 have a3:=zM V
 have a4:=zM U
 clear V U
 replace p:=eq_true p
 replace q:=eq_true q
 obtain⟨av,aw,ba⟩:=Kd.R_slice i.out
 subst ba
 go_wp2_with (first|((with_reducible refine gate_callee (f:=40) rfl ?_);refine sC (some 29) Try.func40 #[.slice av d.length aw,.int .i64 ((rd_T64 l0_1 c).f0)] (spec_l00Has.calls k1 _ _ d ((rd_T64 l0_1 c).f0) false _ ?side1 ?side2 au.out) ?_;(case side1=>exact sD ((Kd.R_reads' i.out).2.2));(case side2=>exact(Kd.R_reads' i.out).2.1);rintro e w' ⟨rfl,⟨nd,rfl⟩⟩;refine⟨_,rfl,?_⟩;have ak:0≤(c:Int):=zzA;have al:c<(l0_1.length:Int):=zzA;obtain⟨ad275,bn,bo,bp,bq,bb,ax,ay,az,aA,am,an,aC,aD,aE,aG,aH,aI,aJ,aK⟩:=at_T64 u.out c ak al;obtain rfl:ai=ad275:=(by injection bb);replace ax:=sX HB ax;replace ay:=sX HB ay;replace az:=sX HB az;replace aA:=sX HB aA;replace am:=sX HB am;replace an:=sX HB an;replace aC:=sX HB aC;replace aD:=sX HB aD;replace aE:=sX HB aE;replace aG:=sX HB aG;have br:=zM aI;have bs:=zM aH;clear aI aH;have bt:=zM aK;have bu:=zM aJ;clear aK aJ;replace ak:=eq_true ak;replace al:=eq_true al;have s:=zI (A.symm.trans am);injection s with s ao ap;subst s;subst ap;clear ao;have s:=zI (B.symm.trans an);injection s with s ao ap;subst s;subst ap;clear ao)|((with_reducible refine gate_builtin (b:= .append) (xs:= #[.tmp 31,.tmp 38]) rfl ?_);at_builtin;refine Kd.R_append (Kd.int .i64) (w0:=w) w.heap.size rfl (.tmp 31) (.tmp 38) 28 2 (.int .i64 0) 8 rfl Try.underlying28 info2 rfl (by decide) (by omega) u5 m ((rd_T64 l0_1 c).f0) [.int .i64 ((rd_T64 l0_1 c).f0)] (fun n=>some n≠(.slice av d.length aw:Value).ownBlock) (fun _=>False) rfl rfl ?aP (fun _ hk=>hk.elim) ?aF ?aO ?aB ?aS ?aL ?_;(case aP=>exact rfl);(case aB=>exact zzR);(case aF=>exact(fun n hk=>Kd.fresh' (Kd.R_lt (sE i.out)) n hk));(case aO=>exact(sE G.out));(case aS=>exact(below_size zzR));(case aL=>have:=a8.out;omega);intro bv bw ho hb hg hat;rw[←a9.out]at ho;have aM:=zM (Kd.R_after (ok:=(fun _=>True)) (by(with_reducible repeat(first|apply Kd.R_alloc|apply Kd.R_drewN|apply Kd.R_drew));exact Kd.R_mono i.out (fun _ hk=>⟨trivial,hk⟩)) hg hat);have aN:=zM (blk_grown (g:=x) (o:= .cells #[.int .i64 a0_0,.slice (some ai) l0_1.length c0_1] 32 (0,0)) (sT a.out) hg (Kd.R_ne G.out a.out (by decide)));have aQ:=zM (hb);have aR:=zM (ho);clear i;clear a;clear HB;clear G;have i:=aM;have a:=aN;have HB:=aQ;have bc:=aR;clear aM aN aQ aR;clear ho hb hg hat))
 go_roundg k1
 case measure=>have:=Y.out;omega
 case rel=>exact⟨(y276),(wrap64 (c+1)),sr,H',⟨by have:=Y.out;omega⟩,⟨by exact sE bc.out⟩,⟨by(with_reducible repeat(first|apply Kd.R_alloc|apply Kd.R_drewN|apply Kd.R_drew));exact Kd.R_mono i.out (fun _ hk=>hk.2)⟩,⟨by exact sT a.out⟩,⟨sb⟩⟩)
 rw[if_neg ab]at H
 exact absurd H (by simp))
 rw[if_neg Z]at H
 exact absurd H (by simp))
 rw[if_neg z]at H
 have c11b0:=zF z
 clear z
 obtain rfl:=zI H
 obtain⟨bx,bz,bA,bB⟩:=cells2 a.out
 go_wp2
 go_ret
 exact⟨_,sq,by(with_reducible repeat(first|apply Kd.R_alloc|apply Kd.R_drewN|apply Kd.R_drew));exact Kd.R_mono G.out (fun _ hk=>trivial),sb⟩)))
 replace E:=zB E
 subst E
 rewrite[if_neg zQ]at H
 obtain rfl:=zI H
 go_enter Try.func10,Try.ntmps10
 go_wp2_with (first|((with_reducible refine gate_dst (N:=2) rfl ?_);refine sV (N:=2) (cs:= #[.int .i64 a0_0,.slice A0_1 l0_1.length c0_1]) (t:=32) ?_;intro x hg bC hbox hb;have a:=zM (hbox);have aT:=sG HB hg;have y:=sG HB hg;replace HB:=sB HB hb;clear hb hbox hg)|((with_reducible refine gate_dst (N:=8) rfl ?_);refine Kd.R_lit (Kd.int .i64) _ 2 ?hg (N:=8) ?hd (xs:=([]:List Int)) (inner:=[]) (ok:=fun _=>True) (okp:=fun _=>True) ?hr ?hp (fun _ hk=>hk) trivial (Below.refl _ _) (Nat.le_refl _) (by simp) ?_;(case hd=>rfl);(case hg=>rfl);(case hr=>first|(go_simp;done)|(go_simp;rfl));(case hp=>exact(Reps.none _ _));intro aU bD W hb af ag;clear af ag;(first|rw[←X.out]at W|(simp only[Int.reduceToNat]at W;rw[←X.out]at W));have j:=zM (Kd.R_lower W (below_size zzR));replace a:=sK a hb;replace HB:=sB HB hb;clear hb W)|((with_reducible refine gate_callee (f:=38) rfl ?_);refine sC (some 10) Try.func38 #[.pointer (some ⟨x,0,none⟩),.slice A1 l1.length c1] (spec_l08Valid.calls k _ [(⟨a0_0,l0_1⟩:S32)] _ _ l1 false _ ?side1 ?side2 ?side3 A3.out) ?_;(case side1=>exact C_box (t:=32) (sT a.out) (k32_mk _ (⟨a0_0,l0_1⟩:S32) (by exact ac.out) (by exact sD (zC u.out HB.out))));(case side2=>exact sD (zC ad.out HB.out));(case side3=>exact ae.out);rintro e bE ⟨rfl,hb⟩;refine⟨_,rfl,?_⟩;replace j:=zM (Kd.R_below (sE j.out) hb);replace a:=sK a hb;replace HB:=sB HB hb;(try clear hb);(try clear hk)))
 go_ret
 exact⟨_,sq,by exact sE j.out,sb⟩
end Go.Proofs.Ytpdljgieaaicpaa.PFnExactGarbage
