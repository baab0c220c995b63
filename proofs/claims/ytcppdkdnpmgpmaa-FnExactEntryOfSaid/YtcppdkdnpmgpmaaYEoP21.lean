/- Printed functions: impl_PatternCode_marks. -/
import Derived.Test.YtcppdkdnpmgpmaaYEoP0
import Derived.Test.YtcppdkdnpmgpmaaYEoP15
import Derived.Test.YtcppdkdnpmgpmaaYEoP17
import Derived.Test.YtcppdkdnpmgpmaaYEoP18
import Derived.Test.YtcppdkdnpmgpmaaYEoP19
import Derived.Test.YtcppdkdnpmgpmaaYEoP20
namespace Go.Proofs.Ytcppdkdnpmgpmaa.PFnExactEntryOf
open Go.RowKit Go.Proofs.YtcppdkdnpmgpmaaG Go.Proofs.YtcppdkdnpmgpmaaW.PrintWords Go.Proofs.YtcppdkdnpmgpmaaW.PrintLast Go.Proofs.YtcppdkdnpmgpmaaW.PrintMore
attribute [local go_sem] max2_int min2_int max_two min_two max_three min_three max_four min_four
set_option linter.unusedVariables false
set_option linter.unusedSimpArgs false
mutual
def impl_PatternCode_marks.l0 : Nat → List Int → List Int → List Int → Int → Int → List (S55) → List (S51) → Option (List Int × Bool)
 |0,_,_,_,_,_,_,_=>none
 |k+1,x4,x6,x27,x28,x29,x323000,x323001=>if x29<x28 then(if 0≤x29 then(if x29<(x27.length:Int)then(if 0≤(rd x27 x29)then(if(rd x27 x29)<(x4.length:Int)then(impl_PatternCode_marks.l0 k (x4.set ((rd x27 x29):Int).toNat 0) x6 x27 x28 (wrap64 (x29+1)) x323000 x323001)else(none))else(none))else(none))else(none))else(impl_PatternCode_marks.l1 k x4 x6 x323000 x323001)
def impl_PatternCode_marks.l1 : Nat → List Int → List Int → List (S55) → List (S51) → Option (List Int × Bool)
 |0,_,_,_,_=>none
 |k+1,x4,x6,x323000,x323001=>if(x6.length:Int)>0 then(if 0≤(wrap64 ((x6.length:Int)- 1))then(if(wrap64 ((x6.length:Int)- 1))<(x6.length:Int)then(if(wrap64 ((x6.length:Int)- 1))≤(x6.length:Int)then((some (x6.take ((wrap64 ((x6.length:Int)- 1)):Int).toNat:List Int)).bind fun y342=>(if 0≤(rd x6 (wrap64 ((x6.length:Int)- 1)))then(if(rd x6 (wrap64 ((x6.length:Int)- 1)))<(x4.length:Int)then(if(rd x6 (wrap64 ((x6.length:Int)- 1)))<(x323000.length:Int)then(if((rd_T55 x323000 (rd x6 (wrap64 ((x6.length:Int)- 1)))).f0)=34 then(impl_PatternCode_marks.j3 k x4 y342 (rd x6 (wrap64 ((x6.length:Int)- 1))) (wrap64 ((rd x4 (rd x6 (wrap64 ((x6.length:Int)- 1))))+1)) x323000 x323001)else((impl_isCapture.f ((rd_T55 x323000 (rd x6 (wrap64 ((x6.length:Int)- 1)))).f0)).bind fun t347=>(if t347=true then(impl_PatternCode_marks.j2 k x4 y342 (rd x6 (wrap64 ((x6.length:Int)- 1))) (rd x4 (rd x6 (wrap64 ((x6.length:Int)- 1)))) true x323000 x323001)else(impl_PatternCode_marks.j2 k x4 y342 (rd x6 (wrap64 ((x6.length:Int)- 1))) (rd x4 (rd x6 (wrap64 ((x6.length:Int)- 1)))) (((rd_T55 x323000 (rd x6 (wrap64 ((x6.length:Int)- 1)))).f0)==37) x323000 x323001))))else(none))else(none))else(none)))else(none))else(none))else(none))else(some (x4,true))
def impl_PatternCode_marks.j3 : Nat → List Int → List Int → Int → Int → List (S55) → List (S51) → Option (List Int × Bool)
 |0,_,_,_,_,_,_=>none
 |k+1,x4,x6,x9,x10,x323000,x323001=>if x10<0 then(impl_PatternCode_marks.j4 k x4 x6 x9 x10 true x323000 x323001)else(if 0≤x9 then(if x9<(x323000.length:Int)then((impl_isLast.f ((rd_T55 x323000 x9).f0)).bind fun t349=>(if t349=true then(impl_PatternCode_marks.j4 k x4 x6 x9 x10 (decide (x10>0)) x323000 x323001)else(impl_PatternCode_marks.j4 k x4 x6 x9 x10 false x323000 x323001)))else(none))else(none))
def impl_PatternCode_marks.j4 : Nat → List Int → List Int → Int → Int → Bool → List (S55) → List (S51) → Option (List Int × Bool)
 |0,_,_,_,_,_,_,_=>none
 |k+1,x4,x6,x9,x10,x89,x323000,x323001=>if x89=true then(some (([]:List Int),false))else((impl_PatternCode_successors.f k x323000 x323001 x9).bind fun t350=>(impl_PatternCode_marks.l2 k x4 x6 x10 t350 (t350.length:Int) 0 x323000 x323001))
def impl_PatternCode_marks.l2 : Nat → List Int → List Int → Int → List Int → Int → Int → List (S55) → List (S51) → Option (List Int × Bool)
 |0,_,_,_,_,_,_,_,_=>none
 |k+1,x4,x6,x10,x92,x93,x94,x323000,x323001=>if x94<x93 then(if 0≤x94 then(if x94<(x92.length:Int)then(if 0≤(rd x92 x94)then(if(rd x92 x94)<(x4.length:Int)then(if(rd x4 (rd x92 x94))<0 then(if x6.length<17592186044416 then(impl_PatternCode_marks.l2 k (x4.set ((rd x92 x94):Int).toNat x10) (x6++[rd x92 x94]) x10 x92 x93 (wrap64 (x94+1)) x323000 x323001)else(none))else(if(rd x4 (rd x92 x94))=x10 then(impl_PatternCode_marks.l2 k x4 x6 x10 x92 x93 (wrap64 (x94+1)) x323000 x323001)else(some (([]:List Int),false))))else(none))else(none))else(none))else(none))else(impl_PatternCode_marks.l1 k x4 x6 x323000 x323001)
def impl_PatternCode_marks.j2 : Nat → List Int → List Int → Int → Int → Bool → List (S55) → List (S51) → Option (List Int × Bool)
 |0,_,_,_,_,_,_,_=>none
 |k+1,x4,x6,x9,x10,x66,x323000,x323001=>if x66=true then(impl_PatternCode_marks.j3 k x4 x6 x9 (wrap64 (x10- 1)) x323000 x323001)else(impl_PatternCode_marks.j3 k x4 x6 x9 x10 x323000 x323001)
end
def impl_PatternCode_marks.f (k:Nat) (l0_0:List (S55)) (l0_1:List (S51)):Option (List Int×Bool):=(slices_Repeat_int64_int64.f (([(-1)]:List Int)) (l0_0.length:Int)).bind fun t326=>((impl_PatternCode_regions.f k l0_0 l0_1).bind fun t329=>(if 0≤(wrap64 ((t329.length:Int)- 1))then(if(wrap64 ((t329.length:Int)- 1))≤(t329.length:Int)then((slices_Clone_int64_int64.f (t329.take ((wrap64 ((t329.length:Int)- 1)):Int).toNat)).bind fun t336=>(impl_PatternCode_marks.l0 k t326 t336 t336 (t336.length:Int) 0 l0_0 l0_1))else(none))else(none)))
set_option maxHeartbeats 8000000 in
set_option maxRecDepth 100000 in
theorem impl_PatternCode_marks.calls (k:Nat) (A0_0:Option Addr) (c0_0:Nat) (l0_0:List (S55)) (A0_1:Option Addr) (c0_1:Nat) (l0_1:List (S51)) (r1:List Int) (r2:Bool) (w:World) (hr0_0:Kd.C k55 w A0_0 l0_0.length l0_0) (hc0_0:l0_0.length≤c0_0) (hr0_1:Kd.C k51 w A0_1 l0_1.length l0_1) (hc0_1:l0_1.length≤c0_1) (h:impl_PatternCode_marks.f k l0_0 l0_1=some (r1,r2)):
  Calls Try.prog 38 #[.agg #[.slice A0_0 l0_0.length c0_0,.slice A0_1 l0_1.length c0_1]] w fun e w'=>∃cc:Value,e= .returned (.tuple #[cc,.bool r2])∧Kd.R (Kd.int .i64) 2 w' w.heap.size (fun _=>True) cc r1∧Below w.heap.size w w':=by
 have di:=Try.underlying32
 have bb:=zM hr0_0
 have cd:=zM hc0_0
 clear hr0_0 hc0_0
 have ce:=zM hr0_1
 have cf:=zM hc0_1
 clear hr0_1 hc0_1
 have HB:=zM (Below.refl w.heap.size w)
 have H:((slices_Repeat_int64_int64.f (([(-1)]:List Int)) (l0_0.length:Int)).bind fun ah=>((impl_PatternCode_regions.f k l0_0 l0_1).bind fun t329=>(if 0≤(wrap64 ((t329.length:Int)- 1))then(if(wrap64 ((t329.length:Int)- 1))≤(t329.length:Int)then((slices_Clone_int64_int64.f (t329.take ((wrap64 ((t329.length:Int)- 1)):Int).toNat)).bind fun n=>(impl_PatternCode_marks.l0 k ah n n (n.length:Int) 0 l0_0 l0_1))else(none))else(none))))=some (r1,r2):=h
 clear h
 obtain⟨y323,hy323⟩:∃O:List Int,O=(([(-1)]:List Int)):=⟨_,rfl⟩
 replace H:((slices_Repeat_int64_int64.f y323 (l0_0.length:Int)).bind fun ah=>((impl_PatternCode_regions.f k l0_0 l0_1).bind fun t329=>(if 0≤(wrap64 ((t329.length:Int)- 1))then(if(wrap64 ((t329.length:Int)- 1))≤(t329.length:Int)then((slices_Clone_int64_int64.f (t329.take ((wrap64 ((t329.length:Int)- 1)):Int).toNat)).bind fun n=>(impl_PatternCode_marks.l0 k ah n n (n.length:Int) 0 l0_0 l0_1))else(none))else(none))))=some (r1,r2):=by first|(rw[hy323];with_reducible exact H)|(have u:=(Option.bind_some _ _).symm.trans H;rw[hy323];with_reducible exact u)|(have u:=(Option.bind_some _ _).symm.trans H;with_reducible exact u)|with_reducible exact H|(rw[hy323];exact H)|exact H
 have cg:=zM hy323
 clear hy323
 obtain⟨ah,A2,H⟩:=sO H
 obtain⟨t329,A3,H⟩:=sO H
 obtain⟨ji4,hji4⟩:∃j_:Int,(wrap64 ((t329.length:Int)- 1))=j_:=⟨_,rfl⟩
 replace H:(if 0≤(ji4)then(if(ji4)≤(t329.length:Int)then((slices_Clone_int64_int64.f (t329.take ((ji4):Int).toNat)).bind fun n=>(impl_PatternCode_marks.l0 k ah n n (n.length:Int) 0 l0_0 l0_1))else(none))else(none))=some (r1,r2):=by first|(rw[hji4]at H;exact H)|(simp only[hji4]at H ⊢;exact H)
 (try rw[hji4]at A2)
 (try rw[hji4]at A3)
 have hji4w:(IntKind.i64.wrap ((t329.length:Int)- 1))=ji4:=(i64_w _).trans hji4
 by_cases Q:0≤(ji4)
 ·(
 rw[if_pos Q]at H
 have c5b0:=eq_true Q
 have c5b1:=zT Q
 clear Q
 by_cases S:(ji4)≤(t329.length:Int)
 ·(
 rw[if_pos S]at H
 have c6b0:=eq_true S
 have c6b1:=zT S
 clear S
 obtain⟨y332,hy332⟩:∃O:List Int,O=(t329.take ((ji4):Int).toNat):=⟨_,rfl⟩
 replace H:((slices_Clone_int64_int64.f y332).bind fun n=>(impl_PatternCode_marks.l0 k ah n n (n.length:Int) 0 l0_0 l0_1))=some (r1,r2):=by first|(rw[hy332];with_reducible exact H)|(have u:=(Option.bind_some _ _).symm.trans H;rw[hy332];with_reducible exact u)|(have u:=(Option.bind_some _ _).symm.trans H;with_reducible exact u)|with_reducible exact H|(rw[hy332];exact H)|exact H
 have ch:=zM hy332
 clear hy332
 obtain⟨n,A7,H⟩:=sO H
 have H':=zM H
 clear H
 go_enter Try.func38,Try.ntmps38
 go_wp2_with (first|((with_reducible refine gate_dst (N:=1) rfl ?_);refine sV (N:=1) (cs:= #[.slice A0_0 l0_0.length c0_0,.slice A0_1 l0_1.length c0_1]) (t:=32) ?_;intro ab hg w8 hbox hb;have j:=zM (hbox);have dj:=sG HB hg;have av:=sG HB hg;replace HB:=sB HB hb;clear hb hbox hg)|((with_reducible refine gate_dst (N:=14) rfl ?_);refine Kd.R_lit (Kd.int .i64) _ 2 ?hg (N:=14) ?hd (xs:=([(-1)]:List Int)) (inner:=[.int .i64 (-1)]) (ok:=fun _=>True) (okp:=fun _=>True) ?hr ?hp (fun _ hk=>hk) trivial (Below.refl _ _) (Nat.le_refl _) (by simp) ?_;(case hd=>rfl);(case hg=>rfl);(case hr=>first|(go_simp;done)|(go_simp;rfl));(case hp=>exact(Reps.one (show Kd.M (Kd.int .i64) _ _ _ (-1) [.int .i64 (-1)] from rfl) (Reps.none _ _)));intro dk w9 bc hb cB cC;clear cB cC;(first|rw[←cg.out]at bc|(simp only[Int.reduceToNat]at bc;rw[←cg.out]at bc));have K:=zM (Kd.R_lower bc (below_size zzR));replace j:=sK j hb;replace HB:=sB HB hb;clear hb bc;obtain⟨aR,aT,aU,aV⟩:=cells2 j.out;obtain⟨cD,cE,cF⟩:=Kd.R_slice K.out;subst cF)|((with_reducible refine gate_callee (f:=52) rfl ?_);refine sC (some 18) Try.func52 #[.slice cD y323.length cE,.int .i64 (l0_0.length:Int)] (slices_Repeat_int64_int64.calls _ _ y323 (l0_0.length:Int) ah _ ?side1 ?side2 A2.out) ?_;(case side1=>exact sD ((Kd.R_reads' K.out).2.2));(case side2=>exact(Kd.R_reads' K.out).2.1);rintro e dl ⟨bd,rfl,y,hb⟩;refine⟨_,rfl,?_⟩;have aw:=zM (Kd.R_lower (Kd.R_new' y (Kd.R_lt (sE K.out))) (below_size zzR));replace K:=zM (Kd.R_elder' (sE K.out) (Kd.R_base y) hb);replace j:=sK j hb;replace HB:=sB HB hb;(try clear hb);(try clear hk);(try clear y);obtain⟨aW,aX,aY,aZ⟩:=cells2 j.out)|((with_reducible refine gate_callee (f:=36) rfl ?_);refine sC (some 20) Try.func36 #[.agg #[.slice A0_0 l0_0.length c0_0,.slice A0_1 l0_1.length c0_1]] (impl_PatternCode_regions.calls k _ _ l0_0 _ _ l0_1 t329 _ ?side1 ?side2 ?side3 ?side4 A3.out) ?_;(case side1=>exact sD (zC bb.out HB.out));(case side2=>exact cd.out);(case side3=>exact sD (zC ce.out HB.out));(case side4=>exact cf.out);rintro e dm ⟨dn,rfl,y,hb⟩;refine⟨_,rfl,?_⟩;have a0:=zM (Kd.R_lower (Kd.R_new' (Kd.R_new' y (Kd.R_lt (sE K.out))) (Kd.R_lt (sE aw.out))) (below_size zzR));replace K:=zM (Kd.R_elder' (sE K.out) (Kd.R_base y) hb);replace aw:=zM (Kd.R_elder' (sE aw.out) (Kd.R_base y) hb);replace j:=sK j hb;replace HB:=sB HB hb;(try clear hb);(try clear hk);(try clear y);obtain⟨bO,co16,cG⟩:=Kd.R_slice a0.out;subst cG;have F:((ji4):Int)≤((t329.length:Int):Int):=zzA;obtain⟨dp,ci,_,cH,_⟩:=info_parts info2;have cj:t329.length≤co16:=(Kd.R_reads' a0.out).2.1;have ck:Kd.C (Kd.int .i64) _ bO t329.length t329:=(Kd.R_reads' a0.out).2.2;have cI:=cut_to (P:=Try.prog) 52 2 .i64 Try.underlying52 ci bO t329.length co16 (ji4) (zzA) F cj;have bP:=Kd.C_take (m:=((ji4):Int).toNat) ck (by omega);have bQ:y332.length=((ji4):Int).toNat:=(by rw[ch.out,List.length_take];omega);rw[←ch.out]at bP;rw[←bQ]at cI;have be:=zM bP;have cJ:=zM (show y332.length≤co16 from by omega);clear bP ck cj ci cH;have dq:=zM bQ;clear bQ;have dr:=zM (show((ji4):Int).toNat≤t329.length from by omega);replace F:=eq_true F)|((with_reducible refine gate_callee (f:=53) rfl ?_);refine sC (some 26) Try.func53 #[.slice bO y332.length co16] (slices_Clone_int64_int64.calls _ _ y332 n _ ?side1 ?side2 A7.out) ?_;(case side1=>exact sD (by repeat(first|(with_reducible exact be.out)|(with_reducible refine Kd.C_alloc ?_ _)|(with_reducible refine Kd.C_drewN ?_ _)|(with_reducible refine Kd.C_drew ?_)|exact be.out)));(case side2=>exact cJ.out);rintro e ds ⟨dt,rfl,y,hb⟩;refine⟨_,rfl,?_⟩;have bR:=zM (Kd.R_lower (Kd.R_new' (Kd.R_new' (Kd.R_new' y (Kd.R_lt (sE K.out))) (Kd.R_lt (sE aw.out))) (Kd.R_lt (sE a0.out))) (below_size zzR));replace K:=zM (Kd.R_elder' (sE K.out) (Kd.R_base y) hb);replace aw:=zM (Kd.R_elder' (sE aw.out) (Kd.R_base y) hb);replace a0:=zM (Kd.R_elder' (sE a0.out) (Kd.R_base y) hb);replace j:=sK j hb;replace be:=zM (zC (by repeat(first|(with_reducible exact be.out)|(with_reducible refine Kd.C_alloc ?_ _)|(with_reducible refine Kd.C_drewN ?_ _)|(with_reducible refine Kd.C_drew ?_)|exact be.out)) hb);replace HB:=sB HB hb;(try clear hb);(try clear hk);(try clear y);obtain⟨bq,a1,cK⟩:=Kd.R_slice bR.out;subst cK))
 go_loopg [29] k (fun kq cL w'=>∃(L:List Int) (z:Int),cL= .int .i64 z∧Aside0 (impl_PatternCode_marks.l0 kq L n n (n.length:Int) z l0_0 l0_1=some (r1,r2))∧Aside0 (kq≤k)∧Aside0 (Kd.R (Kd.int .i64) 2 w' w.heap.size (fun i=>some i≠((.slice bq n.length a1):Value).ownBlock∧some i≠((.slice bq n.length a1):Value).ownBlock) bd L)∧Aside0 (Kd.R (Kd.int .i64) 2 w' w.heap.size (fun i=>some i≠(bd:Value).ownBlock) (.slice bq n.length a1) n)∧Aside0 (Kd.R (Kd.int .i64) 2 w' w.heap.size (fun i=>some i≠(bd:Value).ownBlock) (.slice bq n.length a1) n)∧Aside0 (w'.heap[ab]?=some (.cells #[(.slice A0_0 l0_0.length c0_0),(.slice A0_1 l0_1.length c0_1)] 32 (0,0)))∧Aside0 (Below w.heap.size w w'))
 case atStart=>exact⟨(ah),(0),sr,H',⟨Nat.le_refl _⟩,⟨by(with_reducible repeat(first|apply Kd.R_alloc|apply Kd.R_drewN|apply Kd.R_drew));exact Kd.R_mono aw.out (fun _ hk=>⟨hk.2,hk.2⟩)⟩,⟨by(with_reducible repeat(first|apply Kd.R_alloc|apply Kd.R_drewN|apply Kd.R_drew));exact Kd.R_mono bR.out (fun _ hk=>hk.1.2)⟩,⟨by(with_reducible repeat(first|apply Kd.R_alloc|apply Kd.R_drewN|apply Kd.R_drew));exact Kd.R_mono bR.out (fun _ hk=>hk.1.2)⟩,⟨by exact sT j.out⟩,⟨sb⟩⟩
 case round=>(
 clear H'
 try clear Q
 try clear c5b0
 try clear c5b1
 try clear S
 try clear c6b0
 try clear c6b1
 try clear F
 try clear aR
 try clear aT
 try clear aW
 try clear aX
 try clear aU
 try clear aV
 try clear aY
 try clear aZ
 try clear F
 obtain⟨L,z,rfl,HA,D,l,r,bf,j,HB⟩:=hrel
 cases gk with
 |zero=>exact absurd HA.out (by simp[impl_PatternCode_marks.l0])
 |succ k1=>(
 have H:=HA.out
 clear HA
 simp only[impl_PatternCode_marks.l0]at H
 by_cases T:z<(n.length:Int)
 ·(
 rw[if_pos T]at H
 have c20b0:=zT T
 clear T
 by_cases br:0≤z
 ·(
 rw[if_pos br]at H
 have c21b0:=zT br
 clear br
 by_cases bs:z<(n.length:Int)
 ·(
 rw[if_pos bs]at H
 have c22b0:=zT bs
 clear bs
 by_cases bt:0≤(rd n z)
 ·(
 rw[if_pos bt]at H
 have c23b0:=zT bt
 clear bt
 by_cases bu:(rd n z)<(L.length:Int)
 ·(
 rw[if_pos bu]at H
 have c24b0:=zT bu
 clear bu
 obtain⟨y340,hy340⟩:∃O:List Int,O=(L.set ((rd n z):Int).toNat 0):=⟨_,rfl⟩
 replace H:(impl_PatternCode_marks.l0 k1 y340 n n (n.length:Int) (wrap64 (z+1)) l0_0 l0_1)=some (r1,r2):=by first|(rw[hy340];with_reducible exact H)|(have u:=(Option.bind_some _ _).symm.trans H;rw[hy340];with_reducible exact u)|(have u:=(Option.bind_some _ _).symm.trans H;with_reducible exact u)|with_reducible exact H|(rw[hy340];exact H)|exact H
 have cM:=zM hy340
 clear hy340
 have H':=zM H
 clear H
 have bS:0≤(z:Int):=zzA
 have bT:z<(n.length:Int):=zzA
 obtain⟨cl,cN,du⟩:=Kd.at_int (Kd.R_reads' bf.out).2.2 z bS bT
 cases cN
 replace bS:=eq_true bS
 replace bT:=eq_true bT
 have bU:0≤((rd n z):Int):=zzA
 have bV:((rd n z):Int)<((L.length:Int):Int):=zzA
 obtain⟨ax,bg,cm,cn,cO,dv,co⟩:=Kd.R_form l.out (by omega)
 (first|cases cm|(injection cm with ac bW bX;(first|subst ac|(injection ac with ac;subst ac));subst bX;clear bW))
 have cP:=zM cn
 have dw:=zM co
 clear cn cO co
 obtain⟨dx,dy⟩:=Kd.R_celln 0 l.out ((rd n z):Int) bU bV
 replace bU:=eq_true bU
 replace bV:=eq_true bV
 have bY:=Kd.R_putg l.out ((rd n z):Int) 0
 go_wp2_with (first|((with_reducible refine gate_store (t:=2) (p:=35) rfl ?_);refine store_event (t:=2) (p:=35) (v:=?vo_w27) (w1:=(wr.setCell ⟨ax,((rd n z):Int).toNat,none⟩ (.int .i64 0))) ?hg ?ho ?hn ?hr ?_;(case ho=>rfl);(case hg=>rfl);(case hn=>rfl);(case hr=>first|(go_simp;done)|(go_simp;rfl));intro bZ hw;have hg:wr.grownBy bZ (some ax):=(by rw[hw];exact bY.2);have bh:Kd.R (Kd.int .i64) 2 bZ w.heap.size (fun i=>some i≠(.slice (some cl) n.length a1:Value).ownBlock∧some i≠(.slice (some cl) n.length a1:Value).ownBlock) (.slice (some ⟨ax,0,none⟩) L.length bg) y340:=(by rw[hw,cM.out];exact bY.1);clear bY;have ai:=zM (bh);have aj:=zM (Kd.R_after (v:=(.slice (some ⟨ax,0,none⟩) L.length bg)) (v1:=(.slice (some ⟨ax,0,none⟩) L.length bg)) (ok:=(fun _=>True)) (by(with_reducible repeat(first|apply Kd.R_alloc|apply Kd.R_drewN|apply Kd.R_drew));exact Kd.R_mono r.out (fun _ hk=>⟨trivial,hk⟩)) hg (.inl rfl));have ak:=zM (Kd.R_after (v:=(.slice (some ⟨ax,0,none⟩) L.length bg)) (v1:=(.slice (some ⟨ax,0,none⟩) L.length bg)) (ok:=(fun _=>True)) (by(with_reducible repeat(first|apply Kd.R_alloc|apply Kd.R_drewN|apply Kd.R_drew));exact Kd.R_mono bf.out (fun _ hk=>⟨trivial,hk⟩)) hg (.inl rfl));have al:=zM (blk_grown (g:=ab) (o:= .cells #[.slice A0_0 l0_0.length c0_0,.slice A0_1 l0_1.length c0_1] 32 (0,0)) (sT j.out) hg (Kd.R_ne l.out j.out (by decide)));have am:=zM ((by rw[hw];exact below_set (HB.out) cP.out:Below w.heap.size w bZ));clear l;clear r;clear bf;clear j;clear HB;have l:=ai;have r:=aj;have bf:=ak;have j:=al;have HB:=am;clear ai aj ak al am;clear hg hw bh))
 go_roundg k1
 case measure=>have:=D.out;omega
 case rel=>exact⟨(y340),(wrap64 (z+1)),sr,H',⟨by have:=D.out;omega⟩,⟨by exact sE l.out⟩,⟨by(with_reducible repeat(first|apply Kd.R_alloc|apply Kd.R_drewN|apply Kd.R_drew));exact Kd.R_mono r.out (fun _ hk=>hk.2)⟩,⟨by(with_reducible repeat(first|apply Kd.R_alloc|apply Kd.R_drewN|apply Kd.R_drew));exact Kd.R_mono bf.out (fun _ hk=>hk.2)⟩,⟨by exact sT j.out⟩,⟨sb⟩⟩)
 rw[if_neg bu]at H
 exact absurd H (by simp))
 rw[if_neg bt]at H
 exact absurd H (by simp))
 rw[if_neg bs]at H
 exact absurd H (by simp))
 rw[if_neg br]at H
 exact absurd H (by simp))
 rw[if_neg T]at H
 have c20b0:=zF T
 clear T
 have H':=zM H
 clear H
 go_wp2
 go_loopg [6] k1 (fun kq v6 w'=>∃(q:List Int) (a:List Int),Aside0 (impl_PatternCode_marks.l1 kq q a l0_0 l0_1=some (r1,r2))∧Aside0 (kq≤k1)∧Aside0 (Kd.R (Kd.int .i64) 2 w' w.heap.size (fun i=>some i≠(v6:Value).ownBlock) bd q)∧Aside0 (Kd.R (Kd.int .i64) 2 w' w.heap.size (fun i=>some i≠(bd:Value).ownBlock) v6 a)∧Aside0 (w'.heap[ab]?=some (.cells #[(.slice A0_0 l0_0.length c0_0),(.slice A0_1 l0_1.length c0_1)] 32 (0,0)))∧Aside0 (Below w.heap.size w w'))
 case atStart=>exact⟨(L),(n),H',⟨Nat.le_refl _⟩,⟨by(with_reducible repeat(first|apply Kd.R_alloc|apply Kd.R_drewN|apply Kd.R_drew));exact Kd.R_mono l.out (fun _ hk=>hk.1)⟩,⟨by exact sE r.out⟩,⟨by exact sT j.out⟩,⟨sb⟩⟩
 case round=>(
 clear H'
 try clear Q
 try clear c5b0
 try clear c5b1
 try clear S
 try clear c6b0
 try clear c6b1
 try clear F
 try clear T
 try clear c20b0
 try clear aR
 try clear aT
 try clear aW
 try clear aX
 try clear aU
 try clear aV
 try clear aY
 try clear aZ
 try clear F
 obtain⟨q,a,HA,G,l,r,j,HB⟩:=hrel
 cases gk with
 |zero=>exact absurd HA.out (by simp[impl_PatternCode_marks.l1])
 |succ k2=>(
 have H:=HA.out
 clear HA
 simp only[impl_PatternCode_marks.l1]at H
 by_cases Z:(a.length:Int)>0
 ·(
 rw[if_pos Z]at H
 have c28b0:decide (0<(a.length:Int))=true:=zT Z
 have c28b1:decide (0<a.length)=true:=zT (by omega)
 clear Z
 obtain⟨ji29,hji29⟩:∃j_:Int,(wrap64 ((a.length:Int)- 1))=j_:=⟨_,rfl⟩
 replace H:(if 0≤(ji29)then(if(ji29)<(a.length:Int)then(if(ji29)≤(a.length:Int)then((some (a.take ((ji29):Int).toNat:List Int)).bind fun x=>(if 0≤(rd a (ji29))then(if(rd a (ji29))<(q.length:Int)then(if(rd a (ji29))<(l0_0.length:Int)then(if((rd_T55 l0_0 (rd a (ji29))).f0)=34 then(impl_PatternCode_marks.j3 k2 q x (rd a (ji29)) (wrap64 ((rd q (rd a (ji29)))+1)) l0_0 l0_1)else((impl_isCapture.f ((rd_T55 l0_0 (rd a (ji29))).f0)).bind fun bi=>(if bi=true then(impl_PatternCode_marks.j2 k2 q x (rd a (ji29)) (rd q (rd a (ji29))) true l0_0 l0_1)else(impl_PatternCode_marks.j2 k2 q x (rd a (ji29)) (rd q (rd a (ji29))) (((rd_T55 l0_0 (rd a (ji29))).f0)==37) l0_0 l0_1))))else(none))else(none))else(none)))else(none))else(none))else(none))=some (r1,r2):=by first|(rw[hji29]at H;exact H)|(simp only[hji29]at H ⊢;exact H)
 have hji29w:(IntKind.i64.wrap ((a.length:Int)- 1))=ji29:=(i64_w _).trans hji29
 by_cases an:0≤(ji29)
 ·(
 rw[if_pos an]at H
 have c30b0:=zT an
 clear an
 by_cases ao:(ji29)<(a.length:Int)
 ·(
 rw[if_pos ao]at H
 have c31b0:=zT ao
 clear ao
 by_cases ad:(ji29)≤(a.length:Int)
 ·(
 rw[if_pos ad]at H
 have c32b0:=eq_true ad
 have c32b1:=zT ad
 clear ad
 obtain⟨x,hy342⟩:∃O:List Int,O=(a.take ((ji29):Int).toNat):=⟨_,rfl⟩
 replace H:(if 0≤(rd a (ji29))then(if(rd a (ji29))<(q.length:Int)then(if(rd a (ji29))<(l0_0.length:Int)then(if((rd_T55 l0_0 (rd a (ji29))).f0)=34 then(impl_PatternCode_marks.j3 k2 q x (rd a (ji29)) (wrap64 ((rd q (rd a (ji29)))+1)) l0_0 l0_1)else((impl_isCapture.f ((rd_T55 l0_0 (rd a (ji29))).f0)).bind fun bi=>(if bi=true then(impl_PatternCode_marks.j2 k2 q x (rd a (ji29)) (rd q (rd a (ji29))) true l0_0 l0_1)else(impl_PatternCode_marks.j2 k2 q x (rd a (ji29)) (rd q (rd a (ji29))) (((rd_T55 l0_0 (rd a (ji29))).f0)==37) l0_0 l0_1))))else(none))else(none))else(none))=some (r1,r2):=by first|(rw[hy342];with_reducible exact H)|(have u:=(Option.bind_some _ _).symm.trans H;rw[hy342];with_reducible exact u)|(have u:=(Option.bind_some _ _).symm.trans H;with_reducible exact u)|with_reducible exact H|(rw[hy342];exact H)|exact H
 have cp:=zM hy342
 clear hy342
 by_cases ap:0≤(rd a (ji29))
 ·(
 rw[if_pos ap]at H
 have c33b0:=zT ap
 clear ap
 by_cases aq:(rd a (ji29))<(q.length:Int)
 ·(
 rw[if_pos aq]at H
 have c34b0:=zT aq
 clear aq
 by_cases ar:(rd a (ji29))<(l0_0.length:Int)
 ·(
 rw[if_pos ar]at H
 have c35b0:=zT ar
 clear ar
 have b0:=zM H
 clear H
 obtain⟨dz,ay,cQ⟩:=Kd.R_slice r.out
 subst cQ
 have az:0≤((ji29):Int):=zzA
 have aA:(ji29)<(a.length:Int):=zzA
 obtain⟨aC,cR,bv⟩:=Kd.at_int (Kd.R_reads' r.out).2.2 (ji29) az aA
 cases cR
 replace az:=eq_true az
 replace aA:=eq_true aA
 have U:((ji29):Int)≤((a.length:Int):Int):=zzA
 obtain⟨dA,cq,_,cS,_⟩:=info_parts info2
 have cT:=cut_to (P:=Try.prog) 52 2 .i64 Try.underlying52 cq (some aC) a.length ay (ji29) (zzA) U (Kd.R_reads' r.out).2.1
 have bw:=Kd.R_take (m:=((ji29):Int).toNat) r.out (by omega)
 have cr:x.length=((ji29):Int).toNat:=(by rw[cp.out,List.length_take];omega)
 rw[←cp.out]at bw
 rw[←cr]at bw cT
 clear cr cq cS r
 have b1:=zM bw
 clear bw
 replace U:=eq_true U
 obtain⟨dB,E,cU⟩:=Kd.R_slice l.out
 subst cU
 have aD:0≤((rd a (ji29)):Int):=zzA
 have aE:(rd a (ji29))<(q.length:Int):=zzA
 obtain⟨I,cV,bj⟩:=Kd.at_int (Kd.R_reads' l.out).2.2 (rd a (ji29)) aD aE
 cases cV
 replace aD:=eq_true aD
 replace aE:=eq_true aE
 obtain⟨bx,bz,bA,bB⟩:=cells2 j.out
 have aG:0≤((rd a (ji29)):Int):=zzA
 have aH:(rd a (ji29))<(l0_0.length:Int):=zzA
 obtain⟨ae,cW,a2,a3,a4⟩:=at_T55 bb.out (rd a (ji29)) aG aH
 cases cW
 replace a2:=sX HB a2
 replace a3:=sX HB a3
 replace a4:=sX HB a4
 replace aG:=eq_true aG
 replace aH:=eq_true aH
 go_upto_block 4 with(fail)
 go_cut [10] (fun cX wc=>∃(kq:Nat) (B:Int),cX= .int .i64 B∧Aside0 (impl_PatternCode_marks.j3 kq q x (rd a (ji29)) B l0_0 l0_1=some (r1,r2))∧Aside0 (kq≤k2)∧Aside0 (Kd.R (Kd.int .i64) 2 wc w.heap.size (fun i=>some i≠((.slice (some aC) x.length ay):Value).ownBlock) (.slice (some I) q.length E) q)∧Aside0 (Kd.R (Kd.int .i64) 2 wc w.heap.size (fun i=>some i≠((.slice (some I) q.length E):Value).ownBlock) (.slice (some aC) x.length ay) x)∧Aside0 (wc.heap[ab]?=some (.cells #[(.slice (some ae) l0_0.length c0_0),(.slice A0_1 l0_1.length c0_1)] 32 (0,0)))∧Aside0 (Below w.heap.size w wc))
 case first=>(
 have H:=b0.out
 clear b0
 by_cases au:((rd_T55 l0_0 (rd a (ji29))).f0)=34
 ·(
 rw[if_pos au]at H
 have c41b0:(((rd_T55 l0_0 (rd a (ji29))).f0)==34)=true:=zE au
 have c41b1:(((rd_T55 l0_0 (rd a (ji29))).f0) !=34)=false:=zY au
 clear au
 (first|rw[c41b0]|(simp only[i64_w,i32_w];rw[c41b0])|rw[c41b2]|skip)
 have H':=zM H
 clear H
 go_wp2
 go_meet
 case rel=>exact⟨_,(wrap64 ((rd q (rd a (ji29)))+1)),(by first|rfl|(simp;done)|(simp only[←hji29]<;>(first|rfl|simp))|(simp[*];done)),H',⟨by have:=D.out;have:=G.out;first|omega|exact Nat.le_refl _⟩,⟨by exact sE l.out⟩,⟨by exact sE b1.out⟩,⟨by exact sT j.out⟩,⟨sb⟩⟩)
 rw[if_neg au]at H
 have c41b0:(((rd_T55 l0_0 (rd a (ji29))).f0)==34)=false:=zN au
 have c41b1:(((rd_T55 l0_0 (rd a (ji29))).f0) !=34)=true:=zX au
 (first|rw[c41b0]|(simp only[i64_w,i32_w];rw[c41b0])|rw[c41b2]|skip)
 have b2:=zM H
 clear H
 go_upto_region 16 with(fail)
 go_cut [66] (fun cY wc=>∃(kq:Nat) (bC:Bool),cY= .bool bC∧Aside0 (impl_PatternCode_marks.j2 kq q x (rd a (ji29)) (rd q (rd a (ji29))) bC l0_0 l0_1=some (r1,r2))∧Aside0 (kq≤k2)∧Aside0 (Kd.R (Kd.int .i64) 2 wc w.heap.size (fun i=>some i≠((.slice (some aC) x.length ay):Value).ownBlock) (.slice (some I) q.length E) q)∧Aside0 (Kd.R (Kd.int .i64) 2 wc w.heap.size (fun i=>some i≠((.slice (some I) q.length E):Value).ownBlock) (.slice (some aC) x.length ay) x)∧Aside0 (wc.heap[ab]?=some (.cells #[(.slice (some ae) l0_0.length c0_0),(.slice A0_1 l0_1.length c0_1)] 32 (0,0)))∧Aside0 (Below w.heap.size w wc))
 case first=>(
 have H:=b2.out
 clear b2
 obtain⟨bi,ct,H⟩:=sO H
 by_cases bD:bi=true
 ·(
 subst bD
 rewrite[if_pos rfl]at H
 have H':=zM H
 clear H
 go_wp2_with (first|((with_reducible refine gate_callee (f:=46) rfl ?_);refine goesL_ (some 68) rfl rfl Try.func46 (by kernel_rfl) rfl #[.int .i64 ((rd_T55 l0_0 (rd a (ji29))).f0)] rfl (by(try simp only[List.map_toArray,List.map_cons,List.map_nil]);first|done|(simp only[hji29];rfl)|rfl|(simp only[List.length_drop,List.length_take];rfl)) ?_;(with_reducible refine(impl_isCapture.calls ((rd_T55 l0_0 (rd a (ji29))).f0) true _ ct.out).mono ?_);rintro e w' ⟨rfl,⟨nd,rfl⟩⟩;refine⟨_,rfl,?_⟩))
 go_meet
 case rel=>exact⟨_,(true),sr,H',⟨by have:=D.out;have:=G.out;first|omega|exact Nat.le_refl _⟩,⟨by exact sE l.out⟩,⟨by exact sE b1.out⟩,⟨by exact sT j.out⟩,⟨sb⟩⟩)
 replace bD:=zB bD
 subst bD
 rewrite[if_neg zQ]at H
 have H':=zM H
 clear H
 go_wp2_with (first|((with_reducible refine gate_callee (f:=46) rfl ?_);refine goesL_ (some 68) rfl rfl Try.func46 (by kernel_rfl) rfl #[.int .i64 ((rd_T55 l0_0 (rd a (ji29))).f0)] rfl (by(try simp only[List.map_toArray,List.map_cons,List.map_nil]);first|done|(simp only[hji29];rfl)|rfl|(simp only[List.length_drop,List.length_take];rfl)) ?_;(with_reducible refine(impl_isCapture.calls ((rd_T55 l0_0 (rd a (ji29))).f0) false _ ct.out).mono ?_);rintro e w' ⟨rfl,⟨nd,rfl⟩⟩;refine⟨_,rfl,?_⟩))
 go_meet
 case rel=>exact⟨_,((((rd_T55 l0_0 (rd a (ji29))).f0)==37)),(by first|rfl|(simp;done)|(simp only[←hji29]<;>(first|rfl|simp))|(simp[*];done)),H',⟨by have:=D.out;have:=G.out;first|omega|exact Nat.le_refl _⟩,⟨by exact sE l.out⟩,⟨by exact sE b1.out⟩,⟨by exact sT j.out⟩,⟨sb⟩⟩)
 case rest=>(
 clear b2
 try clear Q
 try clear c5b0
 try clear c5b1
 try clear S
 try clear c6b0
 try clear c6b1
 try clear F
 try clear T
 try clear c20b0
 try clear Z
 try clear c28b0
 try clear c28b1
 try clear an
 try clear c30b0
 try clear ao
 try clear c31b0
 try clear ad
 try clear c32b0
 try clear c32b1
 try clear ap
 try clear c33b0
 try clear aq
 try clear c34b0
 try clear ar
 try clear c35b0
 try clear U
 try clear au
 try clear c41b0
 try clear c41b1
 try clear c41b2
 try clear aR
 try clear aT
 try clear aW
 try clear aX
 try clear bx
 try clear bz
 try clear aU
 try clear aV
 try clear aY
 try clear aZ
 try clear bA
 try clear bB
 try clear bv
 try clear bj
 try clear a2
 try clear a3
 try clear a4
 try clear az
 try clear aD
 try clear aG
 try clear F
 try clear aA
 try clear aE
 try clear aH
 try clear U
 obtain⟨kq,bC,rfl,HA,cu,l,r,j,HB⟩:=hcut
 cases kq with
 |zero=>exact absurd HA.out (by simp[impl_PatternCode_marks.j2])
 |succ kj41=>(
 have H:=HA.out
 clear HA
 simp only[impl_PatternCode_marks.j2]at H
 by_cases bE:bC=true
 ·(
 subst bE
 rewrite[if_pos rfl]at H
 have H':=zM H
 clear H
 go_wp2
 go_meet
 case rel=>exact⟨_,(wrap64 ((rd q (rd a (ji29)))- 1)),(by first|rfl|(simp;done)|(simp only[←hji29]<;>(first|rfl|simp))|(simp[*];done)),H',⟨by have:=D.out;have:=G.out;have:=cu.out;first|omega|exact Nat.le_refl _⟩,⟨by exact sE l.out⟩,⟨by exact sE r.out⟩,⟨by exact sT j.out⟩,⟨sb⟩⟩)
 replace bE:=zB bE
 subst bE
 rewrite[if_neg zQ]at H
 have H':=zM H
 clear H
 go_wp2
 go_meet
 case rel=>exact⟨_,((rd q (rd a (ji29)))),(by first|rfl|(simp;done)|(simp only[←hji29]<;>(first|rfl|simp))|(simp[*];done)),H',⟨by have:=D.out;have:=G.out;have:=cu.out;first|omega|exact Nat.le_refl _⟩,⟨by exact sE l.out⟩,⟨by exact sE r.out⟩,⟨by exact sT j.out⟩,⟨sb⟩⟩)))
 case rest=>(
 clear b0
 try clear Q
 try clear c5b0
 try clear c5b1
 try clear S
 try clear c6b0
 try clear c6b1
 try clear F
 try clear T
 try clear c20b0
 try clear Z
 try clear c28b0
 try clear c28b1
 try clear an
 try clear c30b0
 try clear ao
 try clear c31b0
 try clear ad
 try clear c32b0
 try clear c32b1
 try clear ap
 try clear c33b0
 try clear aq
 try clear c34b0
 try clear ar
 try clear c35b0
 try clear U
 try clear aR
 try clear aT
 try clear aW
 try clear aX
 try clear bx
 try clear bz
 try clear aU
 try clear aV
 try clear aY
 try clear aZ
 try clear bA
 try clear bB
 try clear bv
 try clear bj
 try clear a2
 try clear a3
 try clear a4
 try clear az
 try clear aD
 try clear aG
 try clear F
 try clear aA
 try clear aE
 try clear aH
 try clear U
 obtain⟨kq,B,rfl,HA,af,l,r,j,HB⟩:=hcut
 cases kq with
 |zero=>exact absurd HA.out (by simp[impl_PatternCode_marks.j3])
 |succ kj35=>(
 have H:=HA.out
 clear HA
 simp only[impl_PatternCode_marks.j3]at H
 have b3:=zM H
 clear H
 go_upto_region 18 with(fail)
 go_cut [89] (fun cZ wc=>∃(kq:Nat) (bF:Bool),cZ= .bool bF∧Aside0 (impl_PatternCode_marks.j4 kq q x (rd a (ji29)) B bF l0_0 l0_1=some (r1,r2))∧Aside0 (kq≤kj35)∧Aside0 (Kd.R (Kd.int .i64) 2 wc w.heap.size (fun i=>some i≠((.slice (some aC) x.length ay):Value).ownBlock) (.slice (some I) q.length E) q)∧Aside0 (Kd.R (Kd.int .i64) 2 wc w.heap.size (fun i=>some i≠((.slice (some I) q.length E):Value).ownBlock) (.slice (some aC) x.length ay) x)∧Aside0 (wc.heap[ab]?=some (.cells #[(.slice (some ae) l0_0.length c0_0),(.slice A0_1 l0_1.length c0_1)] 32 (0,0)))∧Aside0 (Below w.heap.size w wc))
 case first=>(
 have H:=b3.out
 clear b3
 by_cases a5:B<0
 ·(
 rw[if_pos a5]at H
 have c47b0:=zT a5
 clear a5
 (first|rw[c47b0]|(simp only[i64_w,i32_w];rw[c47b0])|rw[c47b2]|skip)
 have H':=zM H
 clear H
 go_wp2
 go_meet
 case rel=>exact⟨_,(true),sr,H',⟨by have:=D.out;have:=G.out;have:=af.out;first|omega|exact Nat.le_refl _⟩,⟨by exact sE l.out⟩,⟨by exact sE r.out⟩,⟨by exact sT j.out⟩,⟨sb⟩⟩)
 rw[if_neg a5]at H
 have c47b0:=zF a5
 clear a5
 (first|rw[c47b0]|(simp only[i64_w,i32_w];rw[c47b0])|rw[c47b2]|skip)
 by_cases bG:0≤(rd a (ji29))
 ·(
 rw[if_pos bG]at H
 have c48b0:=zT bG
 clear bG
 by_cases bH:(rd a (ji29))<(l0_0.length:Int)
 ·(
 rw[if_pos bH]at H
 have c49b0:=zT bH
 clear bH
 obtain⟨c0,cv,H⟩:=sO H
 by_cases bI:c0=true
 ·(
 subst bI
 rewrite[if_pos rfl]at H
 have H':=zM H
 clear H
 obtain⟨dC,dD,dE,dF⟩:=cells2 j.out
 have aI:0≤((rd a (ji29)):Int):=zzA
 have aJ:(rd a (ji29))<(l0_0.length:Int):=zzA
 obtain⟨ad348,b4,bk,bl,bm⟩:=at_T55 bb.out (rd a (ji29)) aI aJ
 obtain rfl:ae=ad348:=(by injection b4)
 replace bk:=sX HB bk
 replace bl:=sX HB bl
 replace bm:=sX HB bm
 replace aI:=eq_true aI
 replace aJ:=eq_true aJ
 go_wp2_with (first|(go_at_call 51;(with_reducible refine(impl_isLast.calls ((rd_T55 l0_0 (rd a (ji29))).f0) true _ cv.out).mono ?_);rintro e w' ⟨rfl,⟨nd,rfl⟩⟩))
 go_meet
 case rel=>exact⟨_,(decide (B>0)),sr,H',⟨by have:=D.out;have:=G.out;have:=af.out;first|omega|exact Nat.le_refl _⟩,⟨by exact sE l.out⟩,⟨by exact sE r.out⟩,⟨by exact sT j.out⟩,⟨sb⟩⟩)
 replace bI:=zB bI
 subst bI
 rewrite[if_neg zQ]at H
 have H':=zM H
 clear H
 obtain⟨dG,dH,dI,dJ⟩:=cells2 j.out
 have aI:0≤((rd a (ji29)):Int):=zzA
 have aJ:(rd a (ji29))<(l0_0.length:Int):=zzA
 obtain⟨ad348,b4,bk,bl,bm⟩:=at_T55 bb.out (rd a (ji29)) aI aJ
 obtain rfl:ae=ad348:=(by injection b4)
 replace bk:=sX HB bk
 replace bl:=sX HB bl
 replace bm:=sX HB bm
 replace aI:=eq_true aI
 replace aJ:=eq_true aJ
 go_wp2_with (first|(go_at_call 51;(with_reducible refine(impl_isLast.calls ((rd_T55 l0_0 (rd a (ji29))).f0) false _ cv.out).mono ?_);rintro e w' ⟨rfl,⟨nd,rfl⟩⟩))
 go_meet
 case rel=>exact⟨_,(false),sr,H',⟨by have:=D.out;have:=G.out;have:=af.out;first|omega|exact Nat.le_refl _⟩,⟨by exact sE l.out⟩,⟨by exact sE r.out⟩,⟨by exact sT j.out⟩,⟨sb⟩⟩)
 rw[if_neg bH]at H
 exact absurd H (by simp))
 rw[if_neg bG]at H
 exact absurd H (by simp))
 case rest=>(
 clear b3
 try clear Q
 try clear c5b0
 try clear c5b1
 try clear S
 try clear c6b0
 try clear c6b1
 try clear F
 try clear T
 try clear c20b0
 try clear Z
 try clear c28b0
 try clear c28b1
 try clear an
 try clear c30b0
 try clear ao
 try clear c31b0
 try clear ad
 try clear c32b0
 try clear c32b1
 try clear ap
 try clear c33b0
 try clear aq
 try clear c34b0
 try clear ar
 try clear c35b0
 try clear U
 try clear aR
 try clear aT
 try clear aW
 try clear aX
 try clear bx
 try clear bz
 try clear aU
 try clear aV
 try clear aY
 try clear aZ
 try clear bA
 try clear bB
 try clear bv
 try clear bj
 try clear a2
 try clear a3
 try clear a4
 try clear az
 try clear aD
 try clear aG
 try clear F
 try clear aA
 try clear aE
 try clear aH
 try clear U
 obtain⟨kq,bF,rfl,HA,a6,l,r,j,HB⟩:=hcut
 cases kq with
 |zero=>exact absurd HA.out (by simp[impl_PatternCode_marks.j4])
 |succ kj45=>(
 have H:=HA.out
 clear HA
 simp only[impl_PatternCode_marks.j4]at H
 by_cases bn:bF=true
 ·(
 subst bn
 rewrite[if_pos rfl]at H
 simp only[Option.some.injEq,Prod.mk.injEq]at H
 obtain⟨rfl,rfl⟩:=H
 go_wp2
 go_ret2
 exact⟨_,by first|rfl|(simp[errW_none,errW_some]<;>rfl)|(simp only[←hji4, ←hji29];first|rfl|(simp[errW_none,errW_some]<;>rfl))|(simp[*,errW_none,errW_some]<;>rfl),by first|exact Kd.R_nil _ _ _ _ _|exact Kd.N_nil _ _ _ _ _|exact Kd.V_nil _ _ _ _ _|exact Kd.Q_nil _ _ _ _ _|exact Kd.S_nil _ _ _ _ _,sb⟩)
 replace bn:=zB bn
 subst bn
 rewrite[if_neg zQ]at H
 obtain⟨c,c1,H⟩:=sO H
 have H':=zM H
 clear H
 obtain⟨c2,c3,c4,c7⟩:=cells2 j.out
 go_wp2_with (first|((with_reducible refine gate_callee (f:=54) rfl ?_);refine goesL_ (some 92) rfl rfl Try.func54 (by kernel_rfl) rfl #[.agg #[.slice (some ae) l0_0.length c0_0,.slice A0_1 l0_1.length c0_1],.int .i64 (rd a (ji29))] rfl (by(try simp only[List.map_toArray,List.map_cons,List.map_nil]);first|done|(simp only[hji29];rfl)|rfl|(simp only[List.length_drop,List.length_take];rfl)) ?_;(with_reducible refine(impl_PatternCode_successors.calls kj45 _ _ l0_0 _ _ l0_1 (rd a (ji29)) c _ ?side1 ?side2 ?side3 ?side4 c1.out).mono ?_);(case side1=>exact sD (zC bb.out HB.out));(case side2=>exact cd.out);(case side3=>exact sD (zC ce.out HB.out));(case side4=>exact cf.out);rintro e dK ⟨dL,rfl,y,hb⟩;refine⟨_,rfl,?_⟩;have cw:=zM (Kd.R_lower (Kd.R_new' (Kd.R_new' y (Kd.R_lt (sE l.out))) (Kd.R_lt (sE r.out))) (below_size zzR));replace l:=zM (Kd.R_elder' (sE l.out) (Kd.R_base y) hb);replace r:=zM (Kd.R_elder' (sE r.out) (Kd.R_base y) hb);replace j:=sK j hb;replace HB:=sB HB hb;(try clear hb);(try clear y);obtain⟨b5,aK,c8⟩:=Kd.R_slice cw.out;subst c8))
 go_loopg [6,94] kj45 (fun kq v6 c9 w'=>∃(s:List Int) (aa:List Int) (d:Int),c9= .int .i64 d∧Aside0 (impl_PatternCode_marks.l2 kq s aa B c (c.length:Int) d l0_0 l0_1=some (r1,r2))∧Aside0 (kq≤kj45)∧Aside0 (Kd.R (Kd.int .i64) 2 w' w.heap.size (fun i=>some i≠(v6:Value).ownBlock∧some i≠((.slice b5 c.length aK):Value).ownBlock) (.slice (some I) q.length E) s)∧Aside0 (Kd.R (Kd.int .i64) 2 w' w.heap.size (fun i=>some i≠((.slice (some I) q.length E):Value).ownBlock∧some i≠((.slice b5 c.length aK):Value).ownBlock) v6 aa)∧Aside0 (Kd.R (Kd.int .i64) 2 w' w.heap.size (fun i=>some i≠((.slice (some I) q.length E):Value).ownBlock∧some i≠(v6:Value).ownBlock) (.slice b5 c.length aK) c)∧Aside0 (w'.heap[ab]?=some (.cells #[(.slice (some ae) l0_0.length c0_0),(.slice A0_1 l0_1.length c0_1)] 32 (0,0)))∧Aside0 (Below w.heap.size w w'))
 case atStart=>exact⟨(q),(x),(0),sr,H',⟨Nat.le_refl _⟩,⟨by exact sE l.out⟩,⟨by exact sE r.out⟩,⟨by(with_reducible repeat(first|apply Kd.R_alloc|apply Kd.R_drewN|apply Kd.R_drew));exact Kd.R_mono cw.out (fun _ hk=>⟨hk.1.2,hk.2⟩)⟩,⟨by exact sT j.out⟩,⟨sb⟩⟩
 case round=>(
 clear H'
 try clear Q
 try clear c5b0
 try clear c5b1
 try clear S
 try clear c6b0
 try clear c6b1
 try clear F
 try clear T
 try clear c20b0
 try clear Z
 try clear c28b0
 try clear c28b1
 try clear an
 try clear c30b0
 try clear ao
 try clear c31b0
 try clear ad
 try clear c32b0
 try clear c32b1
 try clear ap
 try clear c33b0
 try clear aq
 try clear c34b0
 try clear ar
 try clear c35b0
 try clear U
 try clear bn
 try clear aR
 try clear aT
 try clear aW
 try clear aX
 try clear bx
 try clear bz
 try clear c2
 try clear c3
 try clear aU
 try clear aV
 try clear aY
 try clear aZ
 try clear bA
 try clear bB
 try clear c4
 try clear c7
 try clear bv
 try clear bj
 try clear a2
 try clear a3
 try clear a4
 try clear az
 try clear aD
 try clear aG
 try clear F
 try clear aA
 try clear aE
 try clear aH
 try clear U
 obtain⟨s,aa,d,rfl,HA,a7,l,r,J,j,HB⟩:=hrel
 have A:=(Kd.R_reads' l.out).1
 rw[A]at l
 (try simp only[A])
 (try simp only[A]at j)
 (try simp only[A]at r)
 (try simp only[A]at J)
 cases gk with
 |zero=>exact absurd HA.out (by simp[impl_PatternCode_marks.l2])
 |succ k5=>(
 have H:=HA.out
 clear HA
 simp only[impl_PatternCode_marks.l2]at H
 by_cases a8:d<(c.length:Int)
 ·(
 rw[if_pos a8]at H
 have c59b0:=zT a8
 clear a8
 by_cases bJ:0≤d
 ·(
 rw[if_pos bJ]at H
 have c60b0:=zT bJ
 clear bJ
 by_cases bK:d<(c.length:Int)
 ·(
 rw[if_pos bK]at H
 have c61b0:=zT bK
 clear bK
 by_cases bL:0≤(rd c d)
 ·(
 rw[if_pos bL]at H
 have c62b0:=zT bL
 clear bL
 by_cases bM:(rd c d)<(s.length:Int)
 ·(
 rw[if_pos bM]at H
 have c63b0:=zT bM
 clear bM
 by_cases a9:(rd s (rd c d))<0
 ·(
 rw[if_pos a9]at H
 have c64b0:=zT a9
 clear a9
 obtain⟨y355,hy355⟩:∃O:List Int,O=(s.set ((rd c d):Int).toNat B):=⟨_,rfl⟩
 replace H:(if aa.length<17592186044416 then(impl_PatternCode_marks.l2 k5 y355 (aa++[rd c d]) B c (c.length:Int) (wrap64 (d+1)) l0_0 l0_1)else(none))=some (r1,r2):=by first|(rw[hy355];with_reducible exact H)|(have u:=(Option.bind_some _ _).symm.trans H;rw[hy355];with_reducible exact u)|(have u:=(Option.bind_some _ _).symm.trans H;with_reducible exact u)|with_reducible exact H|(rw[hy355];exact H)|exact H
 have da:=zM hy355
 clear hy355
 by_cases bN:aa.length<17592186044416
 ·(
 rw[if_pos bN]at H
 have db:=zM bN
 clear bN
 obtain⟨y356,hy356⟩:∃O:List Int,O=(aa++[rd c d]):=⟨_,rfl⟩
 replace H:(impl_PatternCode_marks.l2 k5 y355 y356 B c (c.length:Int) (wrap64 (d+1)) l0_0 l0_1)=some (r1,r2):=by first|(rw[hy356];with_reducible exact H)|(have u:=(Option.bind_some _ _).symm.trans H;rw[hy356];with_reducible exact u)|(have u:=(Option.bind_some _ _).symm.trans H;with_reducible exact u)|with_reducible exact H|(rw[hy356];exact H)|exact H
 have dc:=zM hy356
 clear hy356
 have H':=zM H
 clear H
 have V:0≤(d:Int):=zzA
 have W:d<(c.length:Int):=zzA
 obtain⟨ba,bo,cx⟩:=Kd.at_int (Kd.R_reads' J.out).2.2 d V W
 cases bo
 replace V:=eq_true V
 replace W:=eq_true W
 have X:0≤((rd c d):Int):=zzA
 have Y:(rd c d)<(s.length:Int):=zzA
 obtain⟨ad354,bp,b6⟩:=Kd.at_int (Kd.R_reads' l.out).2.2 (rd c d) X Y
 obtain rfl:I=ad354:=(by injection bp)
 replace X:=eq_true X
 replace Y:=eq_true Y
 have b7:0≤((rd c d):Int):=zzA
 have b8:((rd c d):Int)<((s.length:Int):Int):=zzA
 obtain⟨ag,dM,cy,cz,dd,dN,cA⟩:=Kd.R_form l.out (by omega)
 (first|cases cy|(injection cy with ac bW bX;(first|subst ac|(injection ac with ac;subst ac));subst bX;clear bW))
 have de:=zM cz
 have dO:=zM cA
 clear cz dd cA
 (first|simp only[add_plain]at bj|skip)
 (first|simp only[add_plain]at b6|skip)
 obtain⟨dP,dQ⟩:=Kd.R_celln 0 l.out ((rd c d):Int) b7 b8
 replace b7:=eq_true b7
 replace b8:=eq_true b8
 have b9:=Kd.R_putg l.out ((rd c d):Int) B
 go_wp2_with (first|((with_reducible refine gate_store (t:=2) (p:=107) rfl ?_);refine store_event (t:=2) (p:=107) (v:=?vo_w68) (w1:=(wr.setCell ⟨ag,((rd c d):Int).toNat,none⟩ (.int .i64 B))) ?hg ?ho ?hn ?hr ?_;(case ho=>rfl);(case hg=>rfl);(case hn=>rfl);(case hr=>first|(go_simp;done)|(go_simp;rfl));intro ca hw;have hg:wr.grownBy ca (some ag):=(by rw[hw];exact b9.2);have bh:Kd.R (Kd.int .i64) 2 ca w.heap.size (fun i=>some i≠(u6:Value).ownBlock∧some i≠(.slice (some ba) c.length aK:Value).ownBlock) (.slice (some ⟨ag,0,none⟩) s.length E) y355:=(by rw[hw,da.out];exact b9.1);clear b9;have ai:=zM (bh);have aj:=zM (Kd.R_after (v:=(.slice (some ⟨ag,0,none⟩) s.length E)) (v1:=(.slice (some ⟨ag,0,none⟩) s.length E)) (ok:=(fun i=>some i≠(.slice (some ba) c.length aK:Value).ownBlock)) (by(with_reducible repeat(first|apply Kd.R_alloc|apply Kd.R_drewN|apply Kd.R_drew));exact Kd.R_mono r.out (fun _ hk=>⟨hk.2,hk.1⟩)) hg (.inl rfl));have ak:=zM (Kd.R_after (v:=(.slice (some ⟨ag,0,none⟩) s.length E)) (v1:=(.slice (some ⟨ag,0,none⟩) s.length E)) (ok:=(fun i=>some i≠(u6:Value).ownBlock)) (by(with_reducible repeat(first|apply Kd.R_alloc|apply Kd.R_drewN|apply Kd.R_drew));exact Kd.R_mono J.out (fun _ hk=>⟨hk.2,hk.1⟩)) hg (.inl rfl));have al:=zM (blk_grown (g:=ab) (o:= .cells #[.slice (some ae) l0_0.length c0_0,.slice A0_1 l0_1.length c0_1] 32 (0,0)) (sT j.out) hg (Kd.R_ne l.out j.out (by decide)));have am:=zM ((by rw[hw];exact below_set (HB.out) de.out:Below w.heap.size w ca));clear l;clear r;clear J;clear j;clear HB;have l:=ai;have r:=aj;have J:=ak;have j:=al;have HB:=am;clear ai aj ak al am;clear hg hw bh)|((with_reducible refine gate_builtin (b:= .append) (xs:= #[.tmp 108,.tmp 110]) rfl ?_);at_builtin;refine Kd.R_append (Kd.int .i64) (w0:=w) w.heap.size rfl (.tmp 108) (.tmp 110) 52 2 (.int .i64 0) 8 rfl Try.underlying52 info2 rfl (by decide) (by omega) u6 aa (rd c d) [.int .i64 (rd c d)] (fun i=>some i≠(.slice (some ⟨ag,0,none⟩) s.length E:Value).ownBlock∧some i≠(.slice (some ba) c.length aK:Value).ownBlock) (fun _=>False) rfl rfl ?aP (fun _ hk=>hk.elim) ?aF ?aO ?aB ?aS ?aL ?_;(case aP=>exact rfl);(case aB=>exact zzR);(case aF=>exact(fun i hk=>⟨Kd.fresh' (Kd.R_lt (sE l.out)) i hk,Kd.fresh' (Kd.R_lt (sE J.out)) i hk⟩));(case aO=>exact(by(with_reducible repeat(first|apply Kd.R_alloc|apply Kd.R_drewN|apply Kd.R_drew));exact Kd.R_mono r.out (fun _ hk=>⟨hk.2,hk.1⟩)));(case aS=>exact(below_size zzR));(case aL=>have:=db.out;omega);intro dR dS ho hb hg hat;rw[←dc.out]at ho;have ai:=zM (Kd.R_after (ok:=(fun i=>some i≠(.slice (some ba) c.length aK:Value).ownBlock)) (by(with_reducible repeat(first|apply Kd.R_alloc|apply Kd.R_drewN|apply Kd.R_drew));exact Kd.R_mono l.out (fun _ hk=>⟨hk.2,hk.1⟩)) hg hat);have aj:=zM (Kd.R_after (ok:=(fun i=>some i≠(.slice (some ⟨ag,0,none⟩) s.length E:Value).ownBlock)) (by(with_reducible repeat(first|apply Kd.R_alloc|apply Kd.R_drewN|apply Kd.R_drew));exact Kd.R_mono J.out (fun _ hk=>⟨hk.2,hk.1⟩)) hg hat);have ak:=zM (blk_grown (g:=ab) (o:= .cells #[.slice (some ae) l0_0.length c0_0,.slice A0_1 l0_1.length c0_1] 32 (0,0)) (sT j.out) hg (Kd.R_ne r.out j.out (by decide)));have al:=zM (hb);have am:=zM (ho);clear l;clear J;clear j;clear HB;clear r;have l:=ai;have J:=aj;have j:=ak;have HB:=al;have df:=am;clear ai aj ak al am;clear ho hb hg hat))
 (try simp only[←A])
 go_roundg k5
 case measure=>have:=D.out;have:=G.out;have:=af.out;have:=a6.out;have:=a7.out;omega
 case rel=>exact⟨(y355),(y356),(wrap64 (d+1)),sr,H',⟨by have:=D.out;have:=G.out;have:=af.out;have:=a6.out;have:=a7.out;omega⟩,⟨by(try simp only[A]);(with_reducible repeat(first|apply Kd.R_alloc|apply Kd.R_drewN|apply Kd.R_drew));exact Kd.R_mono l.out (fun _ hk=>⟨hk.2,hk.1⟩)⟩,⟨by(try simp only[A]);exact sE df.out⟩,⟨by(try simp only[A]);exact sE J.out⟩,⟨by(try simp only[A]);exact sT j.out⟩,⟨sb⟩⟩)
 rw[if_neg bN]at H
 exact absurd H (by simp))
 rw[if_neg a9]at H
 have c64b0:=zF a9
 clear a9
 by_cases aM:(rd s (rd c d))=B
 ·(
 rw[if_pos aM]at H
 have c70b0:((rd s (rd c d))==B)=true:=zE aM
 have c70b1:((rd s (rd c d)) !=B)=false:=zY aM
 clear aM
 have H':=zM H
 clear H
 have V:0≤(d:Int):=zzA
 have W:d<(c.length:Int):=zzA
 obtain⟨ba,bo,cx⟩:=Kd.at_int (Kd.R_reads' J.out).2.2 d V W
 cases bo
 replace V:=eq_true V
 replace W:=eq_true W
 have X:0≤((rd c d):Int):=zzA
 have Y:(rd c d)<(s.length:Int):=zzA
 obtain⟨ad354,bp,b6⟩:=Kd.at_int (Kd.R_reads' l.out).2.2 (rd c d) X Y
 obtain rfl:I=ad354:=(by injection bp)
 replace X:=eq_true X
 replace Y:=eq_true Y
 have aN:0≤((rd c d):Int):=zzA
 have aQ:(rd c d)<(s.length:Int):=zzA
 obtain⟨ad359,cb,dg⟩:=Kd.at_int (Kd.R_reads' l.out).2.2 (rd c d) aN aQ
 obtain rfl:I=ad359:=(by injection cb)
 replace aN:=eq_true aN
 replace aQ:=eq_true aQ
 go_wp2
 (try simp only[←A])
 go_roundg k5
 case measure=>have:=D.out;have:=G.out;have:=af.out;have:=a6.out;have:=a7.out;omega
 case rel=>exact⟨(s),(aa),(wrap64 (d+1)),sr,H',⟨by have:=D.out;have:=G.out;have:=af.out;have:=a6.out;have:=a7.out;omega⟩,⟨by(try simp only[A]);exact sE l.out⟩,⟨by(try simp only[A]);exact sE r.out⟩,⟨by(try simp only[A]);exact sE J.out⟩,⟨by(try simp only[A]);exact sT j.out⟩,⟨sb⟩⟩)
 rw[if_neg aM]at H
 have c70b0:((rd s (rd c d))==B)=false:=zN aM
 have c70b1:((rd s (rd c d)) !=B)=true:=zX aM
 simp only[Option.some.injEq,Prod.mk.injEq]at H
 obtain⟨rfl,rfl⟩:=H
 have V:0≤(d:Int):=zzA
 have W:d<(c.length:Int):=zzA
 obtain⟨ba,bo,cx⟩:=Kd.at_int (Kd.R_reads' J.out).2.2 d V W
 cases bo
 replace V:=eq_true V
 replace W:=eq_true W
 have X:0≤((rd c d):Int):=zzA
 have Y:(rd c d)<(s.length:Int):=zzA
 obtain⟨ad354,bp,b6⟩:=Kd.at_int (Kd.R_reads' l.out).2.2 (rd c d) X Y
 obtain rfl:I=ad354:=(by injection bp)
 replace X:=eq_true X
 replace Y:=eq_true Y
 have aN:0≤((rd c d):Int):=zzA
 have aQ:(rd c d)<(s.length:Int):=zzA
 obtain⟨ad359,cb,dg⟩:=Kd.at_int (Kd.R_reads' l.out).2.2 (rd c d) aN aQ
 obtain rfl:I=ad359:=(by injection cb)
 replace aN:=eq_true aN
 replace aQ:=eq_true aQ
 go_wp2
 go_ret2
 exact⟨_,by first|rfl|(simp[errW_none,errW_some]<;>rfl)|(simp only[←hji4, ←hji29];first|rfl|(simp[errW_none,errW_some]<;>rfl))|(simp[*,errW_none,errW_some]<;>rfl),by first|exact Kd.R_nil _ _ _ _ _|exact Kd.N_nil _ _ _ _ _|exact Kd.V_nil _ _ _ _ _|exact Kd.Q_nil _ _ _ _ _|exact Kd.S_nil _ _ _ _ _,sb⟩)
 rw[if_neg bM]at H
 exact absurd H (by simp))
 rw[if_neg bL]at H
 exact absurd H (by simp))
 rw[if_neg bK]at H
 exact absurd H (by simp))
 rw[if_neg bJ]at H
 exact absurd H (by simp))
 rw[if_neg a8]at H
 have c59b0:=zF a8
 clear a8
 have H':=zM H
 clear H
 go_wp2
 (try simp only[←A])
 go_roundg k5
 case measure=>have:=D.out;have:=G.out;have:=af.out;have:=a6.out;have:=a7.out;omega
 case rel=>exact⟨(s),(aa),H',⟨by have:=D.out;have:=G.out;have:=af.out;have:=a6.out;have:=a7.out;omega⟩,⟨by(try simp only[A]);(with_reducible repeat(first|apply Kd.R_alloc|apply Kd.R_drewN|apply Kd.R_drew));exact Kd.R_mono l.out (fun _ hk=>hk.1)⟩,⟨by(try simp only[A]);(with_reducible repeat(first|apply Kd.R_alloc|apply Kd.R_drewN|apply Kd.R_drew));exact Kd.R_mono r.out (fun _ hk=>hk.1)⟩,⟨by(try simp only[A]);exact sT j.out⟩,⟨sb⟩⟩)))))))
 rw[if_neg ar]at H
 exact absurd H (by simp))
 rw[if_neg aq]at H
 exact absurd H (by simp))
 rw[if_neg ap]at H
 exact absurd H (by simp))
 rw[if_neg ad]at H
 exact absurd H (by simp))
 rw[if_neg ao]at H
 exact absurd H (by simp))
 rw[if_neg an]at H
 exact absurd H (by simp))
 rw[if_neg Z]at H
 have c28b0:decide (0<(a.length:Int))=false:=zF Z
 have c28b1:decide (0<a.length)=false:=zF (by omega)
 clear Z
 simp only[Option.some.injEq,Prod.mk.injEq]at H
 obtain⟨rfl,rfl⟩:=H
 obtain⟨dT,dU,dh⟩:=Kd.R_slice r.out
 subst dh
 go_wp2
 go_ret2
 exact⟨_,by first|rfl|(simp[errW_none,errW_some]<;>rfl)|(simp only[←hji4];first|rfl|(simp[errW_none,errW_some]<;>rfl))|(simp[*,errW_none,errW_some]<;>rfl),by(with_reducible repeat(first|apply Kd.R_alloc|apply Kd.R_drewN|apply Kd.R_drew));exact Kd.R_mono l.out (fun _ hk=>trivial),sb⟩)))))
 rw[if_neg S]at H
 exact absurd H (by simp))
 rw[if_neg Q]at H
 exact absurd H (by simp)
end Go.Proofs.Ytcppdkdnpmgpmaa.PFnExactEntryOf
