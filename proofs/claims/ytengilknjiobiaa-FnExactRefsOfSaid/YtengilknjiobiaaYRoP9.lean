/- Printed functions: spec_RefsOf. -/
import Derived.Test.YtengilknjiobiaaYRoP0
import Derived.Test.YtengilknjiobiaaYRoP3
import Derived.Test.YtengilknjiobiaaYRoP7
import Derived.Test.YtengilknjiobiaaYRoP8
namespace Go.Proofs.Ytengilknjiobiaa.PFnExactRefsOf
open Go.RowKit Go.Proofs.YtengilknjiobiaaG Go.Proofs.YtengilknjiobiaaW.PrintWords Go.Proofs.YtengilknjiobiaaW.PrintLast Go.Proofs.YtengilknjiobiaaW.PrintMore
attribute [local go_sem] max2_int min2_int max_two min_two max_three min_three max_four min_four
set_option linter.unusedVariables false
set_option linter.unusedSimpArgs false
def spec_RefsOf.l0 : Nat → List Int → List (S29) → Int → Option (List Int)
 |0,_,_,_=>none
 |k+1,x3,x4,x5=>if x5<(x4.length:Int)then(if 0≤x5 then((spec_l07IsRef.f ((rd_T29 x4 x5).f0) ((rd_T29 x4 x5).f1) ((rd_T29 x4 x5).f2) ((rd_T29 x4 x5).f3)).bind fun t218=>(if t218=true then((spec_l00Put.f k x3 ((rd_T29 x4 x5).f3)).bind fun t220=>(spec_RefsOf.l0 k t220 x4 (wrap64 (x5+1))))else(spec_RefsOf.l0 k x3 x4 (wrap64 (x5+1)))))else(none))else(some x3)
def spec_RefsOf.f (k:Nat) (a0_0:Int) (a0_1:Int) (a0_2:ByteArray) (a0_3:Int) (l0_4:List (S29)) (l0_5:List (S29)) (a0_6:Int) (a0_7:Int) (a0_8:ByteArray) (a0_9:Int):Option (List Int):=(some (([]:List Int):List Int)).bind fun y201=>((spec_l07Object.f k a0_0 a0_1 a0_2 a0_3 l0_4 l0_5 a0_6 a0_7 a0_8 a0_9).bind fun t204=>(if t204=true then((spec_l07OwnValues.f l0_4).bind fun t205=>(if t205.length+l0_5.length<3518437208883 then((some (t205++l0_5:List (S29))).bind fun y208=>((some (([(⟨a0_6,a0_7,a0_8,a0_9⟩:S29)]:List (S29)):List (S29))).bind fun y211=>(if y208.length+y211.length<3518437208883 then(spec_RefsOf.l0 k y201 (y208++y211) 0)else(none))))else(none)))else(some y201)))
def spec_RefsOf.T4:Bool×List (List Nat×List Nat):=(true,[([],[]),([0],[0]),([1],[1]),([],[]),([3],[3]),([2,4,2],[2,4]),([],[]),([6],[6]),([7],[7]),([5,8,5],[5,8]),([9,9,0,1,2,3,4,5,6,7,8,9],[9])])
def spec_RefsOf.B4:List Nat:=[0,1,3,0,8,31,0,64,192,511,1023]
theorem spec_RefsOf.tab4:rtab .any (opsOf Try.f26 4)=spec_RefsOf.T4:=by kernel_rfl
theorem spec_RefsOf.bits4:waitsOk spec_RefsOf.T4.2 spec_RefsOf.B4=true:=by kernel_rfl
set_option maxHeartbeats 8000000 in
set_option maxRecDepth 100000 in
theorem spec_RefsOf.calls (k:Nat) (a0_0:Int) (a0_1:Int) (a0_2:ByteArray) (a0_3:Int) (A0_4:Option Addr) (c0_4:Nat) (l0_4:List (S29)) (A0_5:Option Addr) (c0_5:Nat) (l0_5:List (S29)) (a0_6:Int) (a0_7:Int) (a0_8:ByteArray) (a0_9:Int) (r:List Int) (w:World) (hr0_4:Kd.C k29 w A0_4 l0_4.length l0_4) (hc0_4:l0_4.length≤c0_4) (hr0_5:Kd.C k29 w A0_5 l0_5.length l0_5) (hc0_5:l0_5.length≤c0_5) (h:spec_RefsOf.f k a0_0 a0_1 a0_2 a0_3 l0_4 l0_5 a0_6 a0_7 a0_8 a0_9=some r):
  Calls Try.prog 26 #[.agg #[.int .i64 a0_0,.int .i64 a0_1,.string a0_2,.int .i64 a0_3,.slice A0_4 l0_4.length c0_4,.slice A0_5 l0_5.length c0_5,.int .i64 a0_6,.int .i64 a0_7,.string a0_8,.int .i64 a0_9]] w fun e w'=>∃av:Value,e= .returned (av)∧Kd.R (Kd.int .i64) 2 w' w.heap.size (fun _=>True) av r∧Below w.heap.size w w':=by
 have bI:=Try.underlying56
 have bJ:=Try.underlying29
 have ag:=zM hr0_4
 have ah:=zM hc0_4
 clear hr0_4 hc0_4
 have ab:=zM hr0_5
 have aw:=zM hc0_5
 clear hr0_5 hc0_5
 have HB:=zM (Below.refl w.heap.size w)
 have H:((some (([]:List Int):List Int)).bind fun F=>((spec_l07Object.f k a0_0 a0_1 a0_2 a0_3 l0_4 l0_5 a0_6 a0_7 a0_8 a0_9).bind fun ac=>(if ac=true then((spec_l07OwnValues.f l0_4).bind fun B=>(if B.length+l0_5.length<3518437208883 then((some (B++l0_5:List (S29))).bind fun u=>((some (([(⟨a0_6,a0_7,a0_8,a0_9⟩:S29)]:List (S29)):List (S29))).bind fun q=>(if u.length+q.length<3518437208883 then(spec_RefsOf.l0 k F (u++q) 0)else(none))))else(none)))else(some F))))=some r:=h
 clear h
 obtain⟨F,hy201⟩:∃T:List Int,T=(([]:List Int)):=⟨_,rfl⟩
 replace H:((spec_l07Object.f k a0_0 a0_1 a0_2 a0_3 l0_4 l0_5 a0_6 a0_7 a0_8 a0_9).bind fun ac=>(if ac=true then((spec_l07OwnValues.f l0_4).bind fun B=>(if B.length+l0_5.length<3518437208883 then((some (B++l0_5:List (S29))).bind fun u=>((some (([(⟨a0_6,a0_7,a0_8,a0_9⟩:S29)]:List (S29)):List (S29))).bind fun q=>(if u.length+q.length<3518437208883 then(spec_RefsOf.l0 k F (u++q) 0)else(none))))else(none)))else(some F)))=some r:=by first|(rw[hy201];with_reducible exact H)|(have x:=(Option.bind_some _ _).symm.trans H;rw[hy201];with_reducible exact x)|(have x:=(Option.bind_some _ _).symm.trans H;with_reducible exact x)|with_reducible exact H|(rw[hy201];exact H)|exact H
 have ai:=zM hy201
 clear hy201
 obtain⟨ac,A2,H⟩:=sO H
 by_cases c3:ac=true
 ·(
 subst c3
 rewrite[if_pos rfl]at H
 obtain⟨B,A4,H⟩:=sO H
 by_cases c5:B.length+l0_5.length<3518437208883
 ·(
 rw[if_pos c5]at H
 have am:=zM c5
 clear c5
 obtain⟨u,hy208⟩:∃T:List (S29),T=(B++l0_5):=⟨_,rfl⟩
 replace H:((some (([(⟨a0_6,a0_7,a0_8,a0_9⟩:S29)]:List (S29)):List (S29))).bind fun q=>(if u.length+q.length<3518437208883 then(spec_RefsOf.l0 k F (u++q) 0)else(none)))=some r:=by first|(rw[hy208];with_reducible exact H)|(have x:=(Option.bind_some _ _).symm.trans H;rw[hy208];with_reducible exact x)|(have x:=(Option.bind_some _ _).symm.trans H;with_reducible exact x)|with_reducible exact H|(rw[hy208];exact H)|exact H
 have an:=zM hy208
 clear hy208
 obtain⟨q,hy211⟩:∃T:List (S29),T=(([(⟨a0_6,a0_7,a0_8,a0_9⟩:S29)]:List (S29))):=⟨_,rfl⟩
 replace H:(if u.length+q.length<3518437208883 then(spec_RefsOf.l0 k F (u++q) 0)else(none))=some r:=by first|(rw[hy211];with_reducible exact H)|(have x:=(Option.bind_some _ _).symm.trans H;rw[hy211];with_reducible exact x)|(have x:=(Option.bind_some _ _).symm.trans H;with_reducible exact x)|with_reducible exact H|(rw[hy211];exact H)|exact H
 have W:=zM hy211
 clear hy211
 by_cases c6:u.length+q.length<3518437208883
 ·(
 rw[if_pos c6]at H
 have aT:=zM c6
 clear c6
 obtain⟨y214,hy214⟩:∃T:List (S29),T=(u++q):=⟨_,rfl⟩
 replace H:(spec_RefsOf.l0 k F y214 0)=some r:=by first|(rw[hy214];with_reducible exact H)|(have x:=(Option.bind_some _ _).symm.trans H;rw[hy214];with_reducible exact x)|(have x:=(Option.bind_some _ _).symm.trans H;with_reducible exact x)|with_reducible exact H|(rw[hy214];exact H)|exact H
 have aU:=zM hy214
 clear hy214
 have H':=zM H
 clear H
 go_enter Try.func26,Try.ntmps26
 try go_wp2_with (first|((with_reducible refine gate_dst (N:=1) rfl ?_);refine sV (N:=1) (cs:= #[.int .i64 a0_0,.int .i64 a0_1,.string a0_2,.int .i64 a0_3,.slice A0_4 l0_4.length c0_4,.slice A0_5 l0_5.length c0_5,.int .i64 a0_6,.int .i64 a0_7,.string a0_8,.int .i64 a0_9]) (t:=56) ?_;intro b hg w7 hbox hb;have a:=zM (hbox);have aV:=sG HB hg;have m:=sG HB hg;replace HB:=sB HB hb;clear hb hbox hg)|((with_reducible refine gate_dst (N:=6) rfl ?_);refine Kd.R_lit (Kd.int .i64) _ 2 ?hg (N:=6) ?hd (xs:=([]:List Int)) (inner:=[]) (ok:=fun _=>True) (okp:=fun _=>True) ?hr ?hp (fun _ hk=>hk) trivial (Below.refl _ _) (Nat.le_refl _) (by simp) ?_;(case hd=>rfl);(case hg=>rfl);(case hr=>first|(go_simp;done)|(go_simp;rfl));(case hp=>exact(Reps.none _ _));intro ao w8 ad hb J L;clear J L;(first|rw[←ai.out]at ad|(simp only[Int.reduceToNat]at ad;rw[←ai.out]at ad));have d:=zM (Kd.R_lower ad (below_size zzR));replace a:=sK a hb;replace HB:=sB HB hb;clear hb ad;obtain⟨aW,aX,aY,aZ,a0,a1,a2,a3,a4,a5,a6,a7,a8,a9,ba,bb,bc,bd,be,bf⟩:=cells10 a.out)|((with_reducible refine gate_callee (f:=61) rfl ?_);refine sC (some 8) Try.func61 #[.agg #[.int .i64 a0_0,.int .i64 a0_1,.string a0_2,.int .i64 a0_3,.slice A0_4 l0_4.length c0_4,.slice A0_5 l0_5.length c0_5,.int .i64 a0_6,.int .i64 a0_7,.string a0_8,.int .i64 a0_9]] (spec_l07Object.calls k a0_0 a0_1 a0_2 a0_3 _ _ l0_4 _ _ l0_5 a0_6 a0_7 a0_8 a0_9 true _ ?side1 ?side2 ?side3 ?side4 A2.out) ?_;(case side1=>exact sD (zC ag.out HB.out));(case side2=>exact ah.out);(case side3=>exact sD (zC ab.out HB.out));(case side4=>exact aw.out);rintro e bg ⟨rfl,hb⟩;refine⟨_,rfl,?_⟩;replace d:=zM (Kd.R_below (sE d.out) hb);replace a:=sK a hb;replace HB:=sB HB hb;(try clear hb);(try clear hk)))
 replace d:=zM (Kd.R_drew d.out)
 replace a:=zM (blk_drew a.out)
 replace HB:=zM (below_drew1 HB.out)
 refine start_ (n:=11) (S:=fun w'=>w'.cell? ⟨b,0,none⟩=some (.int .i64 a0_0)∧w'.cell? ⟨b,1,none⟩=some (.int .i64 a0_1)∧w'.cell? ⟨b,2,none⟩=some (.string a0_2)∧w'.cell? ⟨b,3,none⟩=some (.int .i64 a0_3)∧w'.cell? ⟨b,4,none⟩=some (.slice A0_4 l0_4.length c0_4)∧w'.cell? ⟨b,5,none⟩=some (.slice A0_5 l0_5.length c0_5)∧w'.cell? ⟨b,6,none⟩=some (.int .i64 a0_6)∧w'.cell? ⟨b,7,none⟩=some (.int .i64 a0_7)∧w'.cell? ⟨b,8,none⟩=some (.string a0_8)∧w'.cell? ⟨b,9,none⟩=some (.int .i64 a0_9)) (ds:=[]) #[false,false,false,false,false,false,false,false,false,false,false] (by kernel_rfl) rfl rfl ⟨(blk_cell a.out 0).trans rfl,(blk_cell a.out 1).trans rfl,(blk_cell a.out 2).trans rfl,(blk_cell a.out 3).trans rfl,(blk_cell a.out 4).trans rfl,(blk_cell a.out 5).trans rfl,(blk_cell a.out 6).trans rfl,(blk_cell a.out 7).trans rfl,(blk_cell a.out 8).trans rfl,(blk_cell a.out 9).trans rfl⟩ (fun hHeld=>?_);refine with_tabW spec_RefsOf.tab4 spec_RefsOf.bits4 (fun y ap=>?_)
 generalize bg.drew=w12 at d a HB hHeld ⊢
 refine pure_ (i:=0) (N:=some 11) (v:=?_) (a':=?_) (bN 11 1) rfl rfl (any_of y.out (by kernel_rfl)) (fun _ _ _ h=>h) (Or.inl ⟨by rfl,?_⟩) ?_ ?_
 rotate_left
 ·(
 intro w'
 go_simp
 with_reducible rfl)
 rotate_left
 ·(
 simp only[zP,i64_w,i32_w]
 rfl)
 refine pure_ (i:=3) (N:=some 14) (v:=?_) (a':=?_) (bN 11 9) rfl rfl (any_of y.out (by kernel_rfl)) (fun _ _ _ h=>h) (Or.inl ⟨by rfl,?_⟩) ?_ ?_
 rotate_left
 ·(
 intro w'
 go_simp
 with_reducible rfl)
 rotate_left
 ·(
 simp only[zP,i64_w,i32_w]
 rfl)
 refine pure_ (i:=6) (N:=some 17) (v:=?_) (a':=?_) (bN 11 73) rfl rfl (any_of y.out (by kernel_rfl)) (fun _ _ _ h=>h) (Or.inl ⟨by rfl,?_⟩) ?_ ?_
 rotate_left
 ·(
 intro w'
 go_simp
 with_reducible rfl)
 rotate_left
 ·(
 simp only[zP,i64_w,i32_w]
 rfl)
 refine take_ (i:=1) (N:=some 12) (v:=?_) (a':=?_) (bN 11 75) rfl rfl (take_ofW y.out ap.out (by kernel_rfl)) (fun _ _ _ h=>h) (Or.inl ⟨by rfl,?_⟩) hHeld ?_ ?_
 rotate_left
 ·(
 rintro w' ⟨s0,s1,s2,s3,s4,s5,s6,s7,s8,s9⟩
 go_simp
 with_reducible rfl)
 rotate_left
 ·(
 simp only[zP,i64_w,i32_w]
 rfl)
 refine take_ (i:=4) (N:=some 15) (v:=?_) (a':=?_) (bN 11 91) rfl rfl (take_ofW y.out ap.out (by kernel_rfl)) (fun _ _ _ h=>h) (Or.inl ⟨by rfl,?_⟩) hHeld ?_ ?_
 rotate_left
 ·(
 rintro w' ⟨s0,s1,s2,s3,s4,s5,s6,s7,s8,s9⟩
 go_simp
 with_reducible rfl)
 rotate_left
 ·(
 simp only[zP,i64_w,i32_w]
 rfl)
 refine take_ (i:=7) (N:=some 18) (v:=?_) (a':=?_) (bN 11 219) rfl rfl (take_ofW y.out ap.out (by kernel_rfl)) (fun _ _ _ h=>h) (Or.inl ⟨by rfl,?_⟩) hHeld ?_ ?_
 rotate_left
 ·(
 rintro w' ⟨s0,s1,s2,s3,s4,s5,s6,s7,s8,s9⟩
 go_simp
 with_reducible rfl)
 rotate_left
 ·(
 simp only[zP,i64_w,i32_w]
 rfl)
 refine join_ (σ:=Value×Value×Value) 2 (bN 11 511) (fun P=>[(13,P.1),(16,P.2.1),(19,P.2.2)]) (fun P w'=>(w'.cell? ⟨b,0,none⟩=some (.int .i64 a0_0)∧w'.cell? ⟨b,1,none⟩=some (.int .i64 a0_1)∧w'.cell? ⟨b,2,none⟩=some (.string a0_2)∧w'.cell? ⟨b,3,none⟩=some (.int .i64 a0_3)∧w'.cell? ⟨b,4,none⟩=some (.slice A0_4 l0_4.length c0_4)∧w'.cell? ⟨b,5,none⟩=some (.slice A0_5 l0_5.length c0_5)∧w'.cell? ⟨b,6,none⟩=some (.int .i64 a0_6)∧w'.cell? ⟨b,7,none⟩=some (.int .i64 a0_7)∧w'.cell? ⟨b,8,none⟩=some (.string a0_8)∧w'.cell? ⟨b,9,none⟩=some (.int .i64 a0_9))∧(Kd.R (Kd.int .i64) 2 w' w.heap.size (fun _=>True) ao F)∧(Kd.R k29 29 w' w.heap.size (fun p=>some p≠(P.2.2:Value).ownBlock) P.2.1 u)∧(Kd.R k29 29 w' w.heap.size (fun p=>some p≠(P.2.1:Value).ownBlock) P.2.2 q)∧(w'.heap[b]?=some (.cells #[.int .i64 a0_0,.int .i64 a0_1,.string a0_2,.int .i64 a0_3,.slice A0_4 l0_4.length c0_4,.slice A0_5 l0_5.length c0_5,.int .i64 a0_6,.int .i64 a0_7,.string a0_8,.int .i64 a0_9] 56 (0,0)))∧(Below w.heap.size w w')) ?_ ?_
 rotate_left
 ·(
 intro hCont
 refine two_ (i:=2) (j:=8) (Ni:=some 13) (Nj:=some 19) (bN 11 223) (bN 11 475) rfl rfl rfl rfl (two_of y.out (by kernel_rfl)) (by decide) (by decide) (fun K hK=>?_) (fun K hK=>?_)
 ·(
 skip
 refine goes_ Try.func62 (by kernel_rfl) rfl #[.slice A0_4 l0_4.length c0_4] (by rfl) rfl rfl (by(try simp only[List.map_toArray,List.map_cons,List.map_nil]);first|done|rfl|(simp only[List.length_drop,List.length_take];rfl)) ?_
 with_reducible refine(spec_l07OwnValues.calls _ _ l0_4 B _ ?side1 ?side2 A4.out).mono ?_
 (case side1=>exact sD (zC ag.out HB.out))
 (case side2=>exact ah.out)
 rintro e bh ⟨Q,rfl,G,hb⟩
 refine⟨_,rfl,?_⟩
 replace d:=zM (Kd.R_below (sE d.out) hb)
 have s:=zM (Kd.R_lower G (below_size zzR))
 replace a:=sK a hb
 replace HB:=sB HB hb
 (try clear hb)
 (try clear hb2)
 (try clear hk)
 (try clear hi)
 (try clear G)
 refine hK.out _ _ ⟨(blk_cell a.out 0).trans rfl,(blk_cell a.out 1).trans rfl,(blk_cell a.out 2).trans rfl,(blk_cell a.out 3).trans rfl,(blk_cell a.out 4).trans rfl,(blk_cell a.out 5).trans rfl,(blk_cell a.out 6).trans rfl,(blk_cell a.out 7).trans rfl,(blk_cell a.out 8).trans rfl,(blk_cell a.out 9).trans rfl⟩ (fun hHeld=>?_)
 clear hK K
 refine norm_ (a':=?_) ?_ ?_
 rotate_left
 ·(
 show Act.put _ (some 13) _=_
 simp only[zP,i64_w,i32_w]
 rfl)
 refine two_ (i:=5) (j:=8) (Ni:=some 16) (Nj:=some 19) (bN 11 255) (bN 11 479) rfl rfl rfl rfl (two_of y.out (by kernel_rfl)) (by decide) (by decide) (fun K hK=>?_) (fun K hK=>?_)
 ·(
 skip
 refine Kd.R_append_rows_step k29 (w0:=w) w.heap.size (by rfl) (.tmp 13) (.tmp 15) 43 29 (.agg #[(.int .i64 0),(.int .i64 0),(.string ⟨#[]⟩),(.int .i64 0)]) 40 rfl Try.underlying43 info29 rfl (by decide) (by omega) Q B l0_5 _ _ _ (fun _=>True) (fun _=>False) rfl rfl ?aO ?aR (fun _ _ h=>h) (fun _ h=>h.elim) ?aF ?aB ?aS ?aL ?_
 (case aR=>exact sD (zC ab.out HB.out))
 (case aB=>exact zzR)
 (case aF=>exact(fun _ _=>trivial))
 (case aO=>exact(sE s.out))
 (case aS=>exact(below_size zzR))
 (case aL=>have:=am.out;omega)
 intro O bi ho hb hg hat
 rw[←an.out]at ho
 replace a:=zM (blk_grown (g:=b) (o:= .cells #[.int .i64 a0_0,.int .i64 a0_1,.string a0_2,.int .i64 a0_3,.slice A0_4 l0_4.length c0_4,.slice A0_5 l0_5.length c0_5,.int .i64 a0_6,.int .i64 a0_7,.string a0_8,.int .i64 a0_9] 56 (0,0)) (sT a.out) hg (Kd.R_ne s.out a.out (by decide)))
 replace d:=zM (Kd.R_over' (sE d.out) (Kd.R_typed (sE s.out)) (by decide) hg)
 replace HB:=zM (hb)
 have D:=zM (ho)
 clear s
 clear ho hb hg hat
 refine hK.out _ _ ⟨(blk_cell a.out 0).trans rfl,(blk_cell a.out 1).trans rfl,(blk_cell a.out 2).trans rfl,(blk_cell a.out 3).trans rfl,(blk_cell a.out 4).trans rfl,(blk_cell a.out 5).trans rfl,(blk_cell a.out 6).trans rfl,(blk_cell a.out 7).trans rfl,(blk_cell a.out 8).trans rfl,(blk_cell a.out 9).trans rfl⟩ (fun hHeld=>?_)
 clear hK K
 refine norm_ (a':=?_) ?_ ?_
 rotate_left
 ·(
 show Act.put _ (some 16) _=_
 simp only[zP,i64_w,i32_w]
 rfl)
 refine one_ (i:=8) (N:=some 19) (bN 11 511) rfl rfl (one_of y.out (by kernel_rfl)) (by decide) (fun K hK=>?_)
 refine Kd.R_lit_step k29 _ 29 ?hg (N:=19) ?hd (xs:=([(⟨a0_6,a0_7,a0_8,a0_9⟩:S29)]:List (S29))) (inner:=[.int .i64 a0_6,.int .i64 a0_7,.string a0_8,.int .i64 a0_9]) (ok:=fun _=>True) (okp:=fun _=>True) ?hr ?hp (fun _ hk=>hk) trivial (Below.refl _ _) (Nat.le_refl _) (by simp) ?_;(case hd=>rfl);(case hg=>rfl);(case hr=>first|(go_simp;done)|(go_simp;rfl));(case hp=>exact(Reps.c4 (show Kd.M k29 _ _ _ (⟨a0_6,a0_7,a0_8,a0_9⟩:S29) [.int .i64 a0_6,.int .i64 a0_7,.string a0_8,.int .i64 a0_9] from(k29_mkM _ _ _ (⟨a0_6,a0_7,a0_8,a0_9⟩:S29))) (Reps.none _ _)))
 intro I bj X hb J L
 clear J L
 (first|rw[←W.out]at X|(simp only[Int.reduceToNat]at X;rw[←W.out]at X))
 replace d:=zM (Kd.R_below (sE d.out) hb)
 have l:=zM (Kd.R_lower (Kd.R_new' X (Kd.R_lt (sE D.out))) (below_size zzR))
 replace D:=zM (Kd.R_elder' (sE D.out) (Kd.R_base X) hb)
 replace a:=sK a hb
 replace HB:=sB HB hb
 clear hb X
 refine hK.out _ _ ⟨(blk_cell a.out 0).trans rfl,(blk_cell a.out 1).trans rfl,(blk_cell a.out 2).trans rfl,(blk_cell a.out 3).trans rfl,(blk_cell a.out 4).trans rfl,(blk_cell a.out 5).trans rfl,(blk_cell a.out 6).trans rfl,(blk_cell a.out 7).trans rfl,(blk_cell a.out 8).trans rfl,(blk_cell a.out 9).trans rfl⟩ (fun hHeld=>?_)
 clear hK K
 refine norm_ (a':=?_) ?_ ?_
 rotate_left
 ·(
 show Act.put _ (some 19) _=_
 simp only[zP,i64_w,i32_w]
 rfl)
 exact norm_ (by simp only[putAll,Act.put,List.setIfInBounds_toArray,List.set_cons_zero,List.set_cons_succ]) (hCont (Q,O,I) _ ⟨hHeld,(sE d.out),(by(with_reducible repeat(first|apply Kd.R_alloc|apply Kd.R_drewN|apply Kd.R_drew));exact Kd.R_mono D.out (fun _ hk=>hk.2)),(by(with_reducible repeat(first|apply Kd.R_alloc|apply Kd.R_drewN|apply Kd.R_drew));exact Kd.R_mono l.out (fun _ hk=>hk.2)),(sT a.out),zzR⟩))
 ·(
 skip
 refine Kd.R_lit_step k29 _ 29 ?hg (N:=19) ?hd (xs:=([(⟨a0_6,a0_7,a0_8,a0_9⟩:S29)]:List (S29))) (inner:=[.int .i64 a0_6,.int .i64 a0_7,.string a0_8,.int .i64 a0_9]) (ok:=fun _=>True) (okp:=fun _=>True) ?hr ?hp (fun _ hk=>hk) trivial (Below.refl _ _) (Nat.le_refl _) (by simp) ?_;(case hd=>rfl);(case hg=>rfl);(case hr=>first|(go_simp;done)|(go_simp;rfl));(case hp=>exact(Reps.c4 (show Kd.M k29 _ _ _ (⟨a0_6,a0_7,a0_8,a0_9⟩:S29) [.int .i64 a0_6,.int .i64 a0_7,.string a0_8,.int .i64 a0_9] from(k29_mkM _ _ _ (⟨a0_6,a0_7,a0_8,a0_9⟩:S29))) (Reps.none _ _)))
 intro I bi Y hb J L
 clear J L
 (first|rw[←W.out]at Y|(simp only[Int.reduceToNat]at Y;rw[←W.out]at Y))
 replace d:=zM (Kd.R_below (sE d.out) hb)
 have l:=zM (Kd.R_lower (Kd.R_new' Y (Kd.R_lt (sE s.out))) (below_size zzR))
 replace s:=zM (Kd.R_elder' (sE s.out) (Kd.R_base Y) hb)
 replace a:=sK a hb
 replace HB:=sB HB hb
 clear hb Y
 refine hK.out _ _ ⟨(blk_cell a.out 0).trans rfl,(blk_cell a.out 1).trans rfl,(blk_cell a.out 2).trans rfl,(blk_cell a.out 3).trans rfl,(blk_cell a.out 4).trans rfl,(blk_cell a.out 5).trans rfl,(blk_cell a.out 6).trans rfl,(blk_cell a.out 7).trans rfl,(blk_cell a.out 8).trans rfl,(blk_cell a.out 9).trans rfl⟩ (fun hHeld=>?_)
 clear hK K
 refine norm_ (a':=?_) ?_ ?_
 rotate_left
 ·(
 show Act.put _ (some 19) _=_
 simp only[zP,i64_w,i32_w]
 rfl)
 refine one_ (i:=5) (N:=some 16) (bN 11 511) rfl rfl (one_of y.out (by kernel_rfl)) (by decide) (fun K hK=>?_)
 refine Kd.R_append_rows_step k29 (w0:=w) w.heap.size (by rfl) (.tmp 13) (.tmp 15) 43 29 (.agg #[(.int .i64 0),(.int .i64 0),(.string ⟨#[]⟩),(.int .i64 0)]) 40 rfl Try.underlying43 info29 rfl (by decide) (by omega) Q B l0_5 _ _ _ (fun p=>some p≠(I:Value).ownBlock) (fun _=>False) rfl rfl ?aO ?aR (fun _ _ h=>h) (fun _ h=>h.elim) ?aF ?aB ?aS ?aL ?_
 (case aR=>exact sD (zC ab.out HB.out))
 (case aB=>exact zzR)
 (case aF=>exact(fun p hk=>Kd.fresh' (Kd.R_lt (sE l.out)) p hk))
 (case aO=>exact(by(with_reducible repeat(first|apply Kd.R_alloc|apply Kd.R_drewN|apply Kd.R_drew));exact Kd.R_mono s.out (fun _ hk=>hk.2)))
 (case aS=>exact(below_size zzR))
 (case aL=>have:=am.out;omega)
 intro O bk ho hb hg hat
 rw[←an.out]at ho
 replace a:=zM (blk_grown (g:=b) (o:= .cells #[.int .i64 a0_0,.int .i64 a0_1,.string a0_2,.int .i64 a0_3,.slice A0_4 l0_4.length c0_4,.slice A0_5 l0_5.length c0_5,.int .i64 a0_6,.int .i64 a0_7,.string a0_8,.int .i64 a0_9] 56 (0,0)) (sT a.out) hg (Kd.R_ne s.out a.out (by decide)))
 replace d:=zM (Kd.R_over' (sE d.out) (Kd.R_typed (sE s.out)) (by decide) hg)
 replace l:=zM (Kd.R_after (ok:=(fun _=>True)) (sE l.out) hg hat)
 replace HB:=zM (hb)
 have D:=zM (ho)
 clear s
 clear ho hb hg hat
 refine hK.out _ _ ⟨(blk_cell a.out 0).trans rfl,(blk_cell a.out 1).trans rfl,(blk_cell a.out 2).trans rfl,(blk_cell a.out 3).trans rfl,(blk_cell a.out 4).trans rfl,(blk_cell a.out 5).trans rfl,(blk_cell a.out 6).trans rfl,(blk_cell a.out 7).trans rfl,(blk_cell a.out 8).trans rfl,(blk_cell a.out 9).trans rfl⟩ (fun hHeld=>?_)
 clear hK K
 refine norm_ (a':=?_) ?_ ?_
 rotate_left
 ·(
 show Act.put _ (some 16) _=_
 simp only[zP,i64_w,i32_w]
 rfl)
 exact norm_ (by simp only[putAll,Act.put,List.setIfInBounds_toArray,List.set_cons_zero,List.set_cons_succ]) (hCont (Q,O,I) _ ⟨hHeld,(sE d.out),(sE D.out),(by(with_reducible repeat(first|apply Kd.R_alloc|apply Kd.R_drewN|apply Kd.R_drew));exact Kd.R_mono l.out (fun _ hk=>hk.2)),(sT a.out),zzR⟩)))
 ·(
 skip
 refine Kd.R_lit_step k29 _ 29 ?hg (N:=19) ?hd (xs:=([(⟨a0_6,a0_7,a0_8,a0_9⟩:S29)]:List (S29))) (inner:=[.int .i64 a0_6,.int .i64 a0_7,.string a0_8,.int .i64 a0_9]) (ok:=fun _=>True) (okp:=fun _=>True) ?hr ?hp (fun _ hk=>hk) trivial (Below.refl _ _) (Nat.le_refl _) (by simp) ?_;(case hd=>rfl);(case hg=>rfl);(case hr=>first|(go_simp;done)|(go_simp;rfl));(case hp=>exact(Reps.c4 (show Kd.M k29 _ _ _ (⟨a0_6,a0_7,a0_8,a0_9⟩:S29) [.int .i64 a0_6,.int .i64 a0_7,.string a0_8,.int .i64 a0_9] from(k29_mkM _ _ _ (⟨a0_6,a0_7,a0_8,a0_9⟩:S29))) (Reps.none _ _)))
 intro I bh ae hb J L
 clear J L
 (first|rw[←W.out]at ae|(simp only[Int.reduceToNat]at ae;rw[←W.out]at ae))
 replace d:=zM (Kd.R_below (sE d.out) hb)
 have l:=zM (Kd.R_lower ae (below_size zzR))
 replace a:=sK a hb
 replace HB:=sB HB hb
 clear hb ae
 refine hK.out _ _ ⟨(blk_cell a.out 0).trans rfl,(blk_cell a.out 1).trans rfl,(blk_cell a.out 2).trans rfl,(blk_cell a.out 3).trans rfl,(blk_cell a.out 4).trans rfl,(blk_cell a.out 5).trans rfl,(blk_cell a.out 6).trans rfl,(blk_cell a.out 7).trans rfl,(blk_cell a.out 8).trans rfl,(blk_cell a.out 9).trans rfl⟩ (fun hHeld=>?_)
 clear hK K
 refine norm_ (a':=?_) ?_ ?_
 rotate_left
 ·(
 show Act.put _ (some 19) _=_
 simp only[zP,i64_w,i32_w]
 rfl)
 refine one_ (i:=2) (N:=some 13) (bN 11 479) rfl rfl (one_of y.out (by kernel_rfl)) (by decide) (fun K hK=>?_)
 refine goes_ Try.func62 (by kernel_rfl) rfl #[.slice A0_4 l0_4.length c0_4] (by rfl) rfl rfl (by(try simp only[List.map_toArray,List.map_cons,List.map_nil]);first|done|rfl|(simp only[List.length_drop,List.length_take];rfl)) ?_
 with_reducible refine(spec_l07OwnValues.calls _ _ l0_4 B _ ?side1 ?side2 A4.out).mono ?_
 (case side1=>exact sD (zC ag.out HB.out))
 (case side2=>exact ah.out)
 rintro e bj ⟨Q,rfl,G,hb⟩
 refine⟨_,rfl,?_⟩
 replace d:=zM (Kd.R_below (sE d.out) hb)
 have s:=zM (Kd.R_lower (Kd.R_new' G (Kd.R_lt (sE l.out))) (below_size zzR))
 replace l:=zM (Kd.R_elder' (sE l.out) (Kd.R_base G) hb)
 replace a:=sK a hb
 replace HB:=sB HB hb
 (try clear hb)
 (try clear hb2)
 (try clear hk)
 (try clear hi)
 (try clear G)
 refine hK.out _ _ ⟨(blk_cell a.out 0).trans rfl,(blk_cell a.out 1).trans rfl,(blk_cell a.out 2).trans rfl,(blk_cell a.out 3).trans rfl,(blk_cell a.out 4).trans rfl,(blk_cell a.out 5).trans rfl,(blk_cell a.out 6).trans rfl,(blk_cell a.out 7).trans rfl,(blk_cell a.out 8).trans rfl,(blk_cell a.out 9).trans rfl⟩ (fun hHeld=>?_)
 clear hK K
 refine norm_ (a':=?_) ?_ ?_
 rotate_left
 ·(
 show Act.put _ (some 13) _=_
 simp only[zP,i64_w,i32_w]
 rfl)
 refine one_ (i:=5) (N:=some 16) (bN 11 511) rfl rfl (one_of y.out (by kernel_rfl)) (by decide) (fun K hK=>?_)
 refine Kd.R_append_rows_step k29 (w0:=w) w.heap.size (by rfl) (.tmp 13) (.tmp 15) 43 29 (.agg #[(.int .i64 0),(.int .i64 0),(.string ⟨#[]⟩),(.int .i64 0)]) 40 rfl Try.underlying43 info29 rfl (by decide) (by omega) Q B l0_5 _ _ _ (fun p=>some p≠(I:Value).ownBlock) (fun _=>False) rfl rfl ?aO ?aR (fun _ _ h=>h) (fun _ h=>h.elim) ?aF ?aB ?aS ?aL ?_
 (case aR=>exact sD (zC ab.out HB.out))
 (case aB=>exact zzR)
 (case aF=>exact(fun p hk=>Kd.fresh' (Kd.R_lt (sE l.out)) p hk))
 (case aO=>exact(by(with_reducible repeat(first|apply Kd.R_alloc|apply Kd.R_drewN|apply Kd.R_drew));exact Kd.R_mono s.out (fun _ hk=>hk.2)))
 (case aS=>exact(below_size zzR))
 (case aL=>have:=am.out;omega)
 intro O bk ho hb hg hat
 rw[←an.out]at ho
 replace a:=zM (blk_grown (g:=b) (o:= .cells #[.int .i64 a0_0,.int .i64 a0_1,.string a0_2,.int .i64 a0_3,.slice A0_4 l0_4.length c0_4,.slice A0_5 l0_5.length c0_5,.int .i64 a0_6,.int .i64 a0_7,.string a0_8,.int .i64 a0_9] 56 (0,0)) (sT a.out) hg (Kd.R_ne s.out a.out (by decide)))
 replace d:=zM (Kd.R_over' (sE d.out) (Kd.R_typed (sE s.out)) (by decide) hg)
 replace l:=zM (Kd.R_after (ok:=(fun _=>True)) (sE l.out) hg hat)
 replace HB:=zM (hb)
 have D:=zM (ho)
 clear s
 clear ho hb hg hat
 refine hK.out _ _ ⟨(blk_cell a.out 0).trans rfl,(blk_cell a.out 1).trans rfl,(blk_cell a.out 2).trans rfl,(blk_cell a.out 3).trans rfl,(blk_cell a.out 4).trans rfl,(blk_cell a.out 5).trans rfl,(blk_cell a.out 6).trans rfl,(blk_cell a.out 7).trans rfl,(blk_cell a.out 8).trans rfl,(blk_cell a.out 9).trans rfl⟩ (fun hHeld=>?_)
 clear hK K
 refine norm_ (a':=?_) ?_ ?_
 rotate_left
 ·(
 show Act.put _ (some 16) _=_
 simp only[zP,i64_w,i32_w]
 rfl)
 exact norm_ (by simp only[putAll,Act.put,List.setIfInBounds_toArray,List.set_cons_zero,List.set_cons_succ]) (hCont (Q,O,I) _ ⟨hHeld,(sE d.out),(sE D.out),(by(with_reducible repeat(first|apply Kd.R_alloc|apply Kd.R_drewN|apply Kd.R_drew));exact Kd.R_mono l.out (fun _ hk=>hk.2)),(sT a.out),zzR⟩)))
 rintro⟨Q,O,I⟩ z ⟨bl,ax,ay,az,aA,aC⟩
 replace d:Aside0 (Kd.R (Kd.int .i64) 2 z w.heap.size (fun _=>True) ao F):=⟨ax⟩
 have D:Aside0 (Kd.R k29 29 z w.heap.size (fun p=>some p≠(I:Value).ownBlock) O u):=⟨ay⟩
 have l:Aside0 (Kd.R k29 29 z w.heap.size (fun p=>some p≠(O:Value).ownBlock) I q):=⟨az⟩
 replace a:Aside0 (z.heap[b]?=some (.cells #[.int .i64 a0_0,.int .i64 a0_1,.string a0_2,.int .i64 a0_3,.slice A0_4 l0_4.length c0_4,.slice A0_5 l0_5.length c0_5,.int .i64 a0_6,.int .i64 a0_7,.string a0_8,.int .i64 a0_9] 56 (0,0))):=⟨aA⟩
 replace HB:Aside0 (Below w.heap.size w z):=⟨aC⟩
 clear ax ay az aA aC
 have hHeld:z.cell? ⟨b,0,none⟩=some (.int .i64 a0_0)∧z.cell? ⟨b,1,none⟩=some (.int .i64 a0_1)∧z.cell? ⟨b,2,none⟩=some (.string a0_2)∧z.cell? ⟨b,3,none⟩=some (.int .i64 a0_3)∧z.cell? ⟨b,4,none⟩=some (.slice A0_4 l0_4.length c0_4)∧z.cell? ⟨b,5,none⟩=some (.slice A0_5 l0_5.length c0_5)∧z.cell? ⟨b,6,none⟩=some (.int .i64 a0_6)∧z.cell? ⟨b,7,none⟩=some (.int .i64 a0_7)∧z.cell? ⟨b,8,none⟩=some (.string a0_8)∧z.cell? ⟨b,9,none⟩=some (.int .i64 a0_9):=bl
 obtain⟨bm,bn,aD⟩:=Kd.R_slice l.out
 (first|subst aD|(injection aD with aE bo aG;have bp:=aE.symm;have bq:=aG.symm;clear aE bo aG;subst bp;subst bq))
 refine norm_ (a':=?_) ?_ ?_
 rotate_left
 ·(
 simp only[putAll,Act.put,List.setIfInBounds_toArray,List.set_cons_zero,List.set_cons_succ]
 rfl)
 refine one_ (i:=9) (N:=some 20) (bN 11 1023) rfl rfl (one_of y.out (by kernel_rfl)) (by decide) (fun K hK=>?_)
 refine Kd.R_append_rows_step k29 (w0:=w) w.heap.size (by rfl) (.tmp 16) (.tmp 19) 43 29 (.agg #[(.int .i64 0),(.int .i64 0),(.string ⟨#[]⟩),(.int .i64 0)]) 40 rfl Try.underlying43 info29 rfl (by decide) (by omega) O u q _ _ _ (fun p=>some p≠(.slice bm q.length bn:Value).ownBlock) (fun _=>False) rfl rfl ?aO ?aR (fun _ _ h=>h) (fun _ h=>h.elim) ?aF ?aB ?aS ?aL ?_
 (case aR=>exact sD ((Kd.R_reads' l.out).2.2))
 (case aB=>exact zzR)
 (case aF=>exact(fun p hk=>Kd.fresh' (Kd.R_lt (sE l.out)) p hk))
 (case aO=>exact(sE D.out))
 (case aS=>exact(below_size zzR))
 (case aL=>have:=aT.out;omega)
 intro br bK ho hb hg hat
 rw[←aU.out]at ho
 have aH:=zM (blk_grown (g:=b) (o:= .cells #[.int .i64 a0_0,.int .i64 a0_1,.string a0_2,.int .i64 a0_3,.slice A0_4 l0_4.length c0_4,.slice A0_5 l0_5.length c0_5,.int .i64 a0_6,.int .i64 a0_7,.string a0_8,.int .i64 a0_9] 56 (0,0)) (sT a.out) hg (Kd.R_ne D.out a.out (by decide)))
 have aI:=zM (Kd.R_over' (sE d.out) (Kd.R_typed (sE D.out)) (by decide) hg)
 have aJ:=zM (Kd.R_after (ok:=(fun _=>True)) (by(with_reducible repeat(first|apply Kd.R_alloc|apply Kd.R_drewN|apply Kd.R_drew));exact Kd.R_mono l.out (fun _ hk=>⟨trivial,hk⟩)) hg hat)
 have aK:=zM (hb)
 have aM:=zM (ho)
 clear a
 clear d
 clear l
 clear HB
 clear D
 have a:=aH
 have d:=aI
 have l:=aJ
 have HB:=aK
 have bs:=aM
 clear aH aI aJ aK aM
 clear ho hb hg hat
 refine hK.out _ _ ⟨(blk_cell a.out 0).trans rfl,(blk_cell a.out 1).trans rfl,(blk_cell a.out 2).trans rfl,(blk_cell a.out 3).trans rfl,(blk_cell a.out 4).trans rfl,(blk_cell a.out 5).trans rfl,(blk_cell a.out 6).trans rfl,(blk_cell a.out 7).trans rfl,(blk_cell a.out 8).trans rfl,(blk_cell a.out 9).trans rfl⟩ (fun hHeld=>?_)
 clear hK K
 refine norm_ (a':=?_) ?_ ?_
 rotate_left
 ·(
 show Act.put _ (some 20) _=_
 simp only[zP,i64_w,i32_w]
 rfl)
 refine pure_ (i:=10) (N:=some 4) (v:=?_) (a':=?_) (bN 11 2047) rfl rfl (any_of y.out (by kernel_rfl)) (fun _ _ _ h=>h) (Or.inl ⟨by rfl,?_⟩) ?_ ?_
 rotate_left
 ·(
 intro w'
 go_simp
 with_reducible rfl)
 rotate_left
 ·(
 simp only[zP,i64_w,i32_w]
 rfl)
 refine done_ (done_of y.out (by kernel_rfl)) ?_
 try go_wp2
 go_loopg [3,5] k (fun kq v3 v5 w'=>∃(Z:List Int) (c:Int),v5= .int .i64 c∧Aside0 (spec_RefsOf.l0 kq Z y214 c=some r)∧Aside0 (kq≤k)∧Aside0 (Kd.R (Kd.int .i64) 2 w' w.heap.size (fun _=>True) v3 Z)∧Aside0 (Kd.R k29 29 w' w.heap.size (fun _=>True) br y214)∧Aside0 (w'.heap[b]?=some (.cells #[.int .i64 a0_0,.int .i64 a0_1,.string a0_2,.int .i64 a0_3,(.slice A0_4 l0_4.length c0_4),(.slice A0_5 l0_5.length c0_5),.int .i64 a0_6,.int .i64 a0_7,.string a0_8,.int .i64 a0_9] 56 (0,0)))∧Aside0 (Below w.heap.size w w'))
 case atStart=>exact⟨(F),(0),sr,H',⟨Nat.le_refl _⟩,⟨by exact sE d.out⟩,⟨by(with_reducible repeat(first|apply Kd.R_alloc|apply Kd.R_drewN|apply Kd.R_drew));exact Kd.R_mono bs.out (fun _ hk=>trivial)⟩,⟨by exact sT a.out⟩,⟨sb⟩⟩
 case round=>(
 clear H'
 try clear c3
 try clear c5
 try clear c6
 try clear aW
 try clear aX
 try clear aY
 try clear aZ
 try clear a0
 try clear a1
 try clear a2
 try clear a3
 try clear a4
 try clear a5
 try clear a6
 try clear a7
 try clear a8
 try clear a9
 try clear ba
 try clear bb
 try clear bc
 try clear bd
 try clear be
 try clear bf
 obtain⟨Z,c,rfl,HA,aj,E,A,a,HB⟩:=hrel
 cases gk with
 |zero=>exact absurd HA.out (by simp[spec_RefsOf.l0])
 |succ k1=>(
 have H:=HA.out
 clear HA
 simp only[spec_RefsOf.l0]at H
 by_cases aa:c<(y214.length:Int)
 ·(
 rw[if_pos aa]at H
 have c20b0:=zT aa
 clear aa
 by_cases ak:0≤c
 ·(
 rw[if_pos ak]at H
 have c21b0:=zT ak
 clear ak
 obtain⟨bt,aN,H⟩:=sO H
 by_cases al:bt=true
 ·(
 subst al
 rewrite[if_pos rfl]at H
 obtain⟨aP,bu,H⟩:=sO H
 have H':=zM H
 clear H
 obtain⟨bL,bM,bv⟩:=Kd.R_slice A.out
 subst bv
 have U:0≤(c:Int):=zzA
 have V:c<(y214.length:Int):=zzA
 obtain⟨aQ,aq,bw,bx,bz,bA⟩:=at_T29 (Kd.R_reads' A.out).2.2 c U V
 cases aq
 replace U:=eq_true U
 replace V:=eq_true V
 go_wp2_with (first|((with_reducible refine gate_callee (f:=55) rfl ?_);refine sC (some 31) Try.func55 #[.agg #[.int .i64 ((rd_T29 y214 c).f0),.int .i64 ((rd_T29 y214 c).f1),.string ((rd_T29 y214 c).f2),.int .i64 ((rd_T29 y214 c).f3)]] (spec_l07IsRef.calls ((rd_T29 y214 c).f0) ((rd_T29 y214 c).f1) ((rd_T29 y214 c).f2) ((rd_T29 y214 c).f3) true _ aN.out) ?_;rintro e bO ⟨rfl,hb⟩;refine⟨_,rfl,?_⟩;replace E:=zM (Kd.R_below (sE E.out) hb);replace A:=zM (Kd.R_below (sE A.out) hb);replace a:=sK a hb;replace HB:=sB HB hb;(try clear hb);have ar:0≤(c:Int):=zzA;have au:c<(y214.length:Int):=zzA;obtain⟨ad219,bB,bP,bQ,bR,bS⟩:=at_T29 (Kd.R_reads' A.out).2.2 c ar au;obtain rfl:aQ=ad219:=(by injection bB);replace ar:=eq_true ar;replace au:=eq_true au;obtain⟨bC,bD,bE⟩:=Kd.R_slice E.out;subst bE)|((with_reducible refine gate_callee (f:=63) rfl ?_);refine sC (some 38) Try.func63 #[.slice bC Z.length bD,.int .i64 ((rd_T29 y214 c).f3)] (spec_l00Put.calls k1 _ _ Z ((rd_T29 y214 c).f3) aP _ ?side1 ?side2 bu.out) ?_;(case side1=>exact sD ((Kd.R_reads' E.out).2.2));(case side2=>exact(Kd.R_reads' E.out).2.1);rintro e bT ⟨bU,rfl,G,hb⟩;refine⟨_,rfl,?_⟩;replace A:=zM (Kd.R_below (sE A.out) hb);have bF:=zM (Kd.R_lower (Kd.R_new' G (Kd.R_lt (sE E.out))) (below_size zzR));replace E:=zM (Kd.R_elder' (sE E.out) (Kd.R_base G) hb);replace a:=sK a hb;replace HB:=sB HB hb;(try clear hb);(try clear G)))
 go_roundg k1
 case measure=>have:=aj.out;omega
 case rel=>exact⟨(aP),(wrap64 (c+1)),sr,H',⟨by have:=aj.out;omega⟩,⟨by(with_reducible repeat(first|apply Kd.R_alloc|apply Kd.R_drewN|apply Kd.R_drew));exact Kd.R_mono bF.out (fun _ hk=>trivial)⟩,⟨by exact sE A.out⟩,⟨by exact sT a.out⟩,⟨sb⟩⟩)
 replace al:=zB al
 subst al
 rewrite[if_neg zQ]at H
 have H':=zM H
 clear H
 obtain⟨bV,bW,bG⟩:=Kd.R_slice A.out
 subst bG
 have U:0≤(c:Int):=zzA
 have V:c<(y214.length:Int):=zzA
 obtain⟨aQ,aq,bw,bx,bz,bA⟩:=at_T29 (Kd.R_reads' A.out).2.2 c U V
 cases aq
 replace U:=eq_true U
 replace V:=eq_true V
 go_wp2_with (first|((with_reducible refine gate_callee (f:=55) rfl ?_);refine sC (some 31) Try.func55 #[.agg #[.int .i64 ((rd_T29 y214 c).f0),.int .i64 ((rd_T29 y214 c).f1),.string ((rd_T29 y214 c).f2),.int .i64 ((rd_T29 y214 c).f3)]] (spec_l07IsRef.calls ((rd_T29 y214 c).f0) ((rd_T29 y214 c).f1) ((rd_T29 y214 c).f2) ((rd_T29 y214 c).f3) false _ aN.out) ?_;rintro e bX ⟨rfl,hb⟩;refine⟨_,rfl,?_⟩;replace E:=zM (Kd.R_below (sE E.out) hb);replace A:=zM (Kd.R_below (sE A.out) hb);replace a:=sK a hb;replace HB:=sB HB hb;(try clear hb)))
 go_roundg k1
 case measure=>have:=aj.out;omega
 case rel=>exact⟨(Z),(wrap64 (c+1)),sr,H',⟨by have:=aj.out;omega⟩,⟨by exact sE E.out⟩,⟨by exact sE A.out⟩,⟨by exact sT a.out⟩,⟨sb⟩⟩)
 rw[if_neg ak]at H
 exact absurd H (by simp))
 rw[if_neg aa]at H
 have c20b0:=zF aa
 clear aa
 obtain rfl:=zI H
 obtain⟨bY,bZ,bH⟩:=Kd.R_slice A.out
 subst bH
 go_wp2
 go_ret
 exact⟨_,sq,by exact sE E.out,sb⟩)))
 rw[if_neg c6]at H
 exact absurd H (by simp))
 rw[if_neg c5]at H
 exact absurd H (by simp))
 replace c3:=zB c3
 subst c3
 rewrite[if_neg zQ]at H
 obtain rfl:=zI H
 go_enter Try.func26,Try.ntmps26
 go_wp2_with (first|((with_reducible refine gate_dst (N:=1) rfl ?_);refine sV (N:=1) (cs:= #[.int .i64 a0_0,.int .i64 a0_1,.string a0_2,.int .i64 a0_3,.slice A0_4 l0_4.length c0_4,.slice A0_5 l0_5.length c0_5,.int .i64 a0_6,.int .i64 a0_7,.string a0_8,.int .i64 a0_9]) (t:=56) ?_;intro b hg b0 hbox hb;have a:=zM (hbox);have aV:=sG HB hg;have m:=sG HB hg;replace HB:=sB HB hb;clear hb hbox hg)|((with_reducible refine gate_dst (N:=6) rfl ?_);refine Kd.R_lit (Kd.int .i64) _ 2 ?hg (N:=6) ?hd (xs:=([]:List Int)) (inner:=[]) (ok:=fun _=>True) (okp:=fun _=>True) ?hr ?hp (fun _ hk=>hk) trivial (Below.refl _ _) (Nat.le_refl _) (by simp) ?_;(case hd=>rfl);(case hg=>rfl);(case hr=>first|(go_simp;done)|(go_simp;rfl));(case hp=>exact(Reps.none _ _));intro ao b1 af hb J L;clear J L;(first|rw[←ai.out]at af|(simp only[Int.reduceToNat]at af;rw[←ai.out]at af));have d:=zM (Kd.R_lower af (below_size zzR));replace a:=sK a hb;replace HB:=sB HB hb;clear hb af;obtain⟨b2,b3,b4,b5,b6,b7,b8,b9,ca,cb,cc,cd,ce,cf,cg,ch,ci,cj,ck,cl⟩:=cells10 a.out)|((with_reducible refine gate_callee (f:=61) rfl ?_);refine sC (some 8) Try.func61 #[.agg #[.int .i64 a0_0,.int .i64 a0_1,.string a0_2,.int .i64 a0_3,.slice A0_4 l0_4.length c0_4,.slice A0_5 l0_5.length c0_5,.int .i64 a0_6,.int .i64 a0_7,.string a0_8,.int .i64 a0_9]] (spec_l07Object.calls k a0_0 a0_1 a0_2 a0_3 _ _ l0_4 _ _ l0_5 a0_6 a0_7 a0_8 a0_9 false _ ?side1 ?side2 ?side3 ?side4 A2.out) ?_;(case side1=>exact sD (zC ag.out HB.out));(case side2=>exact ah.out);(case side3=>exact sD (zC ab.out HB.out));(case side4=>exact aw.out);rintro e cm ⟨rfl,hb⟩;refine⟨_,rfl,?_⟩;replace d:=zM (Kd.R_below (sE d.out) hb);replace a:=sK a hb;replace HB:=sB HB hb;(try clear hb);(try clear hk)))
 go_ret
 exact⟨_,sq,by exact sE d.out,sb⟩
end Go.Proofs.Ytengilknjiobiaa.PFnExactRefsOf
