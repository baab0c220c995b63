/- Printed functions: impl_GetElement. -/
import Derived.Test.YtengilknjiobiaaYGeP0
import Derived.Test.YtengilknjiobiaaYGeP20
import Derived.Test.YtengilknjiobiaaYGeP25
import Derived.Test.YtengilknjiobiaaYGeP26
namespace Go.Proofs.Ytengilknjiobiaa.PFnExactGetElement
open Go.RowKit Go.Proofs.YtengilknjiobiaaG Go.Proofs.YtengilknjiobiaaW.PrintWords Go.Proofs.YtengilknjiobiaaW.PrintLast Go.Proofs.YtengilknjiobiaaW.PrintMore
attribute [local go_sem] max2_int min2_int max_two min_two max_three min_three max_four min_four
set_option linter.unusedVariables false
set_option linter.unusedSimpArgs false
mutual
def impl_GetElement.j0 : Nat → Int → List (S56) → Int → Int → ByteArray → Int → Int → Int → ByteArray → Int → Option (Int × Int × ByteArray × Int × Bool × Int)
 |0,_,_,_,_,_,_,_,_,_,_=>none
 |k+1,x393000,x393001,x394000,x394001,x394002,x394003,x395000,x395001,x395002,x395003=>(impl_Heap_object.f k x393000 x393001 x394000 x394001 x394002 x394003).bind fun t406=>(if 0≤t406 then(if t406<(x393001.length:Int)then((impl_Object_element.f k ((rd_T56 x393001 t406).f0) ((rd_T56 x393001 t406).f1) ((rd_T56 x393001 t406).f2) ((rd_T56 x393001 t406).f3) ((rd_T56 x393001 t406).f4) ((rd_T56 x393001 t406).f5) ((rd_T56 x393001 t406).f6.f0) ((rd_T56 x393001 t406).f6.f1) ((rd_T56 x393001 t406).f6.f2) ((rd_T56 x393001 t406).f6.f3) x395000 x395001 x395002 x395003).bind fun t409=>(impl_GetElement.j1 k t409 ((rd_T56 x393001 t406).f0) ((rd_T56 x393001 t406).f1) ((rd_T56 x393001 t406).f2) ((rd_T56 x393001 t406).f3) ((rd_T56 x393001 t406).f4) ((rd_T56 x393001 t406).f5) ((rd_T56 x393001 t406).f6.f0) ((rd_T56 x393001 t406).f6.f1) ((rd_T56 x393001 t406).f6.f2) ((rd_T56 x393001 t406).f6.f3)))else(none))else(none))
def impl_GetElement.j1 : Nat → Int → Int → Int → ByteArray → Int → List (S29) → List (S29) → Int → Int → ByteArray → Int → Option (Int × Int × ByteArray × Int × Bool × Int)
 |0,_,_,_,_,_,_,_,_,_,_,_=>none
 |k+1,x11,x409000,x409001,x409002,x409003,x409004,x409005,x409006,x409007,x409008,x409009=>if x11≥0 then(if 0≤x11 then(if x11<(x409005.length:Int)then(some ((rd_T29 x409005 x11).f0,(rd_T29 x409005 x11).f1,(rd_T29 x409005 x11).f2,(rd_T29 x409005 x11).f3,true,0))else(none))else(none))else(if x409001=2 then(some (x409006,x409007,x409008,x409009,true,0))else(some (0,0,(⟨#[]⟩:ByteArray),0,false,0)))
end
def impl_GetElement.f (k:Nat) (a0_0:Int) (l0_1:List (S56)) (a1_0:Int) (a1_1:Int) (a1_2:ByteArray) (a1_3:Int) (a2_0:Int) (a2_1:Int) (a2_2:ByteArray) (a2_3:Int):Option (Int×Int×ByteArray×Int×Bool×Int):=(impl_fitAll.f k a0_0 l0_1 (([(⟨a1_0,a1_1,a1_2,a1_3⟩:S29),(⟨a2_0,a2_1,a2_2,a2_3⟩:S29)]:List (S29)))).bind fun t399=>((impl_isIndexed.f a1_0 a1_1 a1_2 a1_3).bind fun t400=>((impl_unless.f t400 4).bind fun t401=>((impl_first.f k (([t399,t401]:List Int))).bind fun t405=>(if t405=0 then(impl_GetElement.j0 k a0_0 l0_1 a1_0 a1_1 a1_2 a1_3 a2_0 a2_1 a2_2 a2_3)else(some (0,0,(⟨#[]⟩:ByteArray),0,false,t405))))))
def impl_GetElement.T1:Bool×List (List Nat×List Nat):=(true,[([],[]),([],[]),([],[]),([1,2],[1,2]),([0,3],[0,3]),([],[]),([5,4],[5]),([6,6],[6]),([4,7],[4,7]),([8,7],[8]),([9,9,0,1,2,3,4,5,6,7,8,9],[9])])
def impl_GetElement.B1:List Nat:=[0,0,0,6,15,0,63,127,255,511,1023]
theorem impl_GetElement.tab1:rtab .any (opsOf Try.f18 1)=impl_GetElement.T1:=by kernel_rfl
theorem impl_GetElement.bits1:waitsOk impl_GetElement.T1.2 impl_GetElement.B1=true:=by kernel_rfl
def impl_GetElement.T4:Bool×List (List Nat×List Nat):=(true,[([],[]),([0],[0]),([],[]),([],[]),([2,3],[2,3]),([1,4],[1,4]),([5],[5]),([],[]),([7,6,4,0,1,2,3,4,5,6,7],[6,7])])
def impl_GetElement.B4:List Nat:=[0,1,0,0,12,31,63,0,255]
theorem impl_GetElement.tab4:rtab .any (opsOf Try.f18 4)=impl_GetElement.T4:=by kernel_rfl
theorem impl_GetElement.bits4:waitsOk impl_GetElement.T4.2 impl_GetElement.B4=true:=by kernel_rfl
set_option maxHeartbeats 8000000 in
set_option maxRecDepth 100000 in
theorem impl_GetElement.calls (k:Nat) (a0_0:Int) (A0_1:Option Addr) (c0_1:Nat) (l0_1:List (S56)) (a1_0:Int) (a1_1:Int) (a1_2:ByteArray) (a1_3:Int) (a2_0:Int) (a2_1:Int) (a2_2:ByteArray) (a2_3:Int) (r1:Int) (r2:Int) (r3:ByteArray) (r4:Int) (r5:Bool) (r6:Int) (w:World) (hr0_1:Kd.C k56 w A0_1 l0_1.length l0_1) (hc0_1:l0_1.length≤c0_1) (h:impl_GetElement.f k a0_0 l0_1 a1_0 a1_1 a1_2 a1_3 a2_0 a2_1 a2_2 a2_3=some (r1,r2,r3,r4,r5,r6)):
  Calls Try.prog 18 #[.agg #[.int .i64 a0_0,.slice A0_1 l0_1.length c0_1],.agg #[.int .i64 a1_0,.int .i64 a1_1,.string a1_2,.int .i64 a1_3],.agg #[.int .i64 a2_0,.int .i64 a2_1,.string a2_2,.int .i64 a2_3]] w fun e w'=>e= .returned (.tuple #[.agg #[.int .i64 r1,.int .i64 r2,.string r3,.int .i64 r4],.bool r5,.int .i64 r6])∧Below w.heap.size w w':=by
 have ce:=Try.underlying34
 have cf:=Try.underlying29
 have cg:=Try.underlying56
 have aR:=zM hr0_1
 have a6:=zM hc0_1
 clear hr0_1 hc0_1
 have HB:=zM (Below.refl w.heap.size w)
 have H:((impl_fitAll.f k a0_0 l0_1 (([(⟨a1_0,a1_1,a1_2,a1_3⟩:S29),(⟨a2_0,a2_1,a2_2,a2_3⟩:S29)]:List (S29)))).bind fun ab=>((impl_isIndexed.f a1_0 a1_1 a1_2 a1_3).bind fun ag=>((impl_unless.f ag 4).bind fun ac=>((impl_first.f k (([ab,ac]:List Int))).bind fun J=>(if J=0 then(impl_GetElement.j0 k a0_0 l0_1 a1_0 a1_1 a1_2 a1_3 a2_0 a2_1 a2_2 a2_3)else(some (0,0,(⟨#[]⟩:ByteArray),0,false,J)))))))=some (r1,r2,r3,r4,r5,r6):=h
 clear h
 obtain⟨y396,hy396⟩:∃y_:List (S29),y_=(([(⟨a1_0,a1_1,a1_2,a1_3⟩:S29),(⟨a2_0,a2_1,a2_2,a2_3⟩:S29)]:List (S29))):=⟨_,rfl⟩
 replace H:((impl_fitAll.f k a0_0 l0_1 y396).bind fun ab=>((impl_isIndexed.f a1_0 a1_1 a1_2 a1_3).bind fun ag=>((impl_unless.f ag 4).bind fun ac=>((impl_first.f k (([ab,ac]:List Int))).bind fun J=>(if J=0 then(impl_GetElement.j0 k a0_0 l0_1 a1_0 a1_1 a1_2 a1_3 a2_0 a2_1 a2_2 a2_3)else(some (0,0,(⟨#[]⟩:ByteArray),0,false,J)))))))=some (r1,r2,r3,r4,r5,r6):=by first|(rw[hy396];with_reducible exact H)|(have ah:=(Option.bind_some _ _).symm.trans H;rw[hy396];with_reducible exact ah)|(have ah:=(Option.bind_some _ _).symm.trans H;with_reducible exact ah)|with_reducible exact H|(rw[hy396];exact H)|exact H
 have bi:=zM hy396
 clear hy396
 obtain⟨ab,A4,H⟩:=sO H
 obtain⟨ag,A5,H⟩:=sO H
 obtain⟨ac,A6,H⟩:=sO H
 obtain⟨y402,hy402⟩:∃y_:List Int,y_=(([ab,ac]:List Int)):=⟨_,rfl⟩
 replace H:((impl_first.f k y402).bind fun J=>(if J=0 then(impl_GetElement.j0 k a0_0 l0_1 a1_0 a1_1 a1_2 a1_3 a2_0 a2_1 a2_2 a2_3)else(some (0,0,(⟨#[]⟩:ByteArray),0,false,J))))=some (r1,r2,r3,r4,r5,r6):=by first|(rw[hy402];with_reducible exact H)|(have ah:=(Option.bind_some _ _).symm.trans H;rw[hy402];with_reducible exact ah)|(have ah:=(Option.bind_some _ _).symm.trans H;with_reducible exact ah)|with_reducible exact H|(rw[hy402];exact H)|exact H
 have bj:=zM hy402
 clear hy402
 obtain⟨J,A7,H⟩:=sO H
 have a7:=zM H
 clear H
 go_enter Try.func18,Try.ntmps18
 try go_wp2_with (first|((with_reducible refine gate_dst (N:=3) rfl ?_);refine sV (N:=3) (cs:= #[.int .i64 a0_0,.slice A0_1 l0_1.length c0_1]) (t:=34) ?_;intro I hg w9 hbox hb;have c:=zM (hbox);have ch:=sG HB hg;have ao:=sG HB hg;replace HB:=sB HB hb;clear hb hbox hg)|((with_reducible refine gate_dst (N:=4) rfl ?_);refine sV (N:=4) (cs:= #[.int .i64 a1_0,.int .i64 a1_1,.string a1_2,.int .i64 a1_3]) (t:=29) ?_;intro A hg ci hbox hb;have b:=zM (hbox);have cj:=sG HB hg;have ap:=sG HB hg;replace HB:=sB HB hb;have ck:=sN c hg;have cl:=sM c hg;replace c:=sK c hb;clear hb hbox hg)|((with_reducible refine gate_dst (N:=5) rfl ?_);refine sV (N:=5) (cs:= #[.int .i64 a2_0,.int .i64 a2_1,.string a2_2,.int .i64 a2_3]) (t:=29) ?_;intro O hg cm hbox hb;have d:=zM (hbox);have cn:=sG HB hg;have aq:=sG HB hg;replace HB:=sB HB hb;have bV:=sN c hg;have bW:=sM c hg;replace c:=sK c hb;have bX:=sN b hg;have bY:=sM b hg;replace b:=sK b hb;clear hb hbox hg)|((with_reducible refine gate_dst (N:=6) rfl ?_);refine sV (N:=6) (cs:= #[.int .i64 0,.int .i64 0,.string (⟨#[]⟩:ByteArray),.int .i64 0]) (t:=29) ?_;intro P hg bZ hbox hb;have m:=zM (hbox);have co:=sG HB hg;have ar:=sG HB hg;replace HB:=sB HB hb;have aS:=sN c hg;have aT:=sM c hg;replace c:=sK c hb;have aU:=sN b hg;have aV:=sM b hg;replace b:=sK b hb;have az:=sN d hg;have aA:=sM d hg;replace d:=sK d hb;clear hb hbox hg))
 replace c:=zM (blk_drew c.out)
 replace b:=zM (blk_drew b.out)
 replace d:=zM (blk_drew d.out)
 replace m:=zM (blk_drew m.out)
 replace HB:=zM (below_drew1 HB.out)
 refine start_ (n:=11) (S:=fun w'=>w'.cell? ⟨I,0,none⟩=some (.int .i64 a0_0)∧w'.cell? ⟨I,1,none⟩=some (.slice A0_1 l0_1.length c0_1)∧w'.cell? ⟨A,0,none⟩=some (.int .i64 a1_0)∧w'.cell? ⟨A,1,none⟩=some (.int .i64 a1_1)∧w'.cell? ⟨A,2,none⟩=some (.string a1_2)∧w'.cell? ⟨A,3,none⟩=some (.int .i64 a1_3)∧w'.cell? ⟨O,0,none⟩=some (.int .i64 a2_0)∧w'.cell? ⟨O,1,none⟩=some (.int .i64 a2_1)∧w'.cell? ⟨O,2,none⟩=some (.string a2_2)∧w'.cell? ⟨O,3,none⟩=some (.int .i64 a2_3)) (ds:=[]) #[false,false,false,false,false,false,false,false,false,false,false] (by kernel_rfl) rfl rfl ⟨(blk_cell c.out 0).trans rfl,(blk_cell c.out 1).trans rfl,(blk_cell b.out 0).trans rfl,(blk_cell b.out 1).trans rfl,(blk_cell b.out 2).trans rfl,(blk_cell b.out 3).trans rfl,(blk_cell d.out 0).trans rfl,(blk_cell d.out 1).trans rfl,(blk_cell d.out 2).trans rfl,(blk_cell d.out 3).trans rfl⟩ (fun hHeld=>?_);refine with_tabW impl_GetElement.tab1 impl_GetElement.bits1 (fun B ad=>?_)
 generalize bZ.drew=w13 at c b d m HB hHeld ⊢
 refine take_ (i:=0) (N:=some 12) (v:=?_) (a':=?_) (bN 11 1) rfl rfl (take_ofW B.out ad.out (by kernel_rfl)) (fun _ _ _ h=>h) (Or.inl ⟨by rfl,?_⟩) hHeld ?_ ?_
 rotate_left
 ·(
 rintro w' ⟨s0,s1,s2,s3,s4,s5,s6,s7,s8,s9⟩
 go_simp
 with_reducible rfl)
 rotate_left
 ·(
 simp only[zP,i64_w,i32_w]
 rfl)
 refine take_ (i:=1) (N:=some 13) (v:=?_) (a':=?_) (bN 11 3) rfl rfl (take_ofW B.out ad.out (by kernel_rfl)) (fun _ _ _ h=>h) (Or.inl ⟨by rfl,?_⟩) hHeld ?_ ?_
 rotate_left
 ·(
 rintro w' ⟨s0,s1,s2,s3,s4,s5,s6,s7,s8,s9⟩
 go_simp
 with_reducible rfl)
 rotate_left
 ·(
 simp only[zP,i64_w,i32_w]
 rfl)
 refine take_ (i:=2) (N:=some 14) (v:=?_) (a':=?_) (bN 11 7) rfl rfl (take_ofW B.out ad.out (by kernel_rfl)) (fun _ _ _ h=>h) (Or.inl ⟨by rfl,?_⟩) hHeld ?_ ?_
 rotate_left
 ·(
 rintro w' ⟨s0,s1,s2,s3,s4,s5,s6,s7,s8,s9⟩
 go_simp
 with_reducible rfl)
 rotate_left
 ·(
 simp only[zP,i64_w,i32_w]
 rfl)
 refine take_ (i:=5) (N:=some 17) (v:=?_) (a':=?_) (bN 11 39) rfl rfl (take_ofW B.out ad.out (by kernel_rfl)) (fun _ _ _ h=>h) (Or.inl ⟨by rfl,?_⟩) hHeld ?_ ?_
 rotate_left
 ·(
 rintro w' ⟨s0,s1,s2,s3,s4,s5,s6,s7,s8,s9⟩
 go_simp
 with_reducible rfl)
 rotate_left
 ·(
 simp only[zP,i64_w,i32_w]
 rfl)
 refine one_ (i:=3) (N:=some 15) (bN 11 47) rfl rfl (one_of B.out (by kernel_rfl)) (by decide) (fun K hK=>?_)
 refine Kd.R_lit_step k29 _ 29 ?hg (N:=15) ?hd (xs:=([(⟨a1_0,a1_1,a1_2,a1_3⟩:S29),(⟨a2_0,a2_1,a2_2,a2_3⟩:S29)]:List (S29))) (inner:=[.int .i64 a1_0,.int .i64 a1_1,.string a1_2,.int .i64 a1_3,.int .i64 a2_0,.int .i64 a2_1,.string a2_2,.int .i64 a2_3]) (ok:=fun _=>True) (okp:=fun _=>True) ?hr ?hp (fun _ hk=>hk) trivial (Below.refl _ _) (Nat.le_refl _) (by simp) ?_;(case hd=>rfl);(case hg=>rfl);(case hr=>first|(go_simp;done)|(go_simp;rfl));(case hp=>exact(Reps.c4 (show Kd.M k29 _ _ _ (⟨a1_0,a1_1,a1_2,a1_3⟩:S29) [.int .i64 a1_0,.int .i64 a1_1,.string a1_2,.int .i64 a1_3] from(k29_mkM _ _ _ (⟨a1_0,a1_1,a1_2,a1_3⟩:S29))) (Reps.c4 (show Kd.M k29 _ _ _ (⟨a2_0,a2_1,a2_2,a2_3⟩:S29) [.int .i64 a2_0,.int .i64 a2_1,.string a2_2,.int .i64 a2_3] from(k29_mkM _ _ _ (⟨a2_0,a2_1,a2_2,a2_3⟩:S29))) (Reps.none _ _))))
 intro cp cq aB hb a8 a9
 clear a8 a9
 (first|rw[←bi.out]at aB|(simp only[Int.reduceToNat]at aB;rw[←bi.out]at aB))
 have ae:=zM (Kd.R_lower (Kd.R_newB (Kd.R_newB (Kd.R_newB aB (g:=A) (o:= .cells #[.int .i64 a1_0,.int .i64 a1_1,.string a1_2,.int .i64 a1_3] 29 (0,0)) (sT b.out)) (g:=O) (o:= .cells #[.int .i64 a2_0,.int .i64 a2_1,.string a2_2,.int .i64 a2_3] 29 (0,0)) (sT d.out)) (g:=P) (o:= .cells #[.int .i64 0,.int .i64 0,.string (⟨#[]⟩:ByteArray),.int .i64 0] 29 (0,0)) (sT m.out)) (below_size (by repeat(first|(with_reducible first|exact HB.out|apply below_alloc|apply pw_below_drewN|apply below_drew1|refine below_set ?_ ao.out|refine below_set ?_ ap.out|refine below_set ?_ aq.out|refine below_set ?_ ar.out)|exact HB.out))))
 replace c:=sK c hb
 replace b:=sK b hb
 replace d:=sK d hb
 replace m:=sK m hb
 replace HB:=sB HB hb
 clear hb aB
 obtain⟨b0,b1,bk⟩:=Kd.R_slice ae.out
 (first|subst bk|(injection bk with aC ba aD;have bb:=aC.symm;have bc:=aD.symm;clear aC ba aD;subst bb;subst bc))
 refine hK.out _ _ ⟨(blk_cell c.out 0).trans rfl,(blk_cell c.out 1).trans rfl,(blk_cell b.out 0).trans rfl,(blk_cell b.out 1).trans rfl,(blk_cell b.out 2).trans rfl,(blk_cell b.out 3).trans rfl,(blk_cell d.out 0).trans rfl,(blk_cell d.out 1).trans rfl,(blk_cell d.out 2).trans rfl,(blk_cell d.out 3).trans rfl⟩ (fun hHeld=>?_)
 clear hK K
 refine norm_ (a':=?_) ?_ ?_
 rotate_left
 ·(
 show Act.put _ (some 15) _=_
 simp only[zP,i64_w,i32_w]
 rfl)
 refine one_ (i:=4) (N:=some 16) (bN 11 63) rfl rfl (one_of B.out (by kernel_rfl)) (by decide) (fun K hK=>?_)
 refine goes_ Try.func45 (by kernel_rfl) rfl #[.agg #[.int .i64 a0_0,.slice A0_1 l0_1.length c0_1],.slice b0 y396.length b1] (by rfl) rfl rfl (by(try simp only[List.map_toArray,List.map_cons,List.map_nil]);first|done|rfl|(simp only[List.length_drop,List.length_take];rfl)) ?_
 with_reducible refine(impl_fitAll.calls k a0_0 _ _ l0_1 _ _ y396 ab _ ?side1 ?side2 ?side3 ?side4 A4.out).mono ?_
 (case side1=>exact sD (zC aR.out HB.out))
 (case side2=>exact a6.out)
 (case side3=>exact sD ((Kd.R_reads' ae.out).2.2))
 (case side4=>exact(Kd.R_reads' ae.out).2.1)
 rintro e cr ⟨rfl,hb⟩
 refine⟨_,rfl,?_⟩
 replace ae:=zM (Kd.R_below (sE ae.out) hb)
 replace c:=sK c hb
 replace b:=sK b hb
 replace d:=sK d hb
 replace m:=sK m hb
 replace HB:=sB HB hb
 (try clear hb)
 (try clear hb2)
 (try clear hk)
 (try clear hi)
 refine hK.out _ _ ⟨(blk_cell c.out 0).trans rfl,(blk_cell c.out 1).trans rfl,(blk_cell b.out 0).trans rfl,(blk_cell b.out 1).trans rfl,(blk_cell b.out 2).trans rfl,(blk_cell b.out 3).trans rfl,(blk_cell d.out 0).trans rfl,(blk_cell d.out 1).trans rfl,(blk_cell d.out 2).trans rfl,(blk_cell d.out 3).trans rfl⟩ (fun hHeld=>?_)
 clear hK K
 refine norm_ (a':=?_) ?_ ?_
 rotate_left
 ·(
 show Act.put _ (some 16) _=_
 simp only[zP,i64_w,i32_w]
 rfl)
 refine one_ (i:=6) (N:=some 18) (bN 11 127) rfl rfl (one_of B.out (by kernel_rfl)) (by decide) (fun K hK=>?_)
 refine goes_ Try.func52 (by kernel_rfl) rfl #[.agg #[.int .i64 a1_0,.int .i64 a1_1,.string a1_2,.int .i64 a1_3]] (by rfl) rfl rfl (by(try simp only[List.map_toArray,List.map_cons,List.map_nil]);first|done|rfl|(simp only[List.length_drop,List.length_take];rfl)) ?_
 with_reducible refine(impl_isIndexed.calls a1_0 a1_1 a1_2 a1_3 ag _ A5.out).mono ?_
 rintro e ct ⟨rfl,hb⟩
 refine⟨_,rfl,?_⟩
 replace ae:=zM (Kd.R_below (sE ae.out) hb)
 replace c:=sK c hb
 replace b:=sK b hb
 replace d:=sK d hb
 replace m:=sK m hb
 replace HB:=sB HB hb
 (try clear hb)
 (try clear hb2)
 (try clear hk)
 (try clear hi)
 refine hK.out _ _ ⟨(blk_cell c.out 0).trans rfl,(blk_cell c.out 1).trans rfl,(blk_cell b.out 0).trans rfl,(blk_cell b.out 1).trans rfl,(blk_cell b.out 2).trans rfl,(blk_cell b.out 3).trans rfl,(blk_cell d.out 0).trans rfl,(blk_cell d.out 1).trans rfl,(blk_cell d.out 2).trans rfl,(blk_cell d.out 3).trans rfl⟩ (fun hHeld=>?_)
 clear hK K
 refine norm_ (a':=?_) ?_ ?_
 rotate_left
 ·(
 show Act.put _ (some 18) _=_
 simp only[zP,i64_w,i32_w]
 rfl)
 refine one_ (i:=7) (N:=some 19) (bN 11 255) rfl rfl (one_of B.out (by kernel_rfl)) (by decide) (fun K hK=>?_)
 refine goes_ Try.func51 (by kernel_rfl) rfl #[.bool ag,.int .i64 4] (by rfl) rfl rfl (by(try simp only[List.map_toArray,List.map_cons,List.map_nil]);first|done|rfl|(simp only[List.length_drop,List.length_take];rfl)) ?_
 with_reducible refine(impl_unless.calls ag 4 ac _ A6.out).mono ?_
 rintro e w' ⟨rfl,⟨nd,rfl⟩⟩
 refine⟨_,rfl,?_⟩
 refine hK.out _ _ ⟨(blk_cell c.out 0).trans rfl,(blk_cell c.out 1).trans rfl,(blk_cell b.out 0).trans rfl,(blk_cell b.out 1).trans rfl,(blk_cell b.out 2).trans rfl,(blk_cell b.out 3).trans rfl,(blk_cell d.out 0).trans rfl,(blk_cell d.out 1).trans rfl,(blk_cell d.out 2).trans rfl,(blk_cell d.out 3).trans rfl⟩ (fun hHeld=>?_)
 clear hK K
 refine norm_ (a':=?_) ?_ ?_
 rotate_left
 ·(
 show Act.put _ (some 19) _=_
 simp only[zP,i64_w,i32_w]
 rfl)
 refine one_ (i:=8) (N:=some 20) (bN 11 511) rfl rfl (one_of B.out (by kernel_rfl)) (by decide) (fun K hK=>?_)
 refine Kd.R_lit_step (Kd.int .i64) _ 2 ?hg (N:=20) ?hd (xs:=([ab,ac]:List Int)) (inner:=[.int .i64 ab,.int .i64 ac]) (ok:=fun _=>True) (okp:=fun _=>True) ?hr ?hp (fun _ hk=>hk) trivial (Below.refl _ _) (Nat.le_refl _) (by simp) ?_;(case hd=>rfl);(case hg=>rfl);(case hr=>first|(go_simp;done)|(go_simp;rfl));(case hp=>exact(Reps.one (show Kd.M (Kd.int .i64) _ _ _ ab [.int .i64 ab] from rfl) (Reps.one (show Kd.M (Kd.int .i64) _ _ _ ac [.int .i64 ac] from rfl) (Reps.none _ _))))
 intro cu cv aE hb a8 a9
 clear a8 a9
 (first|rw[←bj.out]at aE|(simp only[Int.reduceToNat]at aE;rw[←bj.out]at aE))
 replace ae:=zM (Kd.R_below (sE ae.out) hb)
 have bd:=zM (Kd.R_lower aE (below_size (by repeat(first|(with_reducible first|exact HB.out|apply below_alloc|apply pw_below_drewN|apply below_drew1|refine below_set ?_ ao.out|refine below_set ?_ ap.out|refine below_set ?_ aq.out|refine below_set ?_ ar.out)|exact HB.out))))
 replace c:=sK c hb
 replace b:=sK b hb
 replace d:=sK d hb
 replace m:=sK m hb
 replace HB:=sB HB hb
 clear hb aE
 obtain⟨b2,b3,bl⟩:=Kd.R_slice bd.out
 (first|subst bl|(injection bl with aC ba aD;have bb:=aC.symm;have bc:=aD.symm;clear aC ba aD;subst bb;subst bc))
 refine hK.out _ _ ⟨(blk_cell c.out 0).trans rfl,(blk_cell c.out 1).trans rfl,(blk_cell b.out 0).trans rfl,(blk_cell b.out 1).trans rfl,(blk_cell b.out 2).trans rfl,(blk_cell b.out 3).trans rfl,(blk_cell d.out 0).trans rfl,(blk_cell d.out 1).trans rfl,(blk_cell d.out 2).trans rfl,(blk_cell d.out 3).trans rfl⟩ (fun hHeld=>?_)
 clear hK K
 refine norm_ (a':=?_) ?_ ?_
 rotate_left
 ·(
 show Act.put _ (some 20) _=_
 simp only[zP,i64_w,i32_w]
 rfl)
 refine one_ (i:=9) (N:=some 21) (bN 11 1023) rfl rfl (one_of B.out (by kernel_rfl)) (by decide) (fun K hK=>?_)
 refine goes_ Try.func50 (by kernel_rfl) rfl #[.slice b2 y402.length b3] (by rfl) rfl rfl (by(try simp only[List.map_toArray,List.map_cons,List.map_nil]);first|done|rfl|(simp only[List.length_drop,List.length_take];rfl)) ?_
 with_reducible refine(impl_first.calls k _ _ y402 J _ ?side1 ?side2 A7.out).mono ?_
 (case side1=>exact sD ((Kd.R_reads' bd.out).2.2))
 (case side2=>exact(Kd.R_reads' bd.out).2.1)
 rintro e w' ⟨rfl,⟨nd,rfl⟩⟩
 refine⟨_,rfl,?_⟩
 refine hK.out _ _ ⟨(blk_cell c.out 0).trans rfl,(blk_cell c.out 1).trans rfl,(blk_cell b.out 0).trans rfl,(blk_cell b.out 1).trans rfl,(blk_cell b.out 2).trans rfl,(blk_cell b.out 3).trans rfl,(blk_cell d.out 0).trans rfl,(blk_cell d.out 1).trans rfl,(blk_cell d.out 2).trans rfl,(blk_cell d.out 3).trans rfl⟩ (fun hHeld=>?_)
 clear hK K
 refine norm_ (a':=?_) ?_ ?_
 rotate_left
 ·(
 show Act.put _ (some 21) _=_
 simp only[zP,i64_w,i32_w]
 rfl)
 refine pure_ (i:=10) (N:=some 9) (v:=?_) (a':=?_) (bN 11 2047) rfl rfl (any_of B.out (by kernel_rfl)) (fun _ _ _ h=>h) (Or.inl ⟨by rfl,?_⟩) ?_ ?_
 rotate_left
 ·(
 intro w'
 go_simp
 with_reducible rfl)
 rotate_left
 ·(
 simp only[zP,i64_w,i32_w]
 rfl)
 refine done_ (done_of B.out (by kernel_rfl)) ?_
 go_upto_if 23 with(fail)
 go_cut [] (fun wc=>∃(kq:Nat) (au:Int) (av:Int) (aw:ByteArray) (ax:Int),Aside0 (impl_GetElement.j0 kq a0_0 l0_1 a1_0 a1_1 a1_2 a1_3 a2_0 a2_1 a2_2 a2_3=some (r1,r2,r3,r4,r5,r6))∧Aside0 (kq≤k)∧Aside0 (wc.heap[I]?=some (.cells #[.int .i64 a0_0,(.slice A0_1 l0_1.length c0_1)] 34 (0,0)))∧Aside0 (wc.heap[A]?=some (.cells #[.int .i64 a1_0,.int .i64 a1_1,.string a1_2,.int .i64 a1_3] 29 (0,0)))∧Aside0 (wc.heap[O]?=some (.cells #[.int .i64 a2_0,.int .i64 a2_1,.string a2_2,.int .i64 a2_3] 29 (0,0)))∧Aside0 (wc.heap[P]?=some (.cells #[.int .i64 au,.int .i64 av,.string aw,.int .i64 ax] 29 (0,0)))∧Aside0 (Below w.heap.size w wc))
 case first=>(
 have H:=a7.out
 clear a7
 by_cases ai:J=0
 ·(
 rw[if_pos ai]at H
 have c22b0:(J==0)=true:=zE ai
 have c22b1:(J !=0)=false:=zY ai
 clear ai
 (first|rw[c22b0]|(simp only[i64_w,i32_w];rw[c22b0])|rw[c22b2]|skip)
 have H':=zM H
 clear H
 go_wp2
 go_meet
 case rel=>exact⟨_,(0),(0),((⟨#[]⟩:ByteArray)),(0),H',⟨by first|omega|exact Nat.le_refl _⟩,⟨by exact sT c.out⟩,⟨by exact sT b.out⟩,⟨by exact sT d.out⟩,⟨by exact sT m.out⟩,⟨sb⟩⟩)
 rw[if_neg ai]at H
 have c22b0:(J==0)=false:=zN ai
 have c22b1:(J !=0)=true:=zX ai
 (first|rw[c22b0]|(simp only[i64_w,i32_w];rw[c22b0])|rw[c22b2]|skip)
 simp only[Option.some.injEq,Prod.mk.injEq]at H
 obtain⟨rfl,rfl,rfl,rfl,rfl,rfl⟩:=H
 have cw:=aT.out
 have cx:=aS.out
 have cy:=aV.out
 have cz:=aU.out
 have cA:=aA.out
 have cB:=az.out
 obtain⟨cC,cD,cE,cF,cG,cH,cI,cJ⟩:=cells4 m.out
 go_wp2
 refine bodyPost_ret (results_ctt rfl _ _ P 29 #[.int .i64 0,.int .i64 0,.string (⟨#[]⟩:ByteArray),.int .i64 0] (0,0) _ rfl (by exact sP4 (sT m.out)) Try.underlying29 rfl (by kernel_rfl)) rfl ?_
 exact⟨sq,sb⟩)
 case rest=>(
 clear a7
 try clear c4
 obtain⟨kq,au,av,aw,ax,HA,b4,c,b,d,m,HB⟩:=hcut
 cases kq with
 |zero=>exact absurd HA.out (by simp[impl_GetElement.j0])
 |succ kj7=>(
 have H:=HA.out
 clear HA
 simp only[impl_GetElement.j0]at H
 obtain⟨a,bm,H⟩:=sO H
 by_cases aF:0≤a
 ·(
 rw[if_pos aF]at H
 have c28b0:=zT aF
 clear aF
 by_cases aG:a<(l0_1.length:Int)
 ·(
 rw[if_pos aG]at H
 have c29b0:=zT aG
 clear aG
 have be:=zM H
 clear H
 try go_wp2
 replace c:=zM (blk_drew c.out)
 replace b:=zM (blk_drew b.out)
 replace d:=zM (blk_drew d.out)
 replace m:=zM (blk_drew m.out)
 replace HB:=zM (below_drew1 HB.out)
 have aW:0≤(a:Int):=zO (by first|(with_reducible assumption)|assumption)
 have aX:a<(l0_1.length:Int):=zO (by first|(with_reducible assumption)|assumption)
 obtain⟨l,aj,ak,al,am,b5,aH,aI,aJ,aK,aL,aM,aN,aO,aP,aQ,bn,bo,bp,bq⟩:=at_T56 aR.out a aW aX
 have Q:=aQ
 have R:=aP
 have T:=aO
 have U:=aN
 have V:=aM
 have W:=aL
 have X:=aK
 have Y:=aJ
 have Z:=aI
 have aa:=aH
 cases b5
 replace aH:=sX HB aH
 replace aI:=sX HB aI
 replace aJ:=sX HB aJ
 replace aK:=sX HB aK
 replace aL:=sX HB aL
 replace aM:=sX HB aM
 replace aN:=sX HB aN
 replace aO:=sX HB aO
 replace aP:=sX HB aP
 replace aQ:=sX HB aQ
 have br:=zM bo
 have b6:=zM bn
 clear bo bn
 have bf:=zM bq
 have b7:=zM bp
 clear bq bp
 replace aW:=eq_true aW
 replace aX:=eq_true aX
 refine start_ (n:=9) (S:=fun w'=>w'.cell? ⟨I,0,none⟩=some (.int .i64 a0_0)∧w'.cell? ⟨I,1,none⟩=some (.slice (some l) l0_1.length c0_1)∧w'.cell? ⟨A,0,none⟩=some (.int .i64 a1_0)∧w'.cell? ⟨A,1,none⟩=some (.int .i64 a1_1)∧w'.cell? ⟨A,2,none⟩=some (.string a1_2)∧w'.cell? ⟨A,3,none⟩=some (.int .i64 a1_3)∧w'.cell? (l.add ((a).toNat*10))=some (.int .i64 ((rd_T56 l0_1 a).f0))∧w'.cell? ⟨(l.add ((a).toNat*10)).block,(l.add ((a).toNat*10)).off+1,none⟩=some (.int .i64 ((rd_T56 l0_1 a).f1))∧w'.cell? ⟨(l.add ((a).toNat*10)).block,(l.add ((a).toNat*10)).off+2,none⟩=some (.string ((rd_T56 l0_1 a).f2))∧w'.cell? ⟨(l.add ((a).toNat*10)).block,(l.add ((a).toNat*10)).off+3,none⟩=some (.int .i64 ((rd_T56 l0_1 a).f3))∧w'.cell? ⟨(l.add ((a).toNat*10)).block,(l.add ((a).toNat*10)).off+4,none⟩=some (.slice aj ((rd_T56 l0_1 a).f4).length ak)∧w'.cell? ⟨(l.add ((a).toNat*10)).block,(l.add ((a).toNat*10)).off+5,none⟩=some (.slice al ((rd_T56 l0_1 a).f5).length am)∧w'.cell? ⟨(l.add ((a).toNat*10)).block,(l.add ((a).toNat*10)).off+6,none⟩=some (.int .i64 ((rd_T56 l0_1 a).f6.f0))∧w'.cell? ⟨(l.add ((a).toNat*10)).block,(l.add ((a).toNat*10)).off+7,none⟩=some (.int .i64 ((rd_T56 l0_1 a).f6.f1))∧w'.cell? ⟨(l.add ((a).toNat*10)).block,(l.add ((a).toNat*10)).off+8,none⟩=some (.string ((rd_T56 l0_1 a).f6.f2))∧w'.cell? ⟨(l.add ((a).toNat*10)).block,(l.add ((a).toNat*10)).off+9,none⟩=some (.int .i64 ((rd_T56 l0_1 a).f6.f3))) (ds:=[]) #[false,false,false,false,false,false,false,false,false] (by kernel_rfl) rfl rfl ⟨(blk_cell c.out 0).trans rfl,(blk_cell c.out 1).trans rfl,(blk_cell b.out 0).trans rfl,(blk_cell b.out 1).trans rfl,(blk_cell b.out 2).trans rfl,(blk_cell b.out 3).trans rfl,((HB.out.cell (zL w _ aa)).trans aa),((HB.out.cell (zL w _ Z)).trans Z),((HB.out.cell (zL w _ Y)).trans Y),((HB.out.cell (zL w _ X)).trans X),((HB.out.cell (zL w _ W)).trans W),((HB.out.cell (zL w _ V)).trans V),((HB.out.cell (zL w _ U)).trans U),((HB.out.cell (zL w _ T)).trans T),((HB.out.cell (zL w _ R)).trans R),((HB.out.cell (zL w _ Q)).trans Q)⟩ (fun hHeld=>?_);refine with_tabW impl_GetElement.tab4 impl_GetElement.bits4 (fun B ad=>?_)
 generalize wc.drew=w31 at c b d m HB br bf aH aI aJ aK aL aM aN aO aP aQ hHeld ⊢
 refine pure_ (i:=0) (N:=some 26) (v:=?_) (a':=?_) (bN 9 1) rfl rfl (any_of B.out (by kernel_rfl)) (fun _ _ _ h=>h) (Or.inl ⟨by rfl,?_⟩) ?_ ?_
 rotate_left
 ·(
 intro w'
 go_simp
 with_reducible rfl)
 rotate_left
 ·(
 simp only[zP,i64_w,i32_w]
 rfl)
 refine take_ (i:=1) (N:=some 27) (v:=?_) (a':=?_) (bN 9 3) rfl rfl (take_ofW B.out ad.out (by kernel_rfl)) (fun _ _ _ h=>h) (Or.inl ⟨by rfl,?_⟩) hHeld ?_ ?_
 rotate_left
 ·(
 rintro w' ⟨s0,s1,s2,s3,s4,s5,s6,s7,s8,s9,aY,aZ,a0,a1,a2,a3⟩
 go_simp
 with_reducible rfl)
 rotate_left
 ·(
 simp only[zP,i64_w,i32_w]
 rfl)
 refine take_ (i:=2) (N:=some 28) (v:=?_) (a':=?_) (bN 9 7) rfl rfl (take_ofW B.out ad.out (by kernel_rfl)) (fun _ _ _ h=>h) (Or.inl ⟨by rfl,?_⟩) hHeld ?_ ?_
 rotate_left
 ·(
 rintro w' ⟨s0,s1,s2,s3,s4,s5,s6,s7,s8,s9,aY,aZ,a0,a1,a2,a3⟩
 go_simp
 with_reducible rfl)
 rotate_left
 ·(
 simp only[zP,i64_w,i32_w]
 rfl)
 refine take_ (i:=3) (N:=some 29) (v:=?_) (a':=?_) (bN 9 15) rfl rfl (take_ofW B.out ad.out (by kernel_rfl)) (fun _ _ _ h=>h) (Or.inl ⟨by rfl,?_⟩) hHeld ?_ ?_
 rotate_left
 ·(
 rintro w' ⟨s0,s1,s2,s3,s4,s5,s6,s7,s8,s9,aY,aZ,a0,a1,a2,a3⟩
 go_simp
 with_reducible rfl)
 rotate_left
 ·(
 simp only[zP,i64_w,i32_w]
 rfl)
 refine join_ (σ:=Nat) 1 (bN 9 255) (fun s_=>[(30,.int .i64 a),(10,.pointer (some ⟨s_,0,none⟩)),(31,.pointer (some (l.add ((a).toNat*10)))),(32,.agg #[.int .i64 ((rd_T56 l0_1 a).f0),.int .i64 ((rd_T56 l0_1 a).f1),.string ((rd_T56 l0_1 a).f2),.int .i64 ((rd_T56 l0_1 a).f3),.slice aj ((rd_T56 l0_1 a).f4).length ak,.slice al ((rd_T56 l0_1 a).f5).length am,.int .i64 ((rd_T56 l0_1 a).f6.f0),.int .i64 ((rd_T56 l0_1 a).f6.f1),.string ((rd_T56 l0_1 a).f6.f2),.int .i64 ((rd_T56 l0_1 a).f6.f3)])]) (fun s_ w'=>(w'.cell? ⟨I,0,none⟩=some (.int .i64 a0_0)∧w'.cell? ⟨I,1,none⟩=some (.slice (some l) l0_1.length c0_1)∧w'.cell? ⟨A,0,none⟩=some (.int .i64 a1_0)∧w'.cell? ⟨A,1,none⟩=some (.int .i64 a1_1)∧w'.cell? ⟨A,2,none⟩=some (.string a1_2)∧w'.cell? ⟨A,3,none⟩=some (.int .i64 a1_3)∧w'.cell? (l.add ((a).toNat*10))=some (.int .i64 ((rd_T56 l0_1 a).f0))∧w'.cell? ⟨(l.add ((a).toNat*10)).block,(l.add ((a).toNat*10)).off+1,none⟩=some (.int .i64 ((rd_T56 l0_1 a).f1))∧w'.cell? ⟨(l.add ((a).toNat*10)).block,(l.add ((a).toNat*10)).off+2,none⟩=some (.string ((rd_T56 l0_1 a).f2))∧w'.cell? ⟨(l.add ((a).toNat*10)).block,(l.add ((a).toNat*10)).off+3,none⟩=some (.int .i64 ((rd_T56 l0_1 a).f3))∧w'.cell? ⟨(l.add ((a).toNat*10)).block,(l.add ((a).toNat*10)).off+4,none⟩=some (.slice aj ((rd_T56 l0_1 a).f4).length ak)∧w'.cell? ⟨(l.add ((a).toNat*10)).block,(l.add ((a).toNat*10)).off+5,none⟩=some (.slice al ((rd_T56 l0_1 a).f5).length am)∧w'.cell? ⟨(l.add ((a).toNat*10)).block,(l.add ((a).toNat*10)).off+6,none⟩=some (.int .i64 ((rd_T56 l0_1 a).f6.f0))∧w'.cell? ⟨(l.add ((a).toNat*10)).block,(l.add ((a).toNat*10)).off+7,none⟩=some (.int .i64 ((rd_T56 l0_1 a).f6.f1))∧w'.cell? ⟨(l.add ((a).toNat*10)).block,(l.add ((a).toNat*10)).off+8,none⟩=some (.string ((rd_T56 l0_1 a).f6.f2))∧w'.cell? ⟨(l.add ((a).toNat*10)).block,(l.add ((a).toNat*10)).off+9,none⟩=some (.int .i64 ((rd_T56 l0_1 a).f6.f3)))∧(w'.heap[I]?=some (.cells #[.int .i64 a0_0,.slice (some l) l0_1.length c0_1] 34 (0,0)))∧(w'.heap[A]?=some (.cells #[.int .i64 a1_0,.int .i64 a1_1,.string a1_2,.int .i64 a1_3] 29 (0,0)))∧(w'.heap[O]?=some (.cells #[.int .i64 a2_0,.int .i64 a2_1,.string a2_2,.int .i64 a2_3] 29 (0,0)))∧(w'.heap[P]?=some (.cells #[.int .i64 au,.int .i64 av,.string aw,.int .i64 ax] 29 (0,0)))∧(w'.heap[s_]?=some (.cells #[.int .i64 0,.int .i64 0,.string (⟨#[]⟩:ByteArray),.int .i64 0,.slice none 0 0,.slice none 0 0,.int .i64 0,.int .i64 0,.string (⟨#[]⟩:ByteArray),.int .i64 0] 56 (0,0)))∧(w.heap.size≤s_)∧(w.heap.size≤s_)∧(I≠s_)∧(s_≠I)∧(A≠s_)∧(s_≠A)∧(O≠s_)∧(s_≠O)∧(P≠s_)∧(s_≠P)∧(Below w.heap.size w w')) ?_ ?_
 rotate_left
 ·(
 intro hCont
 refine two_ (i:=4) (j:=7) (Ni:=some 30) (Nj:=some 10) (bN 9 31) (bN 9 143) rfl rfl rfl rfl (two_of B.out (by kernel_rfl)) (by decide) (by decide) (fun K hK=>?_) (fun K hK=>?_)
 ·(
 skip
 refine goes_ Try.func53 (by kernel_rfl) rfl #[.agg #[.int .i64 a0_0,.slice (some l) l0_1.length c0_1],.agg #[.int .i64 a1_0,.int .i64 a1_1,.string a1_2,.int .i64 a1_3]] (by rfl) rfl rfl (by(try simp only[List.map_toArray,List.map_cons,List.map_nil]);first|done|rfl|(simp only[List.length_drop,List.length_take];rfl)) ?_
 with_reducible refine(impl_Heap_object.calls kj7 a0_0 _ _ l0_1 a1_0 a1_1 a1_2 a1_3 a _ ?side1 ?side2 bm.out).mono ?_
 (case side1=>exact sD (zC aR.out HB.out))
 (case side2=>exact a6.out)
 rintro e b8 ⟨rfl,hb⟩
 refine⟨_,rfl,?_⟩
 replace c:=sK c hb
 replace b:=sK b hb
 replace d:=sK d hb
 replace m:=sK m hb
 replace HB:=sB HB hb
 (try clear hb)
 (try clear hb2)
 (try clear hk)
 (try clear hi)
 refine hK.out _ _ ⟨(blk_cell c.out 0).trans rfl,(blk_cell c.out 1).trans rfl,(blk_cell b.out 0).trans rfl,(blk_cell b.out 1).trans rfl,(blk_cell b.out 2).trans rfl,(blk_cell b.out 3).trans rfl,((HB.out.cell (zL w _ aa)).trans aa),((HB.out.cell (zL w _ Z)).trans Z),((HB.out.cell (zL w _ Y)).trans Y),((HB.out.cell (zL w _ X)).trans X),((HB.out.cell (zL w _ W)).trans W),((HB.out.cell (zL w _ V)).trans V),((HB.out.cell (zL w _ U)).trans U),((HB.out.cell (zL w _ T)).trans T),((HB.out.cell (zL w _ R)).trans R),((HB.out.cell (zL w _ Q)).trans Q)⟩ (fun hHeld=>?_)
 clear hK K
 refine norm_ (a':=?_) ?_ ?_
 rotate_left
 ·(
 show Act.put _ (some 30) _=_
 simp only[zP,i64_w,i32_w]
 rfl)
 refine pure_ (i:=5) (N:=some 31) (v:=?_) (a':=?_) (bN 9 63) rfl rfl (any_of B.out (by kernel_rfl)) (fun _ _ _ h=>h) (Or.inl ⟨by rfl,?_⟩) ?_ ?_
 rotate_left
 ·(
 intro w'
 go_simp
 with_reducible rfl)
 rotate_left
 ·(
 simp only[zP,i64_w,i32_w]
 rfl)
 refine take_ (i:=6) (N:=some 32) (v:=?_) (a':=?_) (bN 9 127) rfl rfl (take_ofW B.out ad.out (by kernel_rfl)) (fun _ _ _ h=>h) (Or.inl ⟨by rfl,?_⟩) hHeld ?_ ?_
 rotate_left
 ·(
 rintro w' ⟨s0,s1,s2,s3,s4,s5,s6,s7,s8,s9,aY,aZ,a0,a1,a2,a3⟩
 go_simp
 with_reducible rfl)
 rotate_left
 ·(
 simp only[zP,i64_w,i32_w]
 rfl)
 refine one_ (i:=7) (N:=some 10) (bN 9 255) rfl rfl (one_of B.out (by kernel_rfl)) (by decide) (fun K hK=>?_)
 refine box_step ?hg (N:=10) ?hd (cs:= #[.int .i64 0,.int .i64 0,.string (⟨#[]⟩:ByteArray),.int .i64 0,.slice none 0 0,.slice none 0 0,.int .i64 0,.int .i64 0,.string (⟨#[]⟩:ByteArray),.int .i64 0]) (t:=56) ?hr ?_;(case hd=>rfl);(case hg=>rfl);(case hr=>first|(go_simp;done)|(go_simp;rfl))
 intro q hg b9 hbox hb
 have r:=zM (hbox)
 have p:=sG HB hg
 have af:=sG HB hg
 replace HB:=sB HB hb
 have x:=sN c hg
 have D:=sM c hg
 replace c:=sK c hb
 have s:=sN b hg
 have E:=sM b hg
 replace b:=sK b hb
 have y:=sN d hg
 have F:=sM d hg
 replace d:=sK d hb
 have z:=sN m hg
 have G:=sM m hg
 replace m:=sK m hb
 clear hb hbox hg
 refine hK.out _ _ ⟨(blk_cell c.out 0).trans rfl,(blk_cell c.out 1).trans rfl,(blk_cell b.out 0).trans rfl,(blk_cell b.out 1).trans rfl,(blk_cell b.out 2).trans rfl,(blk_cell b.out 3).trans rfl,((HB.out.cell (zL w _ aa)).trans aa),((HB.out.cell (zL w _ Z)).trans Z),((HB.out.cell (zL w _ Y)).trans Y),((HB.out.cell (zL w _ X)).trans X),((HB.out.cell (zL w _ W)).trans W),((HB.out.cell (zL w _ V)).trans V),((HB.out.cell (zL w _ U)).trans U),((HB.out.cell (zL w _ T)).trans T),((HB.out.cell (zL w _ R)).trans R),((HB.out.cell (zL w _ Q)).trans Q)⟩ (fun hHeld=>?_)
 clear hK K
 refine norm_ (a':=?_) ?_ ?_
 rotate_left
 ·(
 show Act.put _ (some 10) _=_
 simp only[zP,i64_w,i32_w]
 rfl)
 exact norm_ (by simp only[putAll,Act.put,List.setIfInBounds_toArray,List.set_cons_zero,List.set_cons_succ]) (hCont (q) _ ⟨hHeld,(sT c.out),(sT b.out),(sT d.out),(sT m.out),(sT r.out),p.out,af.out,x.out,D.out,s.out,E.out,y.out,F.out,z.out,G.out,(by repeat(first|(with_reducible first|exact HB.out|apply below_alloc|apply pw_below_drewN|apply below_drew1|refine below_set ?_ ao.out|refine below_set ?_ ap.out|refine below_set ?_ aq.out|refine below_set ?_ ar.out|refine below_set ?_ af.out)|exact HB.out))⟩))
 ·(
 skip
 refine box_step ?hg (N:=10) ?hd (cs:= #[.int .i64 0,.int .i64 0,.string (⟨#[]⟩:ByteArray),.int .i64 0,.slice none 0 0,.slice none 0 0,.int .i64 0,.int .i64 0,.string (⟨#[]⟩:ByteArray),.int .i64 0]) (t:=56) ?hr ?_;(case hd=>rfl);(case hg=>rfl);(case hr=>first|(go_simp;done)|(go_simp;rfl))
 intro q hg b8 hbox hb
 have r:=zM (hbox)
 have p:=sG HB hg
 have af:=sG HB hg
 replace HB:=sB HB hb
 have x:=sN c hg
 have D:=sM c hg
 replace c:=sK c hb
 have s:=sN b hg
 have E:=sM b hg
 replace b:=sK b hb
 have y:=sN d hg
 have F:=sM d hg
 replace d:=sK d hb
 have z:=sN m hg
 have G:=sM m hg
 replace m:=sK m hb
 clear hb hbox hg
 refine hK.out _ _ ⟨(blk_cell c.out 0).trans rfl,(blk_cell c.out 1).trans rfl,(blk_cell b.out 0).trans rfl,(blk_cell b.out 1).trans rfl,(blk_cell b.out 2).trans rfl,(blk_cell b.out 3).trans rfl,((HB.out.cell (zL w _ aa)).trans aa),((HB.out.cell (zL w _ Z)).trans Z),((HB.out.cell (zL w _ Y)).trans Y),((HB.out.cell (zL w _ X)).trans X),((HB.out.cell (zL w _ W)).trans W),((HB.out.cell (zL w _ V)).trans V),((HB.out.cell (zL w _ U)).trans U),((HB.out.cell (zL w _ T)).trans T),((HB.out.cell (zL w _ R)).trans R),((HB.out.cell (zL w _ Q)).trans Q)⟩ (fun hHeld=>?_)
 clear hK K
 refine norm_ (a':=?_) ?_ ?_
 rotate_left
 ·(
 show Act.put _ (some 10) _=_
 simp only[zP,i64_w,i32_w]
 rfl)
 refine one_ (i:=4) (N:=some 30) (bN 9 159) rfl rfl (one_of B.out (by kernel_rfl)) (by decide) (fun K hK=>?_)
 refine goes_ Try.func53 (by kernel_rfl) rfl #[.agg #[.int .i64 a0_0,.slice (some l) l0_1.length c0_1],.agg #[.int .i64 a1_0,.int .i64 a1_1,.string a1_2,.int .i64 a1_3]] (by rfl) rfl rfl (by(try simp only[List.map_toArray,List.map_cons,List.map_nil]);first|done|rfl|(simp only[List.length_drop,List.length_take];rfl)) ?_
 with_reducible refine(impl_Heap_object.calls kj7 a0_0 _ _ l0_1 a1_0 a1_1 a1_2 a1_3 a _ ?side1 ?side2 bm.out).mono ?_
 (case side1=>exact sD (zC aR.out HB.out))
 (case side2=>exact a6.out)
 rintro e b9 ⟨rfl,hb⟩
 refine⟨_,rfl,?_⟩
 replace c:=sK c hb
 replace b:=sK b hb
 replace d:=sK d hb
 replace m:=sK m hb
 replace r:=sK r hb
 replace HB:=sB HB hb
 (try clear hb)
 (try clear hb2)
 (try clear hk)
 (try clear hi)
 refine hK.out _ _ ⟨(blk_cell c.out 0).trans rfl,(blk_cell c.out 1).trans rfl,(blk_cell b.out 0).trans rfl,(blk_cell b.out 1).trans rfl,(blk_cell b.out 2).trans rfl,(blk_cell b.out 3).trans rfl,((HB.out.cell (zL w _ aa)).trans aa),((HB.out.cell (zL w _ Z)).trans Z),((HB.out.cell (zL w _ Y)).trans Y),((HB.out.cell (zL w _ X)).trans X),((HB.out.cell (zL w _ W)).trans W),((HB.out.cell (zL w _ V)).trans V),((HB.out.cell (zL w _ U)).trans U),((HB.out.cell (zL w _ T)).trans T),((HB.out.cell (zL w _ R)).trans R),((HB.out.cell (zL w _ Q)).trans Q)⟩ (fun hHeld=>?_)
 clear hK K
 refine norm_ (a':=?_) ?_ ?_
 rotate_left
 ·(
 show Act.put _ (some 30) _=_
 simp only[zP,i64_w,i32_w]
 rfl)
 refine pure_ (i:=5) (N:=some 31) (v:=?_) (a':=?_) (bN 9 191) rfl rfl (any_of B.out (by kernel_rfl)) (fun _ _ _ h=>h) (Or.inl ⟨by rfl,?_⟩) ?_ ?_
 rotate_left
 ·(
 intro w'
 go_simp
 with_reducible rfl)
 rotate_left
 ·(
 simp only[zP,i64_w,i32_w]
 rfl)
 refine take_ (i:=6) (N:=some 32) (v:=?_) (a':=?_) (bN 9 255) rfl rfl (take_ofW B.out ad.out (by kernel_rfl)) (fun _ _ _ h=>h) (Or.inl ⟨by rfl,?_⟩) hHeld ?_ ?_
 rotate_left
 ·(
 rintro w' ⟨s0,s1,s2,s3,s4,s5,s6,s7,s8,s9,aY,aZ,a0,a1,a2,a3⟩
 go_simp
 with_reducible rfl)
 rotate_left
 ·(
 simp only[zP,i64_w,i32_w]
 rfl)
 exact norm_ (by simp only[putAll,Act.put,List.setIfInBounds_toArray,List.set_cons_zero,List.set_cons_succ]) (hCont (q) _ ⟨hHeld,(sT c.out),(sT b.out),(sT d.out),(sT m.out),(sT r.out),p.out,af.out,x.out,D.out,s.out,E.out,y.out,F.out,z.out,G.out,(by repeat(first|(with_reducible first|exact HB.out|apply below_alloc|apply pw_below_drewN|apply below_drew1|refine below_set ?_ ao.out|refine below_set ?_ ap.out|refine below_set ?_ aq.out|refine below_set ?_ ar.out|refine below_set ?_ af.out)|exact HB.out))⟩)))
 rintro q u ⟨ca,bs,bt,bu,bv,bw,bx,bz,bA,bB,bC,bD,bE,bF,bG,bH,bI⟩
 replace c:Aside0 (u.heap[I]?=some (.cells #[.int .i64 a0_0,.slice (some l) l0_1.length c0_1] 34 (0,0))):=⟨bs⟩
 replace b:Aside0 (u.heap[A]?=some (.cells #[.int .i64 a1_0,.int .i64 a1_1,.string a1_2,.int .i64 a1_3] 29 (0,0))):=⟨bt⟩
 replace d:Aside0 (u.heap[O]?=some (.cells #[.int .i64 a2_0,.int .i64 a2_1,.string a2_2,.int .i64 a2_3] 29 (0,0))):=⟨bu⟩
 replace m:Aside0 (u.heap[P]?=some (.cells #[.int .i64 au,.int .i64 av,.string aw,.int .i64 ax] 29 (0,0))):=⟨bv⟩
 have r:Aside0 (u.heap[q]?=some (.cells #[.int .i64 0,.int .i64 0,.string (⟨#[]⟩:ByteArray),.int .i64 0,.slice none 0 0,.slice none 0 0,.int .i64 0,.int .i64 0,.string (⟨#[]⟩:ByteArray),.int .i64 0] 56 (0,0))):=⟨bw⟩
 have p:Aside0 (w.heap.size≤q):=⟨bx⟩
 have af:Aside0 (w.heap.size≤q):=⟨bz⟩
 have x:Aside0 (I≠q):=⟨bA⟩
 have D:Aside0 (q≠I):=⟨bB⟩
 have s:Aside0 (A≠q):=⟨bC⟩
 have E:Aside0 (q≠A):=⟨bD⟩
 have y:Aside0 (O≠q):=⟨bE⟩
 have F:Aside0 (q≠O):=⟨bF⟩
 have z:Aside0 (P≠q):=⟨bG⟩
 have G:Aside0 (q≠P):=⟨bH⟩
 replace HB:Aside0 (Below w.heap.size w u):=⟨bI⟩
 clear bs bt bu bv bw bx bz bA bB bC bD bE bF bG bH bI
 have hHeld:u.cell? ⟨I,0,none⟩=some (.int .i64 a0_0)∧u.cell? ⟨I,1,none⟩=some (.slice (some l) l0_1.length c0_1)∧u.cell? ⟨A,0,none⟩=some (.int .i64 a1_0)∧u.cell? ⟨A,1,none⟩=some (.int .i64 a1_1)∧u.cell? ⟨A,2,none⟩=some (.string a1_2)∧u.cell? ⟨A,3,none⟩=some (.int .i64 a1_3)∧u.cell? (l.add ((a).toNat*10))=some (.int .i64 ((rd_T56 l0_1 a).f0))∧u.cell? ⟨(l.add ((a).toNat*10)).block,(l.add ((a).toNat*10)).off+1,none⟩=some (.int .i64 ((rd_T56 l0_1 a).f1))∧u.cell? ⟨(l.add ((a).toNat*10)).block,(l.add ((a).toNat*10)).off+2,none⟩=some (.string ((rd_T56 l0_1 a).f2))∧u.cell? ⟨(l.add ((a).toNat*10)).block,(l.add ((a).toNat*10)).off+3,none⟩=some (.int .i64 ((rd_T56 l0_1 a).f3))∧u.cell? ⟨(l.add ((a).toNat*10)).block,(l.add ((a).toNat*10)).off+4,none⟩=some (.slice aj ((rd_T56 l0_1 a).f4).length ak)∧u.cell? ⟨(l.add ((a).toNat*10)).block,(l.add ((a).toNat*10)).off+5,none⟩=some (.slice al ((rd_T56 l0_1 a).f5).length am)∧u.cell? ⟨(l.add ((a).toNat*10)).block,(l.add ((a).toNat*10)).off+6,none⟩=some (.int .i64 ((rd_T56 l0_1 a).f6.f0))∧u.cell? ⟨(l.add ((a).toNat*10)).block,(l.add ((a).toNat*10)).off+7,none⟩=some (.int .i64 ((rd_T56 l0_1 a).f6.f1))∧u.cell? ⟨(l.add ((a).toNat*10)).block,(l.add ((a).toNat*10)).off+8,none⟩=some (.string ((rd_T56 l0_1 a).f6.f2))∧u.cell? ⟨(l.add ((a).toNat*10)).block,(l.add ((a).toNat*10)).off+9,none⟩=some (.int .i64 ((rd_T56 l0_1 a).f6.f3)):=ca
 refine norm_ (a':=?_) ?_ ?_
 rotate_left
 ·(
 simp only[putAll,Act.put,List.setIfInBounds_toArray,List.set_cons_zero,List.set_cons_succ]
 rfl)
 refine one_ (i:=8) (N:=none) (bN 9 511) rfl rfl (one_of B.out (by kernel_rfl)) (by decide) (fun K hK=>?_)
 have cK:u.cell? ⟨q,0,none⟩=some (.int .i64 0):=(blk_cell r.out 0).trans rfl
 have cL:=blk_frozen r.out 0
 have cM:=x.out
 have cN:=s.out
 have cO:=y.out
 have cP:=z.out
 have cQ:=D.out
 have cR:=E.out
 have cS:=F.out
 have cT:=G.out
 have cU:u.cell? ⟨q,1,none⟩=some (.int .i64 0):=(blk_cell r.out 1).trans rfl
 have cV:=blk_frozen r.out 1
 have cW:=x.out
 have cX:=s.out
 have cY:=y.out
 have cZ:=z.out
 have c0:=D.out
 have c1:=E.out
 have c2:=F.out
 have c3:=G.out
 have c5:u.cell? ⟨q,2,none⟩=some (.string (⟨#[]⟩:ByteArray)):=(blk_cell r.out 2).trans rfl
 have c6:=blk_frozen r.out 2
 have c7:=x.out
 have c8:=s.out
 have c9:=y.out
 have da:=z.out
 have db:=D.out
 have dc:=E.out
 have dd:=F.out
 have de:=G.out
 have df:u.cell? ⟨q,3,none⟩=some (.int .i64 0):=(blk_cell r.out 3).trans rfl
 have dg:=blk_frozen r.out 3
 have dh:=x.out
 have di:=s.out
 have dj:=y.out
 have dk:=z.out
 have dl:=D.out
 have dm:=E.out
 have dn:=F.out
 have dp:=G.out
 have dq:u.cell? ⟨q,4,none⟩=some (.slice none 0 0):=(blk_cell r.out 4).trans rfl
 have dr:=blk_frozen r.out 4
 have dt:=x.out
 have du:=s.out
 have dv:=y.out
 have dw:=z.out
 have dx:=D.out
 have dy:=E.out
 have dz:=F.out
 have dA:=G.out
 have dB:u.cell? ⟨q,5,none⟩=some (.slice none 0 0):=(blk_cell r.out 5).trans rfl
 have dC:=blk_frozen r.out 5
 have dD:=x.out
 have dE:=s.out
 have dF:=y.out
 have dG:=z.out
 have dH:=D.out
 have dI:=E.out
 have dJ:=F.out
 have dK:=G.out
 have dL:u.cell? ⟨q,6,none⟩=some (.int .i64 0):=(blk_cell r.out 6).trans rfl
 have dM:=blk_frozen r.out 6
 have dN:=x.out
 have dO:=s.out
 have dP:=y.out
 have dQ:=z.out
 have dR:=D.out
 have dS:=E.out
 have dT:=F.out
 have dU:=G.out
 have dV:u.cell? ⟨q,7,none⟩=some (.int .i64 0):=(blk_cell r.out 7).trans rfl
 have dW:=blk_frozen r.out 7
 have dX:=x.out
 have dY:=s.out
 have dZ:=y.out
 have d0:=z.out
 have d1:=D.out
 have d2:=E.out
 have d3:=F.out
 have d4:=G.out
 have d5:u.cell? ⟨q,8,none⟩=some (.string (⟨#[]⟩:ByteArray)):=(blk_cell r.out 8).trans rfl
 have d6:=blk_frozen r.out 8
 have d7:=x.out
 have d8:=s.out
 have d9:=y.out
 have ea:=z.out
 have eb:=D.out
 have ec:=E.out
 have ed:=F.out
 have ee:=G.out
 have ef:u.cell? ⟨q,9,none⟩=some (.int .i64 0):=(blk_cell r.out 9).trans rfl
 have eg:=blk_frozen r.out 9
 have eh:=x.out
 have ei:=s.out
 have ej:=y.out
 have ek:=z.out
 have el:=D.out
 have em:=E.out
 have en:=F.out
 have eo:=G.out
 refine skip_ (w1:=?_) (by rfl) rfl ?_ ?_
 rotate_left
 ·(
 go_simp
 rfl)
 refine hK.out _ _ ⟨(sQ10 (g:=q) x.out (hHeld.1)),(sQ10 (g:=q) x.out (hHeld.2.1)),(sQ10 (g:=q) s.out (hHeld.2.2.1)),(sQ10 (g:=q) s.out (hHeld.2.2.2.1)),(sQ10 (g:=q) s.out (hHeld.2.2.2.2.1)),(sQ10 (g:=q) s.out (hHeld.2.2.2.2.2.1)),(sQ10 (g:=q) (by first|exact Nat.ne_of_lt (Nat.lt_of_lt_of_le (by have:=zL _ _ aa;first|rwa [add_block]at this|exact this) p.out)|(rw[add_block];exact Nat.ne_of_lt (Nat.lt_of_lt_of_le (by have:=zL _ _ aa;first|rwa [add_block]at this|exact this) p.out))|(show(Addr.add _ _).block≠_;rw[add_block];exact Nat.ne_of_lt (Nat.lt_of_lt_of_le (by have:=zL _ _ aa;first|rwa [add_block]at this|exact this) p.out))|(dsimp only;exact Nat.ne_of_lt (Nat.lt_of_lt_of_le (by have:=zL _ _ aa;first|rwa [add_block]at this|exact this) p.out))) (hHeld.2.2.2.2.2.2.1)),(sQ10 (g:=q) (by first|exact Nat.ne_of_lt (Nat.lt_of_lt_of_le (by have:=zL _ _ Z;first|rwa [add_block]at this|exact this) p.out)|(rw[add_block];exact Nat.ne_of_lt (Nat.lt_of_lt_of_le (by have:=zL _ _ Z;first|rwa [add_block]at this|exact this) p.out))|(show(Addr.add _ _).block≠_;rw[add_block];exact Nat.ne_of_lt (Nat.lt_of_lt_of_le (by have:=zL _ _ Z;first|rwa [add_block]at this|exact this) p.out))|(dsimp only;exact Nat.ne_of_lt (Nat.lt_of_lt_of_le (by have:=zL _ _ Z;first|rwa [add_block]at this|exact this) p.out))) (hHeld.2.2.2.2.2.2.2.1)),(sQ10 (g:=q) (by first|exact Nat.ne_of_lt (Nat.lt_of_lt_of_le (by have:=zL _ _ Y;first|rwa [add_block]at this|exact this) p.out)|(rw[add_block];exact Nat.ne_of_lt (Nat.lt_of_lt_of_le (by have:=zL _ _ Y;first|rwa [add_block]at this|exact this) p.out))|(show(Addr.add _ _).block≠_;rw[add_block];exact Nat.ne_of_lt (Nat.lt_of_lt_of_le (by have:=zL _ _ Y;first|rwa [add_block]at this|exact this) p.out))|(dsimp only;exact Nat.ne_of_lt (Nat.lt_of_lt_of_le (by have:=zL _ _ Y;first|rwa [add_block]at this|exact this) p.out))) (hHeld.2.2.2.2.2.2.2.2.1)),(sQ10 (g:=q) (by first|exact Nat.ne_of_lt (Nat.lt_of_lt_of_le (by have:=zL _ _ X;first|rwa [add_block]at this|exact this) p.out)|(rw[add_block];exact Nat.ne_of_lt (Nat.lt_of_lt_of_le (by have:=zL _ _ X;first|rwa [add_block]at this|exact this) p.out))|(show(Addr.add _ _).block≠_;rw[add_block];exact Nat.ne_of_lt (Nat.lt_of_lt_of_le (by have:=zL _ _ X;first|rwa [add_block]at this|exact this) p.out))|(dsimp only;exact Nat.ne_of_lt (Nat.lt_of_lt_of_le (by have:=zL _ _ X;first|rwa [add_block]at this|exact this) p.out))) (hHeld.2.2.2.2.2.2.2.2.2.1)),(sQ10 (g:=q) (by first|exact Nat.ne_of_lt (Nat.lt_of_lt_of_le (by have:=zL _ _ W;first|rwa [add_block]at this|exact this) p.out)|(rw[add_block];exact Nat.ne_of_lt (Nat.lt_of_lt_of_le (by have:=zL _ _ W;first|rwa [add_block]at this|exact this) p.out))|(show(Addr.add _ _).block≠_;rw[add_block];exact Nat.ne_of_lt (Nat.lt_of_lt_of_le (by have:=zL _ _ W;first|rwa [add_block]at this|exact this) p.out))|(dsimp only;exact Nat.ne_of_lt (Nat.lt_of_lt_of_le (by have:=zL _ _ W;first|rwa [add_block]at this|exact this) p.out))) (hHeld.2.2.2.2.2.2.2.2.2.2.1)),(sQ10 (g:=q) (by first|exact Nat.ne_of_lt (Nat.lt_of_lt_of_le (by have:=zL _ _ V;first|rwa [add_block]at this|exact this) p.out)|(rw[add_block];exact Nat.ne_of_lt (Nat.lt_of_lt_of_le (by have:=zL _ _ V;first|rwa [add_block]at this|exact this) p.out))|(show(Addr.add _ _).block≠_;rw[add_block];exact Nat.ne_of_lt (Nat.lt_of_lt_of_le (by have:=zL _ _ V;first|rwa [add_block]at this|exact this) p.out))|(dsimp only;exact Nat.ne_of_lt (Nat.lt_of_lt_of_le (by have:=zL _ _ V;first|rwa [add_block]at this|exact this) p.out))) (hHeld.2.2.2.2.2.2.2.2.2.2.2.1)),(sQ10 (g:=q) (by first|exact Nat.ne_of_lt (Nat.lt_of_lt_of_le (by have:=zL _ _ U;first|rwa [add_block]at this|exact this) p.out)|(rw[add_block];exact Nat.ne_of_lt (Nat.lt_of_lt_of_le (by have:=zL _ _ U;first|rwa [add_block]at this|exact this) p.out))|(show(Addr.add _ _).block≠_;rw[add_block];exact Nat.ne_of_lt (Nat.lt_of_lt_of_le (by have:=zL _ _ U;first|rwa [add_block]at this|exact this) p.out))|(dsimp only;exact Nat.ne_of_lt (Nat.lt_of_lt_of_le (by have:=zL _ _ U;first|rwa [add_block]at this|exact this) p.out))) (hHeld.2.2.2.2.2.2.2.2.2.2.2.2.1)),(sQ10 (g:=q) (by first|exact Nat.ne_of_lt (Nat.lt_of_lt_of_le (by have:=zL _ _ T;first|rwa [add_block]at this|exact this) p.out)|(rw[add_block];exact Nat.ne_of_lt (Nat.lt_of_lt_of_le (by have:=zL _ _ T;first|rwa [add_block]at this|exact this) p.out))|(show(Addr.add _ _).block≠_;rw[add_block];exact Nat.ne_of_lt (Nat.lt_of_lt_of_le (by have:=zL _ _ T;first|rwa [add_block]at this|exact this) p.out))|(dsimp only;exact Nat.ne_of_lt (Nat.lt_of_lt_of_le (by have:=zL _ _ T;first|rwa [add_block]at this|exact this) p.out))) (hHeld.2.2.2.2.2.2.2.2.2.2.2.2.2.1)),(sQ10 (g:=q) (by first|exact Nat.ne_of_lt (Nat.lt_of_lt_of_le (by have:=zL _ _ R;first|rwa [add_block]at this|exact this) p.out)|(rw[add_block];exact Nat.ne_of_lt (Nat.lt_of_lt_of_le (by have:=zL _ _ R;first|rwa [add_block]at this|exact this) p.out))|(show(Addr.add _ _).block≠_;rw[add_block];exact Nat.ne_of_lt (Nat.lt_of_lt_of_le (by have:=zL _ _ R;first|rwa [add_block]at this|exact this) p.out))|(dsimp only;exact Nat.ne_of_lt (Nat.lt_of_lt_of_le (by have:=zL _ _ R;first|rwa [add_block]at this|exact this) p.out))) (hHeld.2.2.2.2.2.2.2.2.2.2.2.2.2.2.1)),(sQ10 (g:=q) (by first|exact Nat.ne_of_lt (Nat.lt_of_lt_of_le (by have:=zL _ _ Q;first|rwa [add_block]at this|exact this) p.out)|(rw[add_block];exact Nat.ne_of_lt (Nat.lt_of_lt_of_le (by have:=zL _ _ Q;first|rwa [add_block]at this|exact this) p.out))|(show(Addr.add _ _).block≠_;rw[add_block];exact Nat.ne_of_lt (Nat.lt_of_lt_of_le (by have:=zL _ _ Q;first|rwa [add_block]at this|exact this) p.out))|(dsimp only;exact Nat.ne_of_lt (Nat.lt_of_lt_of_le (by have:=zL _ _ Q;first|rwa [add_block]at this|exact this) p.out))) (hHeld.2.2.2.2.2.2.2.2.2.2.2.2.2.2.2))⟩ (fun hHeld=>?_)
 clear hK K
 refine done_ (done_of B.out (by kernel_rfl)) ?_
 go_upto_region 5 with(fail)
 go_cut [11] (fun cb wc=>∃(kq:Nat) (L:Int),cb= .int .i64 L∧Aside0 (impl_GetElement.j1 kq L ((rd_T56 l0_1 a).f0) ((rd_T56 l0_1 a).f1) ((rd_T56 l0_1 a).f2) ((rd_T56 l0_1 a).f3) ((rd_T56 l0_1 a).f4) ((rd_T56 l0_1 a).f5) ((rd_T56 l0_1 a).f6.f0) ((rd_T56 l0_1 a).f6.f1) ((rd_T56 l0_1 a).f6.f2) ((rd_T56 l0_1 a).f6.f3)=some (r1,r2,r3,r4,r5,r6))∧Aside0 (kq≤kj7)∧Aside0 (wc.heap[I]?=some (.cells #[.int .i64 a0_0,(.slice (some l) l0_1.length c0_1)] 34 (0,0)))∧Aside0 (wc.heap[A]?=some (.cells #[.int .i64 a1_0,.int .i64 a1_1,.string a1_2,.int .i64 a1_3] 29 (0,0)))∧Aside0 (wc.heap[O]?=some (.cells #[.int .i64 a2_0,.int .i64 a2_1,.string a2_2,.int .i64 a2_3] 29 (0,0)))∧Aside0 (wc.heap[P]?=some (.cells #[.int .i64 au,.int .i64 av,.string aw,.int .i64 ax] 29 (0,0)))∧Aside0 (wc.heap[q]?=some (.cells #[.int .i64 ((rd_T56 l0_1 a).f0),.int .i64 ((rd_T56 l0_1 a).f1),.string ((rd_T56 l0_1 a).f2),.int .i64 ((rd_T56 l0_1 a).f3),(.slice aj ((rd_T56 l0_1 a).f4).length ak),(.slice al ((rd_T56 l0_1 a).f5).length am),.int .i64 ((rd_T56 l0_1 a).f6.f0),.int .i64 ((rd_T56 l0_1 a).f6.f1),.string ((rd_T56 l0_1 a).f6.f2),.int .i64 ((rd_T56 l0_1 a).f6.f3)] 56 (0,0)))∧Aside0 (Below w.heap.size w wc))
 case first=>(
 have H:=be.out
 clear be
 obtain⟨bJ,cc,H⟩:=sO H
 have H':=zM H
 clear H
 have ep:=D.out
 have er:=x.out
 have es:=E.out
 have et:=s.out
 have eu:=F.out
 have ev:=y.out
 have ew:=G.out
 have ex:=z.out
 obtain⟨ey,ez,eA,eB,eC,eD,eE,eF,eG,eH,eI,eJ,eK,eL,eM,eN,eO,eP,eQ,eR⟩:=cells10 r.out
 have eS:=bW.out
 have eT:=bV.out
 have eU:=bY.out
 have eV:=bX.out
 have eW:=az.out
 have eX:=aA.out
 obtain⟨eY,eZ,e0,e1,e2,e3,e4,e5⟩:=cells4 d.out
 go_wp2_with (first|((with_reducible refine gate_callee (f:=54) rfl ?_);refine sC (some 35) Try.func54 #[.agg #[.int .i64 ((rd_T56 l0_1 a).f0),.int .i64 ((rd_T56 l0_1 a).f1),.string ((rd_T56 l0_1 a).f2),.int .i64 ((rd_T56 l0_1 a).f3),.slice aj ((rd_T56 l0_1 a).f4).length ak,.slice al ((rd_T56 l0_1 a).f5).length am,.int .i64 ((rd_T56 l0_1 a).f6.f0),.int .i64 ((rd_T56 l0_1 a).f6.f1),.string ((rd_T56 l0_1 a).f6.f2),.int .i64 ((rd_T56 l0_1 a).f6.f3)],.agg #[.int .i64 a2_0,.int .i64 a2_1,.string a2_2,.int .i64 a2_3]] (impl_Object_element.calls kj7 ((rd_T56 l0_1 a).f0) ((rd_T56 l0_1 a).f1) ((rd_T56 l0_1 a).f2) ((rd_T56 l0_1 a).f3) _ _ ((rd_T56 l0_1 a).f4) _ _ ((rd_T56 l0_1 a).f5) ((rd_T56 l0_1 a).f6.f0) ((rd_T56 l0_1 a).f6.f1) ((rd_T56 l0_1 a).f6.f2) ((rd_T56 l0_1 a).f6.f3) a2_0 a2_1 a2_2 a2_3 bJ _ ?side1 ?side2 ?side3 ?side4 cc.out) ?_;(case side1=>exact zC br.out (by repeat(first|(with_reducible first|exact HB.out|apply below_alloc|apply pw_below_drewN|apply below_drew1|refine below_set ?_ ao.out|refine below_set ?_ ap.out|refine below_set ?_ aq.out|refine below_set ?_ ar.out|refine below_set ?_ af.out)|exact HB.out)));(case side2=>exact b6.out);(case side3=>exact zC bf.out (by repeat(first|(with_reducible first|exact HB.out|apply below_alloc|apply pw_below_drewN|apply below_drew1|refine below_set ?_ ao.out|refine below_set ?_ ap.out|refine below_set ?_ aq.out|refine below_set ?_ ar.out|refine below_set ?_ af.out)|exact HB.out)));(case side4=>exact b7.out);rintro e e6 ⟨rfl,hb⟩;refine⟨_,rfl,?_⟩;have bK:=zM (blk_below (g:=I) (o:= .cells #[.int .i64 a0_0,.slice (some l) l0_1.length c0_1] 34 (0,0)) (by(with_reducible repeat(first|refine blk_drewN ?_ _|refine blk_drew ?_|refine blk_alloc ?_ _));refine blk_far ?_ x.out _;(with_reducible repeat(first|refine blk_drewN ?_ _|refine blk_drew ?_|refine blk_alloc ?_ _));refine blk_far ?_ x.out _;(with_reducible repeat(first|refine blk_drewN ?_ _|refine blk_drew ?_|refine blk_alloc ?_ _));refine blk_far ?_ x.out _;(with_reducible repeat(first|refine blk_drewN ?_ _|refine blk_drew ?_|refine blk_alloc ?_ _));refine blk_far ?_ x.out _;(with_reducible repeat(first|refine blk_drewN ?_ _|refine blk_drew ?_|refine blk_alloc ?_ _));refine blk_far ?_ x.out _;(with_reducible repeat(first|refine blk_drewN ?_ _|refine blk_drew ?_|refine blk_alloc ?_ _));refine blk_far ?_ x.out _;(with_reducible repeat(first|refine blk_drewN ?_ _|refine blk_drew ?_|refine blk_alloc ?_ _));refine blk_far ?_ x.out _;(with_reducible repeat(first|refine blk_drewN ?_ _|refine blk_drew ?_|refine blk_alloc ?_ _));refine blk_far ?_ x.out _;(with_reducible repeat(first|refine blk_drewN ?_ _|refine blk_drew ?_|refine blk_alloc ?_ _));refine blk_far ?_ x.out _;(with_reducible repeat(first|refine blk_drewN ?_ _|refine blk_drew ?_|refine blk_alloc ?_ _));refine blk_far ?_ x.out _;exact sT c.out) hb);have bL:=zM (blk_below (g:=A) (o:= .cells #[.int .i64 a1_0,.int .i64 a1_1,.string a1_2,.int .i64 a1_3] 29 (0,0)) (by(with_reducible repeat(first|refine blk_drewN ?_ _|refine blk_drew ?_|refine blk_alloc ?_ _));refine blk_far ?_ s.out _;(with_reducible repeat(first|refine blk_drewN ?_ _|refine blk_drew ?_|refine blk_alloc ?_ _));refine blk_far ?_ s.out _;(with_reducible repeat(first|refine blk_drewN ?_ _|refine blk_drew ?_|refine blk_alloc ?_ _));refine blk_far ?_ s.out _;(with_reducible repeat(first|refine blk_drewN ?_ _|refine blk_drew ?_|refine blk_alloc ?_ _));refine blk_far ?_ s.out _;(with_reducible repeat(first|refine blk_drewN ?_ _|refine blk_drew ?_|refine blk_alloc ?_ _));refine blk_far ?_ s.out _;(with_reducible repeat(first|refine blk_drewN ?_ _|refine blk_drew ?_|refine blk_alloc ?_ _));refine blk_far ?_ s.out _;(with_reducible repeat(first|refine blk_drewN ?_ _|refine blk_drew ?_|refine blk_alloc ?_ _));refine blk_far ?_ s.out _;(with_reducible repeat(first|refine blk_drewN ?_ _|refine blk_drew ?_|refine blk_alloc ?_ _));refine blk_far ?_ s.out _;(with_reducible repeat(first|refine blk_drewN ?_ _|refine blk_drew ?_|refine blk_alloc ?_ _));refine blk_far ?_ s.out _;(with_reducible repeat(first|refine blk_drewN ?_ _|refine blk_drew ?_|refine blk_alloc ?_ _));refine blk_far ?_ s.out _;exact sT b.out) hb);have bM:=zM (blk_below (g:=O) (o:= .cells #[.int .i64 a2_0,.int .i64 a2_1,.string a2_2,.int .i64 a2_3] 29 (0,0)) (by(with_reducible repeat(first|refine blk_drewN ?_ _|refine blk_drew ?_|refine blk_alloc ?_ _));refine blk_far ?_ y.out _;(with_reducible repeat(first|refine blk_drewN ?_ _|refine blk_drew ?_|refine blk_alloc ?_ _));refine blk_far ?_ y.out _;(with_reducible repeat(first|refine blk_drewN ?_ _|refine blk_drew ?_|refine blk_alloc ?_ _));refine blk_far ?_ y.out _;(with_reducible repeat(first|refine blk_drewN ?_ _|refine blk_drew ?_|refine blk_alloc ?_ _));refine blk_far ?_ y.out _;(with_reducible repeat(first|refine blk_drewN ?_ _|refine blk_drew ?_|refine blk_alloc ?_ _));refine blk_far ?_ y.out _;(with_reducible repeat(first|refine blk_drewN ?_ _|refine blk_drew ?_|refine blk_alloc ?_ _));refine blk_far ?_ y.out _;(with_reducible repeat(first|refine blk_drewN ?_ _|refine blk_drew ?_|refine blk_alloc ?_ _));refine blk_far ?_ y.out _;(with_reducible repeat(first|refine blk_drewN ?_ _|refine blk_drew ?_|refine blk_alloc ?_ _));refine blk_far ?_ y.out _;(with_reducible repeat(first|refine blk_drewN ?_ _|refine blk_drew ?_|refine blk_alloc ?_ _));refine blk_far ?_ y.out _;(with_reducible repeat(first|refine blk_drewN ?_ _|refine blk_drew ?_|refine blk_alloc ?_ _));refine blk_far ?_ y.out _;exact sT d.out) hb);have bO:=zM (blk_below (g:=P) (o:= .cells #[.int .i64 au,.int .i64 av,.string aw,.int .i64 ax] 29 (0,0)) (by(with_reducible repeat(first|refine blk_drewN ?_ _|refine blk_drew ?_|refine blk_alloc ?_ _));refine blk_far ?_ z.out _;(with_reducible repeat(first|refine blk_drewN ?_ _|refine blk_drew ?_|refine blk_alloc ?_ _));refine blk_far ?_ z.out _;(with_reducible repeat(first|refine blk_drewN ?_ _|refine blk_drew ?_|refine blk_alloc ?_ _));refine blk_far ?_ z.out _;(with_reducible repeat(first|refine blk_drewN ?_ _|refine blk_drew ?_|refine blk_alloc ?_ _));refine blk_far ?_ z.out _;(with_reducible repeat(first|refine blk_drewN ?_ _|refine blk_drew ?_|refine blk_alloc ?_ _));refine blk_far ?_ z.out _;(with_reducible repeat(first|refine blk_drewN ?_ _|refine blk_drew ?_|refine blk_alloc ?_ _));refine blk_far ?_ z.out _;(with_reducible repeat(first|refine blk_drewN ?_ _|refine blk_drew ?_|refine blk_alloc ?_ _));refine blk_far ?_ z.out _;(with_reducible repeat(first|refine blk_drewN ?_ _|refine blk_drew ?_|refine blk_alloc ?_ _));refine blk_far ?_ z.out _;(with_reducible repeat(first|refine blk_drewN ?_ _|refine blk_drew ?_|refine blk_alloc ?_ _));refine blk_far ?_ z.out _;(with_reducible repeat(first|refine blk_drewN ?_ _|refine blk_drew ?_|refine blk_alloc ?_ _));refine blk_far ?_ z.out _;exact sT m.out) hb);have bP:=zM (blk_below (g:=q) (o:= .cells #[.int .i64 ((rd_T56 l0_1 a).f0),.int .i64 ((rd_T56 l0_1 a).f1),.string ((rd_T56 l0_1 a).f2),.int .i64 ((rd_T56 l0_1 a).f3),.slice aj ((rd_T56 l0_1 a).f4).length ak,.slice al ((rd_T56 l0_1 a).f5).length am,.int .i64 ((rd_T56 l0_1 a).f6.f0),.int .i64 ((rd_T56 l0_1 a).f6.f1),.string ((rd_T56 l0_1 a).f6.f2),.int .i64 ((rd_T56 l0_1 a).f6.f3)] 56 (0,0)) (by exact sP10 (sT r.out)) hb);have bQ:=sB HB hb;clear c;clear b;clear d;clear m;clear r;clear HB;have c:=bK;have b:=bL;have d:=bM;have m:=bO;have r:=bP;have HB:=bQ;clear bK bL bM bO bP bQ;(try clear hb)))
 go_meet
 case rel=>exact⟨_,(bJ),sr,H',⟨by have:=b4.out;first|omega|exact Nat.le_refl _⟩,⟨by exact sT c.out⟩,⟨by exact sT b.out⟩,⟨by exact sT d.out⟩,⟨by exact sT m.out⟩,⟨by exact sT r.out⟩,⟨sb⟩⟩)
 case rest=>(
 clear be
 try clear c4
 try clear aF
 try clear c28b0
 try clear aG
 try clear c29b0
 try clear aH
 try clear aI
 try clear aJ
 try clear aK
 try clear aL
 try clear aM
 try clear aN
 try clear aO
 try clear aP
 try clear aQ
 try clear aW
 try clear aX
 obtain⟨kq,L,rfl,HA,e7,c,b,d,m,r,HB⟩:=hcut
 cases kq with
 |zero=>exact absurd HA.out (by simp[impl_GetElement.j1])
 |succ kj29=>(
 have H:=HA.out
 clear HA
 simp only[impl_GetElement.j1]at H
 by_cases ay:L≥0
 ·(
 rw[if_pos ay]at H
 have c56b0:decide (0≤L)=true:=zT ay
 clear ay
 by_cases a4:0≤L
 ·(
 rw[if_pos a4]at H
 have c57b0:=zT a4
 clear a4
 by_cases a5:L<(((rd_T56 l0_1 a).f5).length:Int)
 ·(
 rw[if_pos a5]at H
 have c58b0:=zT a5
 clear a5
 simp only[Option.some.injEq,Prod.mk.injEq]at H
 obtain⟨rfl,rfl,rfl,rfl,rfl,rfl⟩:=H
 have e8:=D.out
 have e9:=x.out
 have fa:=E.out
 have fb:=s.out
 have fc:=F.out
 have fd:=y.out
 have fe:=G.out
 have ff:=z.out
 obtain⟨fg,fh,fi,fj,fk,fl,fm,fn,fo,fp,fq,fr,fs,ft,fu,fv,fw,fx,fy,fz⟩:=cells10 r.out
 have bg:0≤(L:Int):=zO (by first|(with_reducible assumption)|assumption)
 have bh:L<(((rd_T56 l0_1 a).f5).length:Int):=zO (by first|(with_reducible assumption)|assumption)
 obtain⟨fA,cd,bR,bS,bT,bU⟩:=at_T29 bf.out L bg bh
 cases cd
 replace bR:=sX HB bR
 replace bS:=sX HB bS
 replace bT:=sX HB bT
 replace bU:=sX HB bU
 replace bg:=eq_true bg
 replace bh:=eq_true bh
 have fB:=aT.out
 have fC:=aS.out
 have fD:=aV.out
 have fE:=aU.out
 have fF:=aA.out
 have fG:=az.out
 obtain⟨fH,fI,fJ,fK,fL,fM,fN,fO⟩:=cells4 m.out
 go_wp2
 refine bodyPost_ret (results_ctt rfl _ _ P 29 #[.int .i64 ((rd_T29 ((rd_T56 l0_1 a).f5) L).f0),.int .i64 ((rd_T29 ((rd_T56 l0_1 a).f5) L).f1),.string ((rd_T29 ((rd_T56 l0_1 a).f5) L).f2),.int .i64 ((rd_T29 ((rd_T56 l0_1 a).f5) L).f3)] (0,0) _ rfl (by exact sP4 (sT m.out)) Try.underlying29 rfl (by kernel_rfl)) rfl ?_
 exact⟨sq,sb⟩)
 rw[if_neg a5]at H
 exact absurd H (by simp))
 rw[if_neg a4]at H
 exact absurd H (by simp))
 rw[if_neg ay]at H
 have c56b0:decide (0≤L)=false:=zF ay
 clear ay
 by_cases an:((rd_T56 l0_1 a).f1)=2
 ·(
 rw[if_pos an]at H
 have c68b0:(((rd_T56 l0_1 a).f1)==2)=true:=zE an
 have c68b1:(((rd_T56 l0_1 a).f1) !=2)=false:=zY an
 clear an
 simp only[Option.some.injEq,Prod.mk.injEq]at H
 obtain⟨rfl,rfl,rfl,rfl,rfl,rfl⟩:=H
 have fP:=D.out
 have fQ:=x.out
 have fR:=E.out
 have fS:=s.out
 have fT:=F.out
 have fU:=y.out
 have fV:=G.out
 have fW:=z.out
 obtain⟨fX,fY,fZ,f7,f8,f9,ga,gb,gc,gd,gf,gg,gh,gi,gj,gk,gl,gm,gn,go⟩:=cells10 r.out
 have gp:=aT.out
 have gq:=aS.out
 have gr:=aV.out
 have gs:=aU.out
 have gu:=aA.out
 have gv:=az.out
 obtain⟨gw,gx,gy,gz,gA,gB,gC,gD⟩:=cells4 m.out
 go_wp2
 refine bodyPost_ret (results_ctt rfl _ _ P 29 #[.int .i64 ((rd_T56 l0_1 a).f6.f0),.int .i64 ((rd_T56 l0_1 a).f6.f1),.string ((rd_T56 l0_1 a).f6.f2),.int .i64 ((rd_T56 l0_1 a).f6.f3)] (0,0) _ rfl (by exact sP4 (sT m.out)) Try.underlying29 rfl (by kernel_rfl)) rfl ?_
 exact⟨sq,sb⟩)
 rw[if_neg an]at H
 have c68b0:(((rd_T56 l0_1 a).f1)==2)=false:=zN an
 have c68b1:(((rd_T56 l0_1 a).f1) !=2)=true:=zX an
 simp only[Option.some.injEq,Prod.mk.injEq]at H
 obtain⟨rfl,rfl,rfl,rfl,rfl,rfl⟩:=H
 have gE:=D.out
 have gF:=x.out
 have gG:=E.out
 have gH:=s.out
 have gI:=F.out
 have gJ:=y.out
 have gK:=G.out
 have gL:=z.out
 obtain⟨gM,gN,gO,gP,gQ,gR,gS,gT,gU,gV,gW,gX,gY,gZ,g0,g1,g2,g3,g4,g5⟩:=cells10 r.out
 have g6:=aT.out
 have g7:=aS.out
 have g8:=aV.out
 have g9:=aU.out
 have ha:=aA.out
 have hc:=az.out
 obtain⟨he,hf,hh,hj,hl,hm,hn,ho⟩:=cells4 m.out
 go_wp2
 refine bodyPost_ret (results_ctt rfl _ _ P 29 #[.int .i64 0,.int .i64 0,.string (⟨#[]⟩:ByteArray),.int .i64 0] (0,0) _ rfl (by exact sP4 (sT m.out)) Try.underlying29 rfl (by kernel_rfl)) rfl ?_
 exact⟨sq,sb⟩)))
 rw[if_neg aG]at H
 exact absurd H (by simp))
 rw[if_neg aF]at H
 exact absurd H (by simp)))
end Go.Proofs.Ytengilknjiobiaa.PFnExactGetElement
