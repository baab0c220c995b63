/- Printed functions: impl_ValidEnv. -/
import Derived.Test.YtdihlgkcpooadaaYIpP0
import Derived.Test.YtdihlgkcpooadaaYIpP16
import Derived.Test.YtdihlgkcpooadaaYIpP18
namespace Go.Proofs.Ytdihlgkcpooadaa.PFnExactIsPure
open Go.RowKit Go.Proofs.YtdihlgkcpooadaaG Go.Proofs.YtdihlgkcpooadaaW.PrintWords Go.Proofs.YtdihlgkcpooadaaW.PrintLast Go.Proofs.YtdihlgkcpooadaaW.PrintMore
attribute [local go_sem] max2_int min2_int max_two min_two max_three min_three max_four min_four
set_option linter.unusedVariables false
set_option linter.unusedSimpArgs false
mutual
def impl_ValidEnv.j0 : Nat → List (S52) → Bool → Option (Bool)
 |0,_,_=>none
 |k+1,x0,x14=>if x14=true then(some false)else(impl_ValidEnv.l0 k x0 x0 (x0.length:Int) 0)
def impl_ValidEnv.l0 : Nat → List (S52) → List (S52) → Int → Int → Option (Bool)
 |0,_,_,_,_=>none
 |k+1,x0,x15,x16,x17=>if x17<x16 then(if 0≤x17 then(if x17<(x15.length:Int)then(if x17≤(x0.length:Int)then((impl_lookup.f k (x0.take (x17:Int).toNat) ((rd_T52 x15 x17).f0)).bind fun bt293=>(if bt293.2.2.2.2=true then(some false)else(impl_ValidEnv.l0 k x0 x15 x16 (wrap64 (x17+1)))))else(none))else(none))else(none))else(some true)
end
def impl_ValidEnv.f (k:Nat) (l0:List (S52)):Option (Bool):=if(l0.length:Int)>40 then(impl_ValidEnv.j0 k l0 true)else((impl_Named__impl_ValidEnv_1.f k l0).bind fun t286=>(impl_ValidEnv.j0 k l0 (!t286)))
def impl_ValidEnv.T6:Bool×List (List Nat×List Nat):=(true,[([],[]),([],[]),([0,1],[0,1]),([],[]),([3],[3]),([2,4],[2,4]),([5],[5]),([6],[6]),([6],[6]),([],[]),([9,7,5,0,1,2,3,4,5,6,7,9],[7,9]),([8,10,0,1,2,3,4,5,6,7,8,9,10],[8])])
def impl_ValidEnv.B6:List Nat:=[0,0,3,0,8,31,63,127,127,0,767,2047]
theorem impl_ValidEnv.tab6:rtab .any (opsOf Try.f10 6)=impl_ValidEnv.T6:=by kernel_rfl
theorem impl_ValidEnv.bits6:waitsOk impl_ValidEnv.T6.2 impl_ValidEnv.B6=true:=by kernel_rfl
set_option maxHeartbeats 8000000 in
set_option maxRecDepth 100000 in
theorem impl_ValidEnv.calls (k:Nat) (A0:Option Addr) (c0:Nat) (l0:List (S52)) (r:Bool) (w:World) (hr0:Kd.C k52 w A0 l0.length l0) (hc0:l0.length≤c0) (h:impl_ValidEnv.f k l0=some r):
  Calls Try.prog 10 #[.slice A0 l0.length c0] w fun e w'=>e= .returned (.bool r)∧Below w.heap.size w w':=by
 have br:=Try.underlying52
 have bs:=Try.underlying36
 have af:=zM hr0
 have aL:=zM hc0
 clear hr0 hc0
 have HB:=zM (Below.refl w.heap.size w)
 have H:(if(l0.length:Int)>40 then(impl_ValidEnv.j0 k l0 true)else((impl_Named__impl_ValidEnv_1.f k l0).bind fun aG=>(impl_ValidEnv.j0 k l0 (!aG))))=some r:=h
 clear h
 have aM:=zM H
 clear H
 go_enter Try.func10,Try.ntmps10
 go_upto_region 1 with(fail)
 go_cut [14] (fun be wc=>∃(kq:Nat) (aH:Bool),be= .bool aH∧Aside0 (impl_ValidEnv.j0 kq l0 aH=some r)∧Aside0 (kq≤k)∧Aside0 (Below w.heap.size w wc))
 case first=>(
 have H:=aM.out
 clear aM
 by_cases c3:(l0.length:Int)>40
 ·(
 rw[if_pos c3]at H
 have c3b0:decide (40<(l0.length:Int))=true:=zT c3
 have c3b1:decide (40<l0.length)=true:=zT (by omega)
 clear c3
 (first|rw[c3b0]|(simp only[i64_w,i32_w];rw[c3b0])|rw[c3b2]|skip)
 have H':=zM H
 clear H
 go_wp2
 go_meet
 case rel=>exact⟨_,(true),sr,H',⟨by first|omega|exact Nat.le_refl _⟩,⟨sb⟩⟩)
 rw[if_neg c3]at H
 have c3b0:decide (40<(l0.length:Int))=false:=zF c3
 have c3b1:decide (40<l0.length)=false:=zF (by omega)
 clear c3
 (first|rw[c3b0]|(simp only[i64_w,i32_w];rw[c3b0])|rw[c3b2]|skip)
 obtain⟨aG,A4,H⟩:=sO H
 have H':=zM H
 clear H
 go_wp2_with (first|(go_at_call 26;(with_reducible refine(impl_Named__impl_ValidEnv_1.calls k _ _ l0 aG _ ?side1 ?side2 A4.out).mono ?_);(case side1=>exact sD (zC af.out HB.out));(case side2=>exact aL.out);rintro e w5 ⟨rfl,hb⟩;replace HB:=sB HB hb;(try clear hb)))
 go_meet
 case rel=>exact⟨_,(!aG),sr,H',⟨by first|omega|exact Nat.le_refl _⟩,⟨sb⟩⟩)
 case rest=>(
 clear aM
 obtain⟨kq,aH,rfl,HA,a2,HB⟩:=hcut
 cases kq with
 |zero=>exact absurd HA.out (by simp[impl_ValidEnv.j0])
 |succ kj1=>(
 have H:=HA.out
 clear HA
 simp only[impl_ValidEnv.j0]at H
 by_cases c6:aH=true
 ·(
 subst c6
 rewrite[if_pos rfl]at H
 obtain rfl:=zI H
 go_wp2
 go_ret
 exact⟨sq,sb⟩)
 replace c6:=zB c6
 subst c6
 rewrite[if_neg zQ]at H
 have H':=zM H
 clear H
 go_wp2
 go_loopg [17] kj1 (fun kq bf w'=>∃(a:Int),bf= .int .i64 a∧Aside0 (impl_ValidEnv.l0 kq l0 l0 (l0.length:Int) a=some r)∧Aside0 (kq≤kj1)∧Aside0 (Below w.heap.size w w'))
 case atStart=>exact⟨(0),sr,H',⟨Nat.le_refl _⟩,⟨sb⟩⟩
 case round=>(
 clear H'
 try clear c6
 obtain⟨a,rfl,HA,a3,HB⟩:=hrel
 cases gk with
 |zero=>exact absurd HA.out (by simp[impl_ValidEnv.l0])
 |succ k2=>(
 have H:=HA.out
 clear HA
 simp only[impl_ValidEnv.l0]at H
 by_cases c7:a<(l0.length:Int)
 ·(
 rw[if_pos c7]at H
 have c7b0:=zT c7
 clear c7
 by_cases c8:0≤a
 ·(
 rw[if_pos c8]at H
 have c8b0:=zT c8
 clear c8
 by_cases c9:a<(l0.length:Int)
 ·(
 rw[if_pos c9]at H
 have c9b0:=zT c9
 clear c9
 have c10b0:=eq_true (zzA:0≤a)
 by_cases ag:a≤(l0.length:Int)
 ·(
 rw[if_pos ag]at H
 have c11b0:=eq_true ag
 have c11b1:=zT ag
 clear ag
 obtain⟨y289,hy289⟩:∃y_:List (S52),y_=(l0.take (a:Int).toNat):=⟨_,rfl⟩
 replace H:((impl_lookup.f k2 y289 ((rd_T52 l0 a).f0)).bind fun bg=>(if bg.2.2.2.2=true then(some false)else(impl_ValidEnv.l0 k2 l0 l0 (l0.length:Int) (wrap64 (a+1)))))=some r:=by first|(rw[hy289];with_reducible exact H)|(have aN:=(Option.bind_some _ _).symm.trans H;rw[hy289];with_reducible exact aN)|(have aN:=(Option.bind_some _ _).symm.trans H;with_reducible exact aN)|with_reducible exact H|(rw[hy289];exact H)|exact H
 have aI:=zM hy289
 clear hy289
 replace H:=Option.bind_eq_some_iff.mp H
 obtain⟨⟨W,X,Y,ab,a4⟩,a5,H⟩:=H
 replace H:(if a4=true then(some false)else(impl_ValidEnv.l0 k2 l0 l0 (l0.length:Int) (wrap64 (a+1))))=some r:=H
 have aJ:=zM a5
 clear a5
 by_cases aK:a4=true
 ·(
 subst aK
 rewrite[if_pos rfl]at H
 obtain rfl:=zI H
 have ac:0≤(a:Int):=zzA
 have ad:a<(l0.length:Int):=zzA
 obtain⟨Z,z,A,aO,ah,ai,aj,ak,al,am,an⟩:=at_T52 af.out a ac ad
 cases aO
 replace ah:=sX HB ah
 replace ai:=sX HB ai
 replace aj:=sX HB aj
 replace ak:=sX HB ak
 replace al:=sX HB al
 have bh:=zM an
 have bi:=zM am
 clear an am
 replace ac:=eq_true ac
 replace ad:=eq_true ad
 try go_wp2_with (first|((with_reducible refine gate_dst (N:=4) rfl ?_);refine sV (N:=4) (cs:= #[.string (⟨#[]⟩:ByteArray),.int .i64 0,.int .i64 0,.string (⟨#[]⟩:ByteArray),.slice none 0 0]) (t:=52) ?_;intro c hg aP hbox hb;have b:=zM (hbox);have ao:=sG HB hg;have G:=sG HB hg;replace HB:=sB HB hb;clear hb hbox hg;obtain⟨bt,bu,bv,bw,bx,bz,bA,bB,bC,bD⟩:=cells5 b.out))
 have u:Aside0 ((((((aP.setCell ⟨c,0,none⟩ (.string ((rd_T52 l0 a).f0))).setCell ⟨c,1,none⟩ (.int .i64 ((rd_T52 l0 a).f1.f0))).setCell ⟨c,2,none⟩ (.int .i64 ((rd_T52 l0 a).f1.f1))).setCell ⟨c,3,none⟩ (.string ((rd_T52 l0 a).f1.f2))).setCell ⟨c,4,none⟩ (.slice z ((rd_T52 l0 a).f1.f3).length A)).heap[c]?=some (.cells #[.string ((rd_T52 l0 a).f0),.int .i64 ((rd_T52 l0 a).f1.f0),.int .i64 ((rd_T52 l0 a).f1.f1),.string ((rd_T52 l0 a).f1.f2),.slice z ((rd_T52 l0 a).f1.f3).length A] 52 (0,0))):=⟨sP5 (sT b.out)⟩
 have x:Aside0 (Below w.heap.size w (((((aP.setCell ⟨c,0,none⟩ (.string ((rd_T52 l0 a).f0))).setCell ⟨c,1,none⟩ (.int .i64 ((rd_T52 l0 a).f1.f0))).setCell ⟨c,2,none⟩ (.int .i64 ((rd_T52 l0 a).f1.f1))).setCell ⟨c,3,none⟩ (.string ((rd_T52 l0 a).f1.f2))).setCell ⟨c,4,none⟩ (.slice z ((rd_T52 l0 a).f1.f3).length A))):=⟨sb⟩
 (try clear b)
 (try clear HB)
 generalize (((((aP.setCell ⟨c,0,none⟩ (.string ((rd_T52 l0 a).f0))).setCell ⟨c,1,none⟩ (.int .i64 ((rd_T52 l0 a).f1.f0))).setCell ⟨c,2,none⟩ (.int .i64 ((rd_T52 l0 a).f1.f1))).setCell ⟨c,3,none⟩ (.string ((rd_T52 l0 a).f1.f2))).setCell ⟨c,4,none⟩ (.slice z ((rd_T52 l0 a).f1.f3).length A))=w16 at u x ⊢
 have b:=u
 have HB:=x
 clear u x
 replace b:=zM (blk_drew b.out)
 replace HB:=zM (below_drew1 HB.out)
 have aQ:(a:Int)≤((l0.length:Int):Int):=zzA
 obtain⟨bE,a6,_,bj,_⟩:=info_parts info52
 have a7:l0.length≤c0:=aL.out
 have a8:Kd.C k52 _ (some Z) l0.length l0:=af.out
 have bk:=cut_to (P:=Try.prog) 25 52 .i64 Try.underlying25 a6 (some Z) l0.length c0 a (zzA) aQ a7
 have aR:=Kd.C_take (m:=(a:Int).toNat) a8 (by omega)
 have aS:y289.length=(a:Int).toNat:=(by rw[aI.out,List.length_take];omega)
 rw[←aI.out]at aR
 rw[←aS]at bk
 have ae:=zM aR
 have ap:=zM (show y289.length≤c0 from by omega)
 clear aR a8 a7 a6 bj
 have bF:=zM aS
 clear aS
 replace aQ:=eq_true aQ
 refine start_ (n:=12) (S:=fun w'=>w'.cell? ⟨c,0,none⟩=some (.string ((rd_T52 l0 a).f0))∧w'.cell? ⟨c,1,none⟩=some (.int .i64 ((rd_T52 l0 a).f1.f0))∧w'.cell? ⟨c,2,none⟩=some (.int .i64 ((rd_T52 l0 a).f1.f1))∧w'.cell? ⟨c,3,none⟩=some (.string ((rd_T52 l0 a).f1.f2))∧w'.cell? ⟨c,4,none⟩=some (.slice z ((rd_T52 l0 a).f1.f3).length A)) (ds:=[]) #[false,false,false,false,false,false,false,false,false,false,false,false] (by kernel_rfl) rfl rfl ⟨(blk_cell b.out 0).trans rfl,(blk_cell b.out 1).trans rfl,(blk_cell b.out 2).trans rfl,(blk_cell b.out 3).trans rfl,(blk_cell b.out 4).trans rfl⟩ (fun hHeld=>?_);refine with_tabW impl_ValidEnv.tab6 impl_ValidEnv.bits6 (fun p aT=>?_)
 generalize w16.drew=w17 at b HB ae hHeld ⊢
 refine pure_ (i:=0) (N:=some 23) (v:=?_) (a':=?_) (bN 12 1) rfl rfl (any_of p.out (by kernel_rfl)) (fun _ _ _ h=>h) (Or.inl ⟨by rfl,?_⟩) ?_ ?_
 rotate_left
 ·(
 intro w'
 go_simp
 with_reducible rfl)
 rotate_left
 ·(
 simp only[zP,i64_w,i32_w]
 rfl)
 refine pure_ (i:=1) (N:=some 24) (v:=?_) (a':=?_) (bN 12 3) rfl rfl (any_of p.out (by kernel_rfl)) (fun _ _ _ h=>h) (Or.inl ⟨by rfl,?_⟩) ?_ ?_
 rotate_left
 ·(
 intro w'
 go_simp
 with_reducible rfl)
 rotate_left
 ·(
 simp only[zP,i64_w,i32_w]
 rfl)
 refine pure_ (i:=2) (N:=some 25) (v:=?_) (a':=?_) (bN 12 7) rfl rfl (any_of p.out (by kernel_rfl)) (fun _ _ _ h=>h) (Or.inl ⟨by rfl,?_⟩) ?_ ?_
 rotate_left
 ·(
 intro w'
 go_simp
 with_reducible rfl)
 rotate_left
 ·(
 simp only[zP,i64_w,i32_w]
 rfl)
 refine pure_ (i:=3) (N:=some 26) (v:=?_) (a':=?_) (bN 12 15) rfl rfl (any_of p.out (by kernel_rfl)) (fun _ _ _ h=>h) (Or.inl ⟨by rfl,?_⟩) ?_ ?_
 rotate_left
 ·(
 intro w'
 go_simp
 with_reducible rfl)
 rotate_left
 ·(
 simp only[zP,i64_w,i32_w]
 rfl)
 refine take_ (i:=4) (N:=some 27) (v:=?_) (a':=?_) (bN 12 31) rfl rfl (take_ofW p.out aT.out (by kernel_rfl)) (fun _ _ _ h=>h) (Or.inl ⟨by rfl,?_⟩) hHeld ?_ ?_
 rotate_left
 ·(
 rintro w' ⟨s0,s1,s2,s3,s4⟩
 go_simp
 with_reducible rfl)
 rotate_left
 ·(
 simp only[zP,i64_w,i32_w]
 rfl)
 refine join_ (σ:=Value×Nat) 2 (bN 12 1023) (fun y=>[(28,.tuple #[.agg #[.int .i64 W,.int .i64 X,.string Y,y.1],.bool true]),(5,.pointer (some ⟨y.2,0,none⟩)),(22,.tuple #[.agg #[.int .i64 W,.int .i64 X,.string Y,y.1],.bool true]),(29,.agg #[.int .i64 W,.int .i64 X,.string Y,y.1]),(30,.bool true)]) (fun y w'=>(w'.cell? ⟨c,0,none⟩=some (.string ((rd_T52 l0 a).f0))∧w'.cell? ⟨c,1,none⟩=some (.int .i64 ((rd_T52 l0 a).f1.f0))∧w'.cell? ⟨c,2,none⟩=some (.int .i64 ((rd_T52 l0 a).f1.f1))∧w'.cell? ⟨c,3,none⟩=some (.string ((rd_T52 l0 a).f1.f2))∧w'.cell? ⟨c,4,none⟩=some (.slice z ((rd_T52 l0 a).f1.f3).length A))∧(Kd.V k36 36 w' w.heap.size (fun l=>l≠c∧l≠y.2) y.1 ab)∧(w'.heap[c]?=some (.cells #[.string ((rd_T52 l0 a).f0),.int .i64 ((rd_T52 l0 a).f1.f0),.int .i64 ((rd_T52 l0 a).f1.f1),.string ((rd_T52 l0 a).f1.f2),.slice z ((rd_T52 l0 a).f1.f3).length A] 52 (0,0)))∧(w'.heap[y.2]?=some (.cells #[.int .i64 0,.int .i64 0,.string (⟨#[]⟩:ByteArray),.slice none 0 0] 36 (0,0)))∧(w.heap.size≤y.2)∧(w.heap.size≤y.2)∧(c≠y.2)∧(y.2≠c)∧(Below w.heap.size w w')) ?_ ?_
 rotate_left
 ·(
 intro hCont
 refine two_ (i:=5) (j:=9) (Ni:=some 28) (Nj:=some 5) (bN 12 63) (bN 12 543) rfl rfl rfl rfl (two_of p.out (by kernel_rfl)) (by decide) (by decide) (fun K hK=>?_) (fun K hK=>?_)
 ·(
 skip
 refine goes_ Try.func30 (by kernel_rfl) rfl #[.slice (some Z) y289.length c0,.string ((rd_T52 l0 a).f0)] (by rfl) rfl rfl (by(try simp only[List.map_toArray,List.map_cons,List.map_nil]);first|done|rfl|(simp only[List.length_drop,List.length_take];rfl)) ?_
 with_reducible refine(impl_lookup.calls k2 (fun l=>l<w.heap.size) _ _ y289 ((rd_T52 l0 a).f0) W X Y ab true _ ?side1 aJ.out).mono ?_
 (case side1=>exact Kd.V_mk ap.out (Kd.F_below (Kd.C_F k52_heap ae.out) zzR))
 rintro e bl ⟨L,rfl,M,hb⟩
 refine⟨_,rfl,?_⟩
 have u:=zM (Kd.V_lower (Kd.V_mono (ok':=fun l=>l≠c) M (fun l aa=>Or.elim aa (fun O=>fun Q=>Nat.not_le.2 O (by rw[Q];exact ao.out)) (fun R=>(Kd.freshB (g:=c) (o:= .cells #[.string ((rd_T52 l0 a).f0),.int .i64 ((rd_T52 l0 a).f1.f0),.int .i64 ((rd_T52 l0 a).f1.f1),.string ((rd_T52 l0 a).f1.f2),.slice z ((rd_T52 l0 a).f1.f3).length A] 52 (0,0)) (sT b.out) l R)))) (below_size zzR))
 have x:=sK b hb
 have B:=sB HB hb
 clear b
 clear HB
 have D:=u
 have b:=x
 have HB:=B
 clear u x B
 (try clear hb)
 (try clear hb2)
 (try clear hk)
 (try clear hi)
 (try clear M)
 refine hK.out _ _ ⟨(blk_cell b.out 0).trans rfl,(blk_cell b.out 1).trans rfl,(blk_cell b.out 2).trans rfl,(blk_cell b.out 3).trans rfl,(blk_cell b.out 4).trans rfl⟩ (fun hHeld=>?_)
 clear hK K
 refine norm_ (a':=?_) ?_ ?_
 rotate_left
 ·(
 show Act.put _ (some 28) _=_
 simp only[zP,i64_w,i32_w]
 rfl)
 refine pure_ (i:=6) (N:=some 22) (v:=?_) (a':=?_) (bN 12 127) rfl rfl (any_of p.out (by kernel_rfl)) (fun _ _ _ h=>h) (Or.inl ⟨by rfl,?_⟩) ?_ ?_
 rotate_left
 ·(
 intro w'
 go_simp
 with_reducible rfl)
 rotate_left
 ·(
 simp only[zP,i64_w,i32_w]
 rfl)
 refine pure_ (i:=7) (N:=some 29) (v:=?_) (a':=?_) (bN 12 255) rfl rfl (any_of p.out (by kernel_rfl)) (fun _ _ _ h=>h) (Or.inl ⟨by rfl,?_⟩) ?_ ?_
 rotate_left
 ·(
 intro w'
 go_simp
 with_reducible rfl)
 rotate_left
 ·(
 simp only[zP,i64_w,i32_w]
 rfl)
 refine pure_ (i:=8) (N:=some 30) (v:=?_) (a':=?_) (bN 12 511) rfl rfl (any_of p.out (by kernel_rfl)) (fun _ _ _ h=>h) (Or.inl ⟨by rfl,?_⟩) ?_ ?_
 rotate_left
 ·(
 intro w'
 go_simp
 with_reducible rfl)
 rotate_left
 ·(
 simp only[zP,i64_w,i32_w]
 rfl)
 refine one_ (i:=9) (N:=some 5) (bN 12 1023) rfl rfl (one_of p.out (by kernel_rfl)) (by decide) (fun K hK=>?_)
 refine box_step ?hg (N:=5) ?hd (cs:= #[.int .i64 0,.int .i64 0,.string (⟨#[]⟩:ByteArray),.slice none 0 0]) (t:=36) ?hr ?_;(case hd=>rfl);(case hg=>rfl);(case hr=>first|(go_simp;done)|(go_simp;rfl))
 intro d hg bm hbox hb
 have u:=zM (Kd.V_below (Kd.V_elderB (by(with_reducible repeat(first|apply Kd.V_alloc|apply Kd.V_drewN|apply Kd.V_drew));exact D.out) d (Nat.le_of_eq hg.symm)) hb)
 have x:=sK b hb
 have B:=sB HB hb
 have T:=zM (hbox)
 have aq:=sG HB hg
 have ar:=sG HB hg
 have au:=sN b hg
 have av:=sM b hg
 clear D
 clear b
 clear HB
 have D:=u
 have b:=x
 have HB:=B
 have q:=T
 have U:=aq
 have E:=ar
 have s:=au
 have F:=av
 clear u x B T aq ar au av
 clear hb hbox hg
 refine hK.out _ _ ⟨(blk_cell b.out 0).trans rfl,(blk_cell b.out 1).trans rfl,(blk_cell b.out 2).trans rfl,(blk_cell b.out 3).trans rfl,(blk_cell b.out 4).trans rfl⟩ (fun hHeld=>?_)
 clear hK K
 refine norm_ (a':=?_) ?_ ?_
 rotate_left
 ·(
 show Act.put _ (some 5) _=_
 simp only[zP,i64_w,i32_w]
 rfl)
 exact norm_ (by simp only[putAll,Act.put,List.setIfInBounds_toArray,List.set_cons_zero,List.set_cons_succ]) (hCont (L,d) _ ⟨hHeld,(by(with_reducible repeat(first|apply Kd.V_alloc|apply Kd.V_drewN|apply Kd.V_drew));exact D.out),(sT b.out),(sT q.out),U.out,E.out,s.out,F.out,zzR⟩))
 ·(
 skip
 refine box_step ?hg (N:=5) ?hd (cs:= #[.int .i64 0,.int .i64 0,.string (⟨#[]⟩:ByteArray),.slice none 0 0]) (t:=36) ?hr ?_;(case hd=>rfl);(case hg=>rfl);(case hr=>first|(go_simp;done)|(go_simp;rfl))
 intro d hg bl hbox hb
 have q:=zM (hbox)
 have U:=sG HB hg
 have E:=sG HB hg
 replace HB:=sB HB hb
 have s:=sN b hg
 have F:=sM b hg
 replace b:=sK b hb
 clear hb hbox hg
 refine hK.out _ _ ⟨(blk_cell b.out 0).trans rfl,(blk_cell b.out 1).trans rfl,(blk_cell b.out 2).trans rfl,(blk_cell b.out 3).trans rfl,(blk_cell b.out 4).trans rfl⟩ (fun hHeld=>?_)
 clear hK K
 refine norm_ (a':=?_) ?_ ?_
 rotate_left
 ·(
 show Act.put _ (some 5) _=_
 simp only[zP,i64_w,i32_w]
 rfl)
 refine one_ (i:=5) (N:=some 28) (bN 12 575) rfl rfl (one_of p.out (by kernel_rfl)) (by decide) (fun K hK=>?_)
 refine goes_ Try.func30 (by kernel_rfl) rfl #[.slice (some Z) y289.length c0,.string ((rd_T52 l0 a).f0)] (by rfl) rfl rfl (by(try simp only[List.map_toArray,List.map_cons,List.map_nil]);first|done|rfl|(simp only[List.length_drop,List.length_take];rfl)) ?_
 with_reducible refine(impl_lookup.calls k2 (fun l=>l<w.heap.size) _ _ y289 ((rd_T52 l0 a).f0) W X Y ab true _ ?side1 aJ.out).mono ?_
 (case side1=>exact Kd.V_mk ap.out (Kd.F_below (Kd.C_F k52_heap ae.out) zzR))
 rintro e bm ⟨L,rfl,M,hb⟩
 refine⟨_,rfl,?_⟩
 have u:=zM (Kd.V_lower (Kd.V_mono (ok':=fun l=>l≠c∧l≠d) M (fun l aa=>⟨Or.elim aa (fun O=>fun Q=>Nat.not_le.2 O (by rw[Q];exact ao.out)) (fun R=>(Kd.freshB (g:=c) (o:= .cells #[.string ((rd_T52 l0 a).f0),.int .i64 ((rd_T52 l0 a).f1.f0),.int .i64 ((rd_T52 l0 a).f1.f1),.string ((rd_T52 l0 a).f1.f2),.slice z ((rd_T52 l0 a).f1.f3).length A] 52 (0,0)) (sT b.out) l R)),Or.elim aa (fun O=>fun Q=>Nat.not_le.2 O (by rw[Q];exact U.out)) (fun R=>(Kd.freshB (g:=d) (o:= .cells #[.int .i64 0,.int .i64 0,.string (⟨#[]⟩:ByteArray),.slice none 0 0] 36 (0,0)) (sT q.out) l R))⟩)) (below_size zzR))
 have x:=sK b hb
 have B:=sK q hb
 have T:=sB HB hb
 clear b
 clear q
 clear HB
 have D:=u
 have b:=x
 have q:=B
 have HB:=T
 clear u x B T
 (try clear hb)
 (try clear hb2)
 (try clear hk)
 (try clear hi)
 (try clear M)
 refine hK.out _ _ ⟨(blk_cell b.out 0).trans rfl,(blk_cell b.out 1).trans rfl,(blk_cell b.out 2).trans rfl,(blk_cell b.out 3).trans rfl,(blk_cell b.out 4).trans rfl⟩ (fun hHeld=>?_)
 clear hK K
 refine norm_ (a':=?_) ?_ ?_
 rotate_left
 ·(
 show Act.put _ (some 28) _=_
 simp only[zP,i64_w,i32_w]
 rfl)
 refine pure_ (i:=6) (N:=some 22) (v:=?_) (a':=?_) (bN 12 639) rfl rfl (any_of p.out (by kernel_rfl)) (fun _ _ _ h=>h) (Or.inl ⟨by rfl,?_⟩) ?_ ?_
 rotate_left
 ·(
 intro w'
 go_simp
 with_reducible rfl)
 rotate_left
 ·(
 simp only[zP,i64_w,i32_w]
 rfl)
 refine pure_ (i:=7) (N:=some 29) (v:=?_) (a':=?_) (bN 12 767) rfl rfl (any_of p.out (by kernel_rfl)) (fun _ _ _ h=>h) (Or.inl ⟨by rfl,?_⟩) ?_ ?_
 rotate_left
 ·(
 intro w'
 go_simp
 with_reducible rfl)
 rotate_left
 ·(
 simp only[zP,i64_w,i32_w]
 rfl)
 refine pure_ (i:=8) (N:=some 30) (v:=?_) (a':=?_) (bN 12 1023) rfl rfl (any_of p.out (by kernel_rfl)) (fun _ _ _ h=>h) (Or.inl ⟨by rfl,?_⟩) ?_ ?_
 rotate_left
 ·(
 intro w'
 go_simp
 with_reducible rfl)
 rotate_left
 ·(
 simp only[zP,i64_w,i32_w]
 rfl)
 exact norm_ (by simp only[putAll,Act.put,List.setIfInBounds_toArray,List.set_cons_zero,List.set_cons_succ]) (hCont (L,d) _ ⟨hHeld,(by(with_reducible repeat(first|apply Kd.V_alloc|apply Kd.V_drewN|apply Kd.V_drew));exact D.out),(sT b.out),(sT q.out),U.out,E.out,s.out,F.out,zzR⟩)))
 rintro⟨L,d⟩ I ⟨aU,aw,ax,ay,az,aA,aB,aC,aD⟩
 have D:Aside0 (Kd.V k36 36 I w.heap.size (fun l=>l≠c∧l≠d) L ab):=⟨aw⟩
 replace b:Aside0 (I.heap[c]?=some (.cells #[.string ((rd_T52 l0 a).f0),.int .i64 ((rd_T52 l0 a).f1.f0),.int .i64 ((rd_T52 l0 a).f1.f1),.string ((rd_T52 l0 a).f1.f2),.slice z ((rd_T52 l0 a).f1.f3).length A] 52 (0,0))):=⟨ax⟩
 have q:Aside0 (I.heap[d]?=some (.cells #[.int .i64 0,.int .i64 0,.string (⟨#[]⟩:ByteArray),.slice none 0 0] 36 (0,0))):=⟨ay⟩
 have U:Aside0 (w.heap.size≤d):=⟨az⟩
 have E:Aside0 (w.heap.size≤d):=⟨aA⟩
 have s:Aside0 (c≠d):=⟨aB⟩
 have F:Aside0 (d≠c):=⟨aC⟩
 replace HB:Aside0 (Below w.heap.size w I):=⟨aD⟩
 clear aw ax ay az aA aB aC aD
 have hHeld:I.cell? ⟨c,0,none⟩=some (.string ((rd_T52 l0 a).f0))∧I.cell? ⟨c,1,none⟩=some (.int .i64 ((rd_T52 l0 a).f1.f0))∧I.cell? ⟨c,2,none⟩=some (.int .i64 ((rd_T52 l0 a).f1.f1))∧I.cell? ⟨c,3,none⟩=some (.string ((rd_T52 l0 a).f1.f2))∧I.cell? ⟨c,4,none⟩=some (.slice z ((rd_T52 l0 a).f1.f3).length A):=aU
 obtain⟨bG,bH,a9⟩:=Kd.V_slice D.out
 (first|subst a9|(injection a9 with aE aV aF;have aW:=aE.symm;have aX:=aF.symm;clear aE aV aF;subst aW;subst aX))
 refine norm_ (a':=?_) ?_ ?_
 rotate_left
 ·(
 simp only[putAll,Act.put,List.setIfInBounds_toArray,List.set_cons_zero,List.set_cons_succ]
 rfl)
 refine one_ (i:=10) (N:=none) (bN 12 2047) rfl rfl (one_of p.out (by kernel_rfl)) (by decide) (fun K hK=>?_)
 have bI:I.cell? ⟨d,0,none⟩=some (.int .i64 0):=(blk_cell q.out 0).trans rfl
 have bJ:=blk_frozen q.out 0
 have bK:=s.out
 have bL:=F.out
 have bM:I.cell? ⟨d,1,none⟩=some (.int .i64 0):=(blk_cell q.out 1).trans rfl
 have bO:=blk_frozen q.out 1
 have bP:=s.out
 have bQ:=F.out
 have bR:I.cell? ⟨d,2,none⟩=some (.string (⟨#[]⟩:ByteArray)):=(blk_cell q.out 2).trans rfl
 have bS:=blk_frozen q.out 2
 have bT:=s.out
 have bU:=F.out
 have bV:I.cell? ⟨d,3,none⟩=some (.slice none 0 0):=(blk_cell q.out 3).trans rfl
 have bW:=blk_frozen q.out 3
 have bX:=s.out
 have bY:=F.out
 refine skip_ (w1:=?_) (by rfl) rfl ?_ ?_
 rotate_left
 ·(
 go_simp
 rfl)
 refine hK.out _ _ ⟨(sQ4 (g:=d) s.out (hHeld.1)),(sQ4 (g:=d) s.out (hHeld.2.1)),(sQ4 (g:=d) s.out (hHeld.2.2.1)),(sQ4 (g:=d) s.out (hHeld.2.2.2.1)),(sQ4 (g:=d) s.out (hHeld.2.2.2.2))⟩ (fun hHeld=>?_)
 clear hK K
 refine pure_ (i:=11) (N:=some 6) (v:=?_) (a':=?_) (bN 12 4095) rfl rfl (any_of p.out (by kernel_rfl)) (fun _ _ _ h=>h) (Or.inl ⟨by rfl,?_⟩) ?_ ?_
 rotate_left
 ·(
 intro w'
 go_simp
 with_reducible rfl)
 rotate_left
 ·(
 simp only[zP,i64_w,i32_w]
 rfl)
 refine done_ (done_of p.out (by kernel_rfl)) ?_
 try go_wp2
 go_ret
 exact⟨sq,sb⟩)
 replace aK:=zB aK
 subst aK
 rewrite[if_neg zQ]at H
 have H':=zM H
 clear H
 have ac:0≤(a:Int):=zzA
 have ad:a<(l0.length:Int):=zzA
 obtain⟨Z,z,A,aO,ah,ai,aj,ak,al,am,an⟩:=at_T52 af.out a ac ad
 cases aO
 replace ah:=sX HB ah
 replace ai:=sX HB ai
 replace aj:=sX HB aj
 replace ak:=sX HB ak
 replace al:=sX HB al
 have bh:=zM an
 have bi:=zM am
 clear an am
 replace ac:=eq_true ac
 replace ad:=eq_true ad
 try go_wp2_with (first|((with_reducible refine gate_dst (N:=4) rfl ?_);refine sV (N:=4) (cs:= #[.string (⟨#[]⟩:ByteArray),.int .i64 0,.int .i64 0,.string (⟨#[]⟩:ByteArray),.slice none 0 0]) (t:=52) ?_;intro c hg aY hbox hb;have b:=zM (hbox);have ao:=sG HB hg;have G:=sG HB hg;replace HB:=sB HB hb;clear hb hbox hg;obtain⟨bZ,b0,b1,b2,b3,b4,b5,b6,b7,b8⟩:=cells5 b.out))
 have u:Aside0 ((((((aY.setCell ⟨c,0,none⟩ (.string ((rd_T52 l0 a).f0))).setCell ⟨c,1,none⟩ (.int .i64 ((rd_T52 l0 a).f1.f0))).setCell ⟨c,2,none⟩ (.int .i64 ((rd_T52 l0 a).f1.f1))).setCell ⟨c,3,none⟩ (.string ((rd_T52 l0 a).f1.f2))).setCell ⟨c,4,none⟩ (.slice z ((rd_T52 l0 a).f1.f3).length A)).heap[c]?=some (.cells #[.string ((rd_T52 l0 a).f0),.int .i64 ((rd_T52 l0 a).f1.f0),.int .i64 ((rd_T52 l0 a).f1.f1),.string ((rd_T52 l0 a).f1.f2),.slice z ((rd_T52 l0 a).f1.f3).length A] 52 (0,0))):=⟨sP5 (sT b.out)⟩
 have x:Aside0 (Below w.heap.size w (((((aY.setCell ⟨c,0,none⟩ (.string ((rd_T52 l0 a).f0))).setCell ⟨c,1,none⟩ (.int .i64 ((rd_T52 l0 a).f1.f0))).setCell ⟨c,2,none⟩ (.int .i64 ((rd_T52 l0 a).f1.f1))).setCell ⟨c,3,none⟩ (.string ((rd_T52 l0 a).f1.f2))).setCell ⟨c,4,none⟩ (.slice z ((rd_T52 l0 a).f1.f3).length A))):=⟨sb⟩
 (try clear b)
 (try clear HB)
 generalize (((((aY.setCell ⟨c,0,none⟩ (.string ((rd_T52 l0 a).f0))).setCell ⟨c,1,none⟩ (.int .i64 ((rd_T52 l0 a).f1.f0))).setCell ⟨c,2,none⟩ (.int .i64 ((rd_T52 l0 a).f1.f1))).setCell ⟨c,3,none⟩ (.string ((rd_T52 l0 a).f1.f2))).setCell ⟨c,4,none⟩ (.slice z ((rd_T52 l0 a).f1.f3).length A))=w29 at u x ⊢
 have b:=u
 have HB:=x
 clear u x
 replace b:=zM (blk_drew b.out)
 replace HB:=zM (below_drew1 HB.out)
 have aZ:(a:Int)≤((l0.length:Int):Int):=zzA
 obtain⟨b9,ba,_,bn,_⟩:=info_parts info52
 have bb:l0.length≤c0:=aL.out
 have bc:Kd.C k52 _ (some Z) l0.length l0:=af.out
 have bo:=cut_to (P:=Try.prog) 25 52 .i64 Try.underlying25 ba (some Z) l0.length c0 a (zzA) aZ bb
 have a0:=Kd.C_take (m:=(a:Int).toNat) bc (by omega)
 have a1:y289.length=(a:Int).toNat:=(by rw[aI.out,List.length_take];omega)
 rw[←aI.out]at a0
 rw[←a1]at bo
 have ae:=zM a0
 have ap:=zM (show y289.length≤c0 from by omega)
 clear a0 bc bb ba bn
 have ca:=zM a1
 clear a1
 replace aZ:=eq_true aZ
 refine start_ (n:=12) (S:=fun w'=>w'.cell? ⟨c,0,none⟩=some (.string ((rd_T52 l0 a).f0))∧w'.cell? ⟨c,1,none⟩=some (.int .i64 ((rd_T52 l0 a).f1.f0))∧w'.cell? ⟨c,2,none⟩=some (.int .i64 ((rd_T52 l0 a).f1.f1))∧w'.cell? ⟨c,3,none⟩=some (.string ((rd_T52 l0 a).f1.f2))∧w'.cell? ⟨c,4,none⟩=some (.slice z ((rd_T52 l0 a).f1.f3).length A)) (ds:=[]) #[false,false,false,false,false,false,false,false,false,false,false,false] (by kernel_rfl) rfl rfl ⟨(blk_cell b.out 0).trans rfl,(blk_cell b.out 1).trans rfl,(blk_cell b.out 2).trans rfl,(blk_cell b.out 3).trans rfl,(blk_cell b.out 4).trans rfl⟩ (fun hHeld=>?_);refine with_tabW impl_ValidEnv.tab6 impl_ValidEnv.bits6 (fun p aT=>?_)
 generalize w29.drew=w30 at b HB ae hHeld ⊢
 refine pure_ (i:=0) (N:=some 23) (v:=?_) (a':=?_) (bN 12 1) rfl rfl (any_of p.out (by kernel_rfl)) (fun _ _ _ h=>h) (Or.inl ⟨by rfl,?_⟩) ?_ ?_
 rotate_left
 ·(
 intro w'
 go_simp
 with_reducible rfl)
 rotate_left
 ·(
 simp only[zP,i64_w,i32_w]
 rfl)
 refine pure_ (i:=1) (N:=some 24) (v:=?_) (a':=?_) (bN 12 3) rfl rfl (any_of p.out (by kernel_rfl)) (fun _ _ _ h=>h) (Or.inl ⟨by rfl,?_⟩) ?_ ?_
 rotate_left
 ·(
 intro w'
 go_simp
 with_reducible rfl)
 rotate_left
 ·(
 simp only[zP,i64_w,i32_w]
 rfl)
 refine pure_ (i:=2) (N:=some 25) (v:=?_) (a':=?_) (bN 12 7) rfl rfl (any_of p.out (by kernel_rfl)) (fun _ _ _ h=>h) (Or.inl ⟨by rfl,?_⟩) ?_ ?_
 rotate_left
 ·(
 intro w'
 go_simp
 with_reducible rfl)
 rotate_left
 ·(
 simp only[zP,i64_w,i32_w]
 rfl)
 refine pure_ (i:=3) (N:=some 26) (v:=?_) (a':=?_) (bN 12 15) rfl rfl (any_of p.out (by kernel_rfl)) (fun _ _ _ h=>h) (Or.inl ⟨by rfl,?_⟩) ?_ ?_
 rotate_left
 ·(
 intro w'
 go_simp
 with_reducible rfl)
 rotate_left
 ·(
 simp only[zP,i64_w,i32_w]
 rfl)
 refine take_ (i:=4) (N:=some 27) (v:=?_) (a':=?_) (bN 12 31) rfl rfl (take_ofW p.out aT.out (by kernel_rfl)) (fun _ _ _ h=>h) (Or.inl ⟨by rfl,?_⟩) hHeld ?_ ?_
 rotate_left
 ·(
 rintro w' ⟨s0,s1,s2,s3,s4⟩
 go_simp
 with_reducible rfl)
 rotate_left
 ·(
 simp only[zP,i64_w,i32_w]
 rfl)
 refine join_ (σ:=Value×Nat) 2 (bN 12 1023) (fun y=>[(28,.tuple #[.agg #[.int .i64 W,.int .i64 X,.string Y,y.1],.bool false]),(5,.pointer (some ⟨y.2,0,none⟩)),(22,.tuple #[.agg #[.int .i64 W,.int .i64 X,.string Y,y.1],.bool false]),(29,.agg #[.int .i64 W,.int .i64 X,.string Y,y.1]),(30,.bool false)]) (fun y w'=>(w'.cell? ⟨c,0,none⟩=some (.string ((rd_T52 l0 a).f0))∧w'.cell? ⟨c,1,none⟩=some (.int .i64 ((rd_T52 l0 a).f1.f0))∧w'.cell? ⟨c,2,none⟩=some (.int .i64 ((rd_T52 l0 a).f1.f1))∧w'.cell? ⟨c,3,none⟩=some (.string ((rd_T52 l0 a).f1.f2))∧w'.cell? ⟨c,4,none⟩=some (.slice z ((rd_T52 l0 a).f1.f3).length A))∧(Kd.V k36 36 w' w.heap.size (fun l=>l≠c∧l≠y.2) y.1 ab)∧(w'.heap[c]?=some (.cells #[.string ((rd_T52 l0 a).f0),.int .i64 ((rd_T52 l0 a).f1.f0),.int .i64 ((rd_T52 l0 a).f1.f1),.string ((rd_T52 l0 a).f1.f2),.slice z ((rd_T52 l0 a).f1.f3).length A] 52 (0,0)))∧(w'.heap[y.2]?=some (.cells #[.int .i64 0,.int .i64 0,.string (⟨#[]⟩:ByteArray),.slice none 0 0] 36 (0,0)))∧(w.heap.size≤y.2)∧(w.heap.size≤y.2)∧(c≠y.2)∧(y.2≠c)∧(Below w.heap.size w w')) ?_ ?_
 rotate_left
 ·(
 intro hCont
 refine two_ (i:=5) (j:=9) (Ni:=some 28) (Nj:=some 5) (bN 12 63) (bN 12 543) rfl rfl rfl rfl (two_of p.out (by kernel_rfl)) (by decide) (by decide) (fun K hK=>?_) (fun K hK=>?_)
 ·(
 skip
 refine goes_ Try.func30 (by kernel_rfl) rfl #[.slice (some Z) y289.length c0,.string ((rd_T52 l0 a).f0)] (by rfl) rfl rfl (by(try simp only[List.map_toArray,List.map_cons,List.map_nil]);first|done|rfl|(simp only[List.length_drop,List.length_take];rfl)) ?_
 with_reducible refine(impl_lookup.calls k2 (fun l=>l<w.heap.size) _ _ y289 ((rd_T52 l0 a).f0) W X Y ab false _ ?side1 aJ.out).mono ?_
 (case side1=>exact Kd.V_mk ap.out (Kd.F_below (Kd.C_F k52_heap ae.out) zzR))
 rintro e bp ⟨L,rfl,M,hb⟩
 refine⟨_,rfl,?_⟩
 have u:=zM (Kd.V_lower (Kd.V_mono (ok':=fun l=>l≠c) M (fun l aa=>Or.elim aa (fun O=>fun Q=>Nat.not_le.2 O (by rw[Q];exact ao.out)) (fun R=>(Kd.freshB (g:=c) (o:= .cells #[.string ((rd_T52 l0 a).f0),.int .i64 ((rd_T52 l0 a).f1.f0),.int .i64 ((rd_T52 l0 a).f1.f1),.string ((rd_T52 l0 a).f1.f2),.slice z ((rd_T52 l0 a).f1.f3).length A] 52 (0,0)) (sT b.out) l R)))) (below_size zzR))
 have x:=sK b hb
 have B:=sB HB hb
 clear b
 clear HB
 have D:=u
 have b:=x
 have HB:=B
 clear u x B
 (try clear hb)
 (try clear hb2)
 (try clear hk)
 (try clear hi)
 (try clear M)
 refine hK.out _ _ ⟨(blk_cell b.out 0).trans rfl,(blk_cell b.out 1).trans rfl,(blk_cell b.out 2).trans rfl,(blk_cell b.out 3).trans rfl,(blk_cell b.out 4).trans rfl⟩ (fun hHeld=>?_)
 clear hK K
 refine norm_ (a':=?_) ?_ ?_
 rotate_left
 ·(
 show Act.put _ (some 28) _=_
 simp only[zP,i64_w,i32_w]
 rfl)
 refine pure_ (i:=6) (N:=some 22) (v:=?_) (a':=?_) (bN 12 127) rfl rfl (any_of p.out (by kernel_rfl)) (fun _ _ _ h=>h) (Or.inl ⟨by rfl,?_⟩) ?_ ?_
 rotate_left
 ·(
 intro w'
 go_simp
 with_reducible rfl)
 rotate_left
 ·(
 simp only[zP,i64_w,i32_w]
 rfl)
 refine pure_ (i:=7) (N:=some 29) (v:=?_) (a':=?_) (bN 12 255) rfl rfl (any_of p.out (by kernel_rfl)) (fun _ _ _ h=>h) (Or.inl ⟨by rfl,?_⟩) ?_ ?_
 rotate_left
 ·(
 intro w'
 go_simp
 with_reducible rfl)
 rotate_left
 ·(
 simp only[zP,i64_w,i32_w]
 rfl)
 refine pure_ (i:=8) (N:=some 30) (v:=?_) (a':=?_) (bN 12 511) rfl rfl (any_of p.out (by kernel_rfl)) (fun _ _ _ h=>h) (Or.inl ⟨by rfl,?_⟩) ?_ ?_
 rotate_left
 ·(
 intro w'
 go_simp
 with_reducible rfl)
 rotate_left
 ·(
 simp only[zP,i64_w,i32_w]
 rfl)
 refine one_ (i:=9) (N:=some 5) (bN 12 1023) rfl rfl (one_of p.out (by kernel_rfl)) (by decide) (fun K hK=>?_)
 refine box_step ?hg (N:=5) ?hd (cs:= #[.int .i64 0,.int .i64 0,.string (⟨#[]⟩:ByteArray),.slice none 0 0]) (t:=36) ?hr ?_;(case hd=>rfl);(case hg=>rfl);(case hr=>first|(go_simp;done)|(go_simp;rfl))
 intro d hg bq hbox hb
 have u:=zM (Kd.V_below (Kd.V_elderB (by(with_reducible repeat(first|apply Kd.V_alloc|apply Kd.V_drewN|apply Kd.V_drew));exact D.out) d (Nat.le_of_eq hg.symm)) hb)
 have x:=sK b hb
 have B:=sB HB hb
 have T:=zM (hbox)
 have aq:=sG HB hg
 have ar:=sG HB hg
 have au:=sN b hg
 have av:=sM b hg
 clear D
 clear b
 clear HB
 have D:=u
 have b:=x
 have HB:=B
 have q:=T
 have U:=aq
 have E:=ar
 have s:=au
 have F:=av
 clear u x B T aq ar au av
 clear hb hbox hg
 refine hK.out _ _ ⟨(blk_cell b.out 0).trans rfl,(blk_cell b.out 1).trans rfl,(blk_cell b.out 2).trans rfl,(blk_cell b.out 3).trans rfl,(blk_cell b.out 4).trans rfl⟩ (fun hHeld=>?_)
 clear hK K
 refine norm_ (a':=?_) ?_ ?_
 rotate_left
 ·(
 show Act.put _ (some 5) _=_
 simp only[zP,i64_w,i32_w]
 rfl)
 exact norm_ (by simp only[putAll,Act.put,List.setIfInBounds_toArray,List.set_cons_zero,List.set_cons_succ]) (hCont (L,d) _ ⟨hHeld,(by(with_reducible repeat(first|apply Kd.V_alloc|apply Kd.V_drewN|apply Kd.V_drew));exact D.out),(sT b.out),(sT q.out),U.out,E.out,s.out,F.out,zzR⟩))
 ·(
 skip
 refine box_step ?hg (N:=5) ?hd (cs:= #[.int .i64 0,.int .i64 0,.string (⟨#[]⟩:ByteArray),.slice none 0 0]) (t:=36) ?hr ?_;(case hd=>rfl);(case hg=>rfl);(case hr=>first|(go_simp;done)|(go_simp;rfl))
 intro d hg bp hbox hb
 have q:=zM (hbox)
 have U:=sG HB hg
 have E:=sG HB hg
 replace HB:=sB HB hb
 have s:=sN b hg
 have F:=sM b hg
 replace b:=sK b hb
 clear hb hbox hg
 refine hK.out _ _ ⟨(blk_cell b.out 0).trans rfl,(blk_cell b.out 1).trans rfl,(blk_cell b.out 2).trans rfl,(blk_cell b.out 3).trans rfl,(blk_cell b.out 4).trans rfl⟩ (fun hHeld=>?_)
 clear hK K
 refine norm_ (a':=?_) ?_ ?_
 rotate_left
 ·(
 show Act.put _ (some 5) _=_
 simp only[zP,i64_w,i32_w]
 rfl)
 refine one_ (i:=5) (N:=some 28) (bN 12 575) rfl rfl (one_of p.out (by kernel_rfl)) (by decide) (fun K hK=>?_)
 refine goes_ Try.func30 (by kernel_rfl) rfl #[.slice (some Z) y289.length c0,.string ((rd_T52 l0 a).f0)] (by rfl) rfl rfl (by(try simp only[List.map_toArray,List.map_cons,List.map_nil]);first|done|rfl|(simp only[List.length_drop,List.length_take];rfl)) ?_
 with_reducible refine(impl_lookup.calls k2 (fun l=>l<w.heap.size) _ _ y289 ((rd_T52 l0 a).f0) W X Y ab false _ ?side1 aJ.out).mono ?_
 (case side1=>exact Kd.V_mk ap.out (Kd.F_below (Kd.C_F k52_heap ae.out) zzR))
 rintro e bq ⟨L,rfl,M,hb⟩
 refine⟨_,rfl,?_⟩
 have u:=zM (Kd.V_lower (Kd.V_mono (ok':=fun l=>l≠c∧l≠d) M (fun l aa=>⟨Or.elim aa (fun O=>fun Q=>Nat.not_le.2 O (by rw[Q];exact ao.out)) (fun R=>(Kd.freshB (g:=c) (o:= .cells #[.string ((rd_T52 l0 a).f0),.int .i64 ((rd_T52 l0 a).f1.f0),.int .i64 ((rd_T52 l0 a).f1.f1),.string ((rd_T52 l0 a).f1.f2),.slice z ((rd_T52 l0 a).f1.f3).length A] 52 (0,0)) (sT b.out) l R)),Or.elim aa (fun O=>fun Q=>Nat.not_le.2 O (by rw[Q];exact U.out)) (fun R=>(Kd.freshB (g:=d) (o:= .cells #[.int .i64 0,.int .i64 0,.string (⟨#[]⟩:ByteArray),.slice none 0 0] 36 (0,0)) (sT q.out) l R))⟩)) (below_size zzR))
 have x:=sK b hb
 have B:=sK q hb
 have T:=sB HB hb
 clear b
 clear q
 clear HB
 have D:=u
 have b:=x
 have q:=B
 have HB:=T
 clear u x B T
 (try clear hb)
 (try clear hb2)
 (try clear hk)
 (try clear hi)
 (try clear M)
 refine hK.out _ _ ⟨(blk_cell b.out 0).trans rfl,(blk_cell b.out 1).trans rfl,(blk_cell b.out 2).trans rfl,(blk_cell b.out 3).trans rfl,(blk_cell b.out 4).trans rfl⟩ (fun hHeld=>?_)
 clear hK K
 refine norm_ (a':=?_) ?_ ?_
 rotate_left
 ·(
 show Act.put _ (some 28) _=_
 simp only[zP,i64_w,i32_w]
 rfl)
 refine pure_ (i:=6) (N:=some 22) (v:=?_) (a':=?_) (bN 12 639) rfl rfl (any_of p.out (by kernel_rfl)) (fun _ _ _ h=>h) (Or.inl ⟨by rfl,?_⟩) ?_ ?_
 rotate_left
 ·(
 intro w'
 go_simp
 with_reducible rfl)
 rotate_left
 ·(
 simp only[zP,i64_w,i32_w]
 rfl)
 refine pure_ (i:=7) (N:=some 29) (v:=?_) (a':=?_) (bN 12 767) rfl rfl (any_of p.out (by kernel_rfl)) (fun _ _ _ h=>h) (Or.inl ⟨by rfl,?_⟩) ?_ ?_
 rotate_left
 ·(
 intro w'
 go_simp
 with_reducible rfl)
 rotate_left
 ·(
 simp only[zP,i64_w,i32_w]
 rfl)
 refine pure_ (i:=8) (N:=some 30) (v:=?_) (a':=?_) (bN 12 1023) rfl rfl (any_of p.out (by kernel_rfl)) (fun _ _ _ h=>h) (Or.inl ⟨by rfl,?_⟩) ?_ ?_
 rotate_left
 ·(
 intro w'
 go_simp
 with_reducible rfl)
 rotate_left
 ·(
 simp only[zP,i64_w,i32_w]
 rfl)
 exact norm_ (by simp only[putAll,Act.put,List.setIfInBounds_toArray,List.set_cons_zero,List.set_cons_succ]) (hCont (L,d) _ ⟨hHeld,(by(with_reducible repeat(first|apply Kd.V_alloc|apply Kd.V_drewN|apply Kd.V_drew));exact D.out),(sT b.out),(sT q.out),U.out,E.out,s.out,F.out,zzR⟩)))
 rintro⟨L,d⟩ J ⟨aU,aw,ax,ay,az,aA,aB,aC,aD⟩
 have D:Aside0 (Kd.V k36 36 J w.heap.size (fun l=>l≠c∧l≠d) L ab):=⟨aw⟩
 replace b:Aside0 (J.heap[c]?=some (.cells #[.string ((rd_T52 l0 a).f0),.int .i64 ((rd_T52 l0 a).f1.f0),.int .i64 ((rd_T52 l0 a).f1.f1),.string ((rd_T52 l0 a).f1.f2),.slice z ((rd_T52 l0 a).f1.f3).length A] 52 (0,0))):=⟨ax⟩
 have q:Aside0 (J.heap[d]?=some (.cells #[.int .i64 0,.int .i64 0,.string (⟨#[]⟩:ByteArray),.slice none 0 0] 36 (0,0))):=⟨ay⟩
 have U:Aside0 (w.heap.size≤d):=⟨az⟩
 have E:Aside0 (w.heap.size≤d):=⟨aA⟩
 have s:Aside0 (c≠d):=⟨aB⟩
 have F:Aside0 (d≠c):=⟨aC⟩
 replace HB:Aside0 (Below w.heap.size w J):=⟨aD⟩
 clear aw ax ay az aA aB aC aD
 have hHeld:J.cell? ⟨c,0,none⟩=some (.string ((rd_T52 l0 a).f0))∧J.cell? ⟨c,1,none⟩=some (.int .i64 ((rd_T52 l0 a).f1.f0))∧J.cell? ⟨c,2,none⟩=some (.int .i64 ((rd_T52 l0 a).f1.f1))∧J.cell? ⟨c,3,none⟩=some (.string ((rd_T52 l0 a).f1.f2))∧J.cell? ⟨c,4,none⟩=some (.slice z ((rd_T52 l0 a).f1.f3).length A):=aU
 obtain⟨cb,cc,bd⟩:=Kd.V_slice D.out
 (first|subst bd|(injection bd with aE aV aF;have aW:=aE.symm;have aX:=aF.symm;clear aE aV aF;subst aW;subst aX))
 refine norm_ (a':=?_) ?_ ?_
 rotate_left
 ·(
 simp only[putAll,Act.put,List.setIfInBounds_toArray,List.set_cons_zero,List.set_cons_succ]
 rfl)
 refine one_ (i:=10) (N:=none) (bN 12 2047) rfl rfl (one_of p.out (by kernel_rfl)) (by decide) (fun K hK=>?_)
 have cd:J.cell? ⟨d,0,none⟩=some (.int .i64 0):=(blk_cell q.out 0).trans rfl
 have ce:=blk_frozen q.out 0
 have cf:=s.out
 have cg:=F.out
 have ch:J.cell? ⟨d,1,none⟩=some (.int .i64 0):=(blk_cell q.out 1).trans rfl
 have ci:=blk_frozen q.out 1
 have cj:=s.out
 have ck:=F.out
 have cl:J.cell? ⟨d,2,none⟩=some (.string (⟨#[]⟩:ByteArray)):=(blk_cell q.out 2).trans rfl
 have cm:=blk_frozen q.out 2
 have cn:=s.out
 have co:=F.out
 have cp:J.cell? ⟨d,3,none⟩=some (.slice none 0 0):=(blk_cell q.out 3).trans rfl
 have cq:=blk_frozen q.out 3
 have cr:=s.out
 have ct:=F.out
 refine skip_ (w1:=?_) (by rfl) rfl ?_ ?_
 rotate_left
 ·(
 go_simp
 rfl)
 refine hK.out _ _ ⟨(sQ4 (g:=d) s.out (hHeld.1)),(sQ4 (g:=d) s.out (hHeld.2.1)),(sQ4 (g:=d) s.out (hHeld.2.2.1)),(sQ4 (g:=d) s.out (hHeld.2.2.2.1)),(sQ4 (g:=d) s.out (hHeld.2.2.2.2))⟩ (fun hHeld=>?_)
 clear hK K
 refine pure_ (i:=11) (N:=some 6) (v:=?_) (a':=?_) (bN 12 4095) rfl rfl (any_of p.out (by kernel_rfl)) (fun _ _ _ h=>h) (Or.inl ⟨by rfl,?_⟩) ?_ ?_
 rotate_left
 ·(
 intro w'
 go_simp
 with_reducible rfl)
 rotate_left
 ·(
 simp only[zP,i64_w,i32_w]
 rfl)
 refine done_ (done_of p.out (by kernel_rfl)) ?_
 try go_wp2
 go_roundg k2
 case measure=>have:=a2.out;have:=a3.out;omega
 case rel=>exact⟨(wrap64 (a+1)),sr,H',⟨by have:=a2.out;have:=a3.out;omega⟩,⟨sb⟩⟩)
 rw[if_neg ag]at H
 exact absurd H (by simp))
 rw[if_neg c9]at H
 exact absurd H (by simp))
 rw[if_neg c8]at H
 exact absurd H (by simp))
 rw[if_neg c7]at H
 have c7b0:=zF c7
 clear c7
 obtain rfl:=zI H
 go_wp2
 go_ret
 exact⟨sq,sb⟩))))
end Go.Proofs.Ytdihlgkcpooadaa.PFnExactIsPure
