/- Printed functions: spec_l08Collect. -/
import Derived.Test.YtpdljgieaaicpaaYLsP0
import Derived.Test.YtpdljgieaaicpaaYLsP9
import Derived.Test.YtpdljgieaaicpaaYLsP14
import Derived.Test.YtpdljgieaaicpaaYLsP15
namespace Go.Proofs.Ytpdljgieaaicpaa.PFnExactLiveSize
open Go.RowKit Go.Proofs.YtpdljgieaaicpaaG Go.Proofs.YtpdljgieaaicpaaW.PrintWords Go.Proofs.YtpdljgieaaicpaaW.PrintLast Go.Proofs.YtpdljgieaaicpaaW.PrintMore
attribute [local go_sem] max2_int min2_int max_two min_two max_three min_three max_four min_four
set_option linter.unusedVariables false
set_option linter.unusedSimpArgs false
def spec_l08Collect.l0 : Nat → List (S32) → List (S62) → List Int → Int → Int → List (S64) → Option (Int × (List (S64)) × (List (S62)))
 |0,_,_,_,_,_,_=>none
 |k+1,x0,x1,x6,x8,x286000,x286001=>if x8<(x6.length:Int)then(if 0<(x0.length:Int)then(if 0≤x8 then((spec_l07Find.f k x0 (rd x6 x8)).bind fun t291=>(if 0≤t291 then(if t291<(((rd_T32 x0 0).f1).length:Int)then((spec_l08MoveAll.f k x6 ((rd_T64 ((rd_T32 x0 0).f1) t291).f4)).bind fun t294=>((spec_l08MoveAll.f k x6 ((rd_T64 ((rd_T32 x0 0).f1) t291).f5)).bind fun t297=>((spec_l08Move.f k x6 ((rd_T64 ((rd_T32 x0 0).f1) t291).f6.f0) ((rd_T64 ((rd_T32 x0 0).f1) t291).f6.f1) ((rd_T64 ((rd_T32 x0 0).f1) t291).f6.f2) ((rd_T64 ((rd_T32 x0 0).f1) t291).f6.f3)).bind fun bt300=>(if x286001.length<1099511627776 then(spec_l08Collect.l0 k x0 x1 x6 (wrap64 (x8+1)) x286000 (x286001++[(⟨wrap64 (x8+1),(rd_T64 ((rd_T32 x0 0).f1) t291).f1,(rd_T64 ((rd_T32 x0 0).f1) t291).f2,(rd_T64 ((rd_T32 x0 0).f1) t291).f3,t294,t297,(⟨bt300.1,bt300.2.1,bt300.2.2.1,bt300.2.2.2⟩:S62)⟩:S64)]))else(none)))))else(none))else(none)))else(none))else(none))else((spec_l08MoveAll.f k x6 x1).bind fun t286=>(some (x286000,x286001,t286)))
def spec_l08Collect.f (k:Nat) (l0:List (S32)) (l1:List (S62)):Option (Int×(List (S64))×(List (S62))):=(spec_l08Trace.f k l0 l1).bind fun t282=>(spec_l08Collect.l0 k l0 l1 t282 0 (t282.length:Int) ([]:List (S64)))
def spec_l08Collect.T6:Bool×List (List Nat×List Nat):=(true,[([],[]),([0],[0]),([1],[1]),([2],[2]),([],[]),([],[]),([],[]),([5,6],[5,6]),([7],[7]),([4,8],[4,8]),([3,9],[3,9]),([10],[10]),([],[]),([12,11,9,0,1,2,3,4,5,6,7,8,9,10,11,12],[11,12])])
def spec_l08Collect.B6:List Nat:=[0,1,3,7,0,0,0,96,224,496,1023,2047,0,8191]
theorem spec_l08Collect.tab6:rtab .any (opsOf Try.f50 6)=spec_l08Collect.T6:=by kernel_rfl
theorem spec_l08Collect.bits6:waitsOk spec_l08Collect.T6.2 spec_l08Collect.B6=true:=by kernel_rfl
set_option maxHeartbeats 8000000 in
set_option maxRecDepth 100000 in
theorem spec_l08Collect.calls (k:Nat) (A0:Option Addr) (l0:List (S32)) (A1:Option Addr) (c1:Nat) (l1:List (S62)) (r1:Int) (r2:List (S64)) (r3:List (S62)) (w:World) (hr0:Kd.C k32 w A0 l0.length l0) (hr1:Kd.C k62 w A1 l1.length l1) (hc1:l1.length≤c1) (h:spec_l08Collect.f k l0 l1=some (r1,r2,r3)):
  Calls Try.prog 50 #[.pointer A0,.slice A1 l1.length c1] w fun e w'=>∃bv v2_:Value,e= .returned (.tuple #[.agg #[.int .i64 r1,bv],v2_])∧Kd.S k64 64 w' w.heap.size (fun q=>some q≠(v2_:Value).ownBlock) bv r2∧Kd.R k62 62 w' w.heap.size (fun _=>True) v2_ r3∧Below w.heap.size w w':=by
 have cA:=Try.underlying32
 have cB:=Try.underlying64
 have cC:=Try.underlying62
 have aZ:=zM hr0
 have cD:=zM (Nat.le_refl l0.length)
 clear hr0
 have bw:=zM hr1
 have bx:=zM hc1
 clear hr1 hc1
 have HB:=zM (Below.refl w.heap.size w)
 have H:((spec_l08Trace.f k l0 l1).bind fun B=>(spec_l08Collect.l0 k l0 l1 B 0 (B.length:Int) ([]:List (S64))))=some (r1,r2,r3):=h
 clear h
 obtain⟨B,A3,H⟩:=sO H
 have H':=zM H
 clear H
 go_enter Try.func50,Try.ntmps50
 go_wp2_with (first|((with_reducible refine gate_dst (N:=4) rfl ?_);refine sV (N:=4) (cs:= #[.int .i64 0,.slice none 0 0]) (t:=32) ?_;intro O hg w4 hbox hb;have s:=zM (hbox);have cE:=sG HB hg;have au:=sG HB hg;replace HB:=sB HB hb;clear hb hbox hg)|((with_reducible refine gate_callee (f:=39) rfl ?_);refine sC (some 12) Try.func39 #[.pointer A0,.slice A1 l1.length c1] (spec_l08Trace.calls k _ l0 _ _ l1 B _ ?side1 ?side2 ?side3 A3.out) ?_;(case side1=>exact sD (zC aZ.out HB.out));(case side2=>exact sD (zC bw.out HB.out));(case side3=>exact bx.out);rintro e w5 ⟨cF,rfl,Y,hb⟩;refine⟨_,rfl,?_⟩;have a0:=zM (Kd.R_lower Y (below_size zzR));replace s:=sK s hb;replace HB:=sB HB hb;(try clear hb);(try clear Y);obtain⟨bz,av,b5⟩:=Kd.R_slice a0.out;subst b5)|((with_reducible refine gate_dst (N:=7) rfl ?_);refine sV (N:=7) (cs:= #[.int .i64 0,.slice none 0 0]) (t:=32) ?_;intro U hg w7 hbox hb;replace a0:=zM (Kd.R_below (sE a0.out) hb);have u:=zM (hbox);have cG:=sG HB hg;have aH:=sG HB hg;replace HB:=sB HB hb;have aU:=sN s hg;have aV:=sM s hg;replace s:=sK s hb;clear hb hbox hg;have cH:=aV.out;have cI:=aU.out;obtain⟨b6,b7,b8,b9⟩:=cells2 u.out))
 go_loopg [8] k (fun kq v8 w'=>∃(y:Int) (aw:Int) (W:Int) (ar:List (S64)) (J:Value),v8= .int .i64 y∧Aside0 (spec_l08Collect.l0 kq l0 l1 B y W ar=some (r1,r2,r3))∧Aside0 (kq≤k)∧Aside0 (Kd.R (Kd.int .i64) 2 w' w.heap.size (fun _=>True) (.slice bz B.length av) B)∧Aside0 (Kd.S k64 64 w' w.heap.size (fun _=>True) J ar)∧Aside0 (w'.heap[O]?=some (.cells #[.int .i64 aw,(.slice none 0 0)] 32 (0,0)))∧Aside0 (w'.heap[U]?=some (.cells #[.int .i64 W,J] 32 (0,0)))∧Aside0 (Below w.heap.size w w'))
 case atStart=>exact⟨(0),(0),((B.length:Int)),(([]:List (S64))),(.slice none 0 0),sr,H',⟨Nat.le_refl _⟩,⟨by(with_reducible repeat(first|apply Kd.R_alloc|apply Kd.R_drewN|apply Kd.R_drew));exact Kd.R_mono (sRF2 (g:=U) (Kd.R_types a0.out u.out (by decide)) (fun _ hk=>hk.2)) (fun _ hk=>trivial)⟩,⟨by first|exact Kd.S_nil _ _ _ _ _|exact Kd.N_nil _ _ _ _ _|exact Kd.V_nil _ _ _ _ _|exact Kd.Q_nil _ _ _ _ _|exact Kd.R_nil _ _ _ _ _⟩,⟨by(with_reducible repeat(first|refine blk_drewN ?_ _|refine blk_drew ?_|refine blk_alloc ?_ _));refine blk_far ?_ aU.out _;(with_reducible repeat(first|refine blk_drewN ?_ _|refine blk_drew ?_|refine blk_alloc ?_ _));refine blk_far ?_ aU.out _;exact sT s.out⟩,⟨by exact sP2 (sT u.out)⟩,⟨sb⟩⟩
 case round=>(
 clear H'
 try clear c1
 try clear b6
 try clear b7
 try clear b8
 try clear b9
 obtain⟨y,aw,W,ar,J,rfl,HA,bA,x,z,s,u,HB⟩:=hrel
 cases gk with
 |zero=>exact absurd HA.out (by simp[spec_l08Collect.l0])
 |succ k1=>(
 have H:=HA.out
 clear HA
 simp only[spec_l08Collect.l0]at H
 by_cases aW:y<(B.length:Int)
 ·(
 rw[if_pos aW]at H
 have c10b0:=zT aW
 clear aW
 by_cases a1:0<(l0.length:Int)
 ·(
 rw[if_pos a1]at H
 have c11b0:=zT a1
 have c11b1:decide (0<l0.length)=true:=zT (by omega)
 clear a1
 by_cases a2:0≤y
 ·(
 rw[if_pos a2]at H
 have c12b0:=zT a2
 clear a2
 obtain⟨a,bB,H⟩:=sO H
 by_cases a3:0≤a
 ·(
 rw[if_pos a3]at H
 have c14b0:=zT a3
 clear a3
 by_cases a4:a<(((rd_T32 l0 0).f1).length:Int)
 ·(
 rw[if_pos a4]at H
 have c15b0:=zT a4
 clear a4
 obtain⟨G,ca,H⟩:=sO H
 obtain⟨I,cb,H⟩:=sO H
 replace H:=Option.bind_eq_some_iff.mp H
 obtain⟨⟨V,X,Z,ae⟩,bC,H⟩:=H
 replace H:(if ar.length<1099511627776 then(spec_l08Collect.l0 k1 l0 l1 B (wrap64 (y+1)) W (ar++[(⟨wrap64 (y+1),(rd_T64 ((rd_T32 l0 0).f1) a).f1,(rd_T64 ((rd_T32 l0 0).f1) a).f2,(rd_T64 ((rd_T32 l0 0).f1) a).f3,G,I,(⟨V,X,Z,ae⟩:S62)⟩:S64)]))else(none))=some (r1,r2,r3):=H
 have cc:=zM bC
 clear bC
 by_cases a5:ar.length<1099511627776
 ·(
 rw[if_pos a5]at H
 have cd:=zM a5
 clear a5
 obtain⟨y304,hy304⟩:∃y_:List (S64),y_=(ar++[(⟨wrap64 (y+1),(rd_T64 ((rd_T32 l0 0).f1) a).f1,(rd_T64 ((rd_T32 l0 0).f1) a).f2,(rd_T64 ((rd_T32 l0 0).f1) a).f3,G,I,(⟨V,X,Z,ae⟩:S62)⟩:S64)]):=⟨_,rfl⟩
 replace H:(spec_l08Collect.l0 k1 l0 l1 B (wrap64 (y+1)) W y304)=some (r1,r2,r3):=by first|(rw[hy304];with_reducible exact H)|(have bh:=(Option.bind_some _ _).symm.trans H;rw[hy304];with_reducible exact bh)|(have bh:=(Option.bind_some _ _).symm.trans H;with_reducible exact bh)|with_reducible exact H|(rw[hy304];exact H)|exact H
 have ce:=zM hy304
 clear hy304
 have H':=zM H
 clear H
 try go_wp2
 replace x:=zM (Kd.R_drew x.out)
 replace z:=zM (Kd.S_drew z.out)
 replace s:=zM (blk_drew s.out)
 replace u:=zM (blk_drew u.out)
 replace HB:=zM (below_drew1 HB.out)
 have bi:0≤(0:Int):=(by omega)
 have bj:0<(l0.length:Int):=zzA
 obtain⟨ax,cJ,bk,cf,aX,aY,bD,bE⟩:=at_T32 aZ.out 0 bi bj
 have aa:=aY
 (try rw[sZ]at aa)
 have ab:=aX
 (try rw[sZ]at ab)
 cases cf
 have cK:(0<l0.length)=True:=eq_true (by omega)
 (try rw[sZ]at aX)
 (try rw[sZ]at aY)
 replace aX:=sX HB aX
 replace aY:=sX HB aY
 have bF:=zM bE
 have cL:=zM bD
 clear bE bD
 replace bi:=eq_true bi
 replace bj:=eq_true bj
 have bl:0≤(y:Int):=zzA
 have bm:y<(B.length:Int):=zzA
 obtain⟨aM,cg,bG⟩:=Kd.at_int (Kd.R_reads' x.out).2.2 y bl bm
 cases cg
 replace bl:=eq_true bl
 replace bm:=eq_true bm
 have bn:0≤(a:Int):=zzA
 have bo:a<(((rd_T32 l0 0).f1).length:Int):=zzA
 obtain⟨m,aN,aQ,aI,aJ,ch,a6,a7,a8,a9,ba,bb,bc,bd,be,bf,bH,bI,bJ,bK⟩:=at_T64 bF.out a bn bo
 have af:=bf
 have ag:=be
 have ah:=bd
 have ai:=bc
 have aj:=bb
 have ak:=ba
 have al:=a9
 have am:=a8
 have an:=a7
 have ao:=a6
 cases ch
 replace a6:=sX HB a6
 replace a7:=sX HB a7
 replace a8:=sX HB a8
 replace a9:=sX HB a9
 replace ba:=sX HB ba
 replace bb:=sX HB bb
 replace bc:=sX HB bc
 replace bd:=sX HB bd
 replace be:=sX HB be
 replace bf:=sX HB bf
 have bL:=zM bI
 have ci:=zM bH
 clear bI bH
 have bM:=zM bK
 have cj:=zM bJ
 clear bK bJ
 replace bn:=eq_true bn
 replace bo:=eq_true bo
 refine start_ (n:=14) (S:=fun w'=>w'.cell? ax=some (.int .i64 ((rd_T32 l0 0).f0))∧w'.cell? ⟨ax.block,ax.off+1,none⟩=some (.slice (some m) ((rd_T32 l0 0).f1).length bk)∧w'.cell? (aM.add (y).toNat)=some (.int .i64 (rd B y))∧w'.cell? (m.add ((a).toNat*10))=some (.int .i64 ((rd_T64 ((rd_T32 l0 0).f1) a).f0))∧w'.cell? ⟨(m.add ((a).toNat*10)).block,(m.add ((a).toNat*10)).off+1,none⟩=some (.int .i64 ((rd_T64 ((rd_T32 l0 0).f1) a).f1))∧w'.cell? ⟨(m.add ((a).toNat*10)).block,(m.add ((a).toNat*10)).off+2,none⟩=some (.string ((rd_T64 ((rd_T32 l0 0).f1) a).f2))∧w'.cell? ⟨(m.add ((a).toNat*10)).block,(m.add ((a).toNat*10)).off+3,none⟩=some (.int .i64 ((rd_T64 ((rd_T32 l0 0).f1) a).f3))∧w'.cell? ⟨(m.add ((a).toNat*10)).block,(m.add ((a).toNat*10)).off+4,none⟩=some (.slice aN ((rd_T64 ((rd_T32 l0 0).f1) a).f4).length aQ)∧w'.cell? ⟨(m.add ((a).toNat*10)).block,(m.add ((a).toNat*10)).off+5,none⟩=some (.slice aI ((rd_T64 ((rd_T32 l0 0).f1) a).f5).length aJ)∧w'.cell? ⟨(m.add ((a).toNat*10)).block,(m.add ((a).toNat*10)).off+6,none⟩=some (.int .i64 ((rd_T64 ((rd_T32 l0 0).f1) a).f6.f0))∧w'.cell? ⟨(m.add ((a).toNat*10)).block,(m.add ((a).toNat*10)).off+7,none⟩=some (.int .i64 ((rd_T64 ((rd_T32 l0 0).f1) a).f6.f1))∧w'.cell? ⟨(m.add ((a).toNat*10)).block,(m.add ((a).toNat*10)).off+8,none⟩=some (.string ((rd_T64 ((rd_T32 l0 0).f1) a).f6.f2))∧w'.cell? ⟨(m.add ((a).toNat*10)).block,(m.add ((a).toNat*10)).off+9,none⟩=some (.int .i64 ((rd_T64 ((rd_T32 l0 0).f1) a).f6.f3))) (ds:=[]) #[false,false,false,false,false,false,false,false,false,false,false,false,false,false] (by kernel_rfl) rfl rfl ⟨((HB.out.cell (zL w _ ab)).trans ab),((HB.out.cell (zL w _ aa)).trans aa),bG,((HB.out.cell (zL w _ ao)).trans ao),((HB.out.cell (zL w _ an)).trans an),((HB.out.cell (zL w _ am)).trans am),((HB.out.cell (zL w _ al)).trans al),((HB.out.cell (zL w _ ak)).trans ak),((HB.out.cell (zL w _ aj)).trans aj),((HB.out.cell (zL w _ ai)).trans ai),((HB.out.cell (zL w _ ah)).trans ah),((HB.out.cell (zL w _ ag)).trans ag),((HB.out.cell (zL w _ af)).trans af)⟩ (fun hHeld=>?_);refine with_tabW spec_l08Collect.tab6 spec_l08Collect.bits6 (fun P bg=>?_)
 generalize wr.drew=w20 at x z s u HB bF bL bM aX aY bG a6 a7 a8 a9 ba bb bc bd be bf hHeld ⊢
 refine pure_ (i:=0) (N:=some 22) (v:=?_) (a':=?_) (bN 14 1) rfl rfl (any_of P.out (by kernel_rfl)) (fun _ _ _ h=>h) (Or.inl ⟨by rfl,?_⟩) ?_ ?_
 rotate_left
 ·(
 intro w'
 go_simp
 with_reducible rfl)
 rotate_left
 ·(
 simp only[zP,i64_w,i32_w]
 rfl)
 refine pure_ (i:=1) (N:=some 23) (v:=?_) (a':=?_) (bN 14 3) rfl rfl (any_of P.out (by kernel_rfl)) (fun _ _ _ h=>h) (Or.inl ⟨by rfl,?_⟩) ?_ ?_
 rotate_left
 ·(
 intro w'
 go_simp
 with_reducible rfl)
 rotate_left
 ·(
 simp only[zP,i64_w,i32_w]
 rfl)
 refine pure_ (i:=2) (N:=some 24) (v:=?_) (a':=?_) (bN 14 7) rfl rfl (any_of P.out (by kernel_rfl)) (fun _ _ _ h=>h) (Or.inl ⟨by rfl,?_⟩) ?_ ?_
 rotate_left
 ·(
 intro w'
 go_simp
 with_reducible rfl)
 rotate_left
 ·(
 simp only[zP,i64_w,i32_w]
 rfl)
 refine pure_ (i:=4) (N:=some 26) (v:=?_) (a':=?_) (bN 14 23) rfl rfl (any_of P.out (by kernel_rfl)) (fun _ _ _ h=>h) (Or.inl ⟨by rfl,?_⟩) ?_ ?_
 rotate_left
 ·(
 intro w'
 go_simp
 with_reducible rfl)
 rotate_left
 ·(
 simp only[zP,i64_w,i32_w]
 rfl)
 refine pure_ (i:=5) (N:=some 27) (v:=?_) (a':=?_) (bN 14 55) rfl rfl (any_of P.out (by kernel_rfl)) (fun _ _ _ h=>h) (Or.inl ⟨by rfl,?_⟩) ?_ ?_
 rotate_left
 ·(
 intro w'
 go_simp
 with_reducible rfl)
 rotate_left
 ·(
 simp only[zP,i64_w,i32_w]
 rfl)
 refine pure_ (i:=6) (N:=some 28) (v:=?_) (a':=?_) (bN 14 119) rfl rfl (any_of P.out (by kernel_rfl)) (fun _ _ _ h=>h) (Or.inl ⟨by rfl,?_⟩) ?_ ?_
 rotate_left
 ·(
 intro w'
 go_simp
 with_reducible rfl)
 rotate_left
 ·(
 simp only[zP,i64_w,i32_w]
 rfl)
 refine pure_ (i:=7) (N:=some 29) (v:=?_) (a':=?_) (bN 14 247) rfl rfl (any_of P.out (by kernel_rfl)) (fun _ _ _ h=>h) (Or.inl ⟨by rfl,?_⟩) ?_ ?_
 rotate_left
 ·(
 intro w'
 go_simp
 with_reducible rfl)
 rotate_left
 ·(
 simp only[zP,i64_w,i32_w]
 rfl)
 refine take_ (i:=3) (N:=some 25) (v:=?_) (a':=?_) (bN 14 255) rfl rfl (take_ofW P.out bg.out (by kernel_rfl)) (fun _ _ _ h=>h) (Or.inl ⟨by rfl,?_⟩) hHeld ?_ ?_
 rotate_left
 ·(
 rintro w' ⟨s0,s1,s2,s3,s4,s5,s6,s7,s8,s9,bp,bq,br⟩
 go_simp
 with_reducible rfl)
 rotate_left
 ·(
 simp only[zP,i64_w,i32_w]
 rfl)
 refine take_ (i:=8) (N:=some 30) (v:=?_) (a':=?_) (bN 14 511) rfl rfl (take_ofW P.out bg.out (by kernel_rfl)) (fun _ _ _ h=>h) (Or.inl ⟨by rfl,?_⟩) hHeld ?_ ?_
 rotate_left
 ·(
 rintro w' ⟨s0,s1,s2,s3,s4,s5,s6,s7,s8,s9,bp,bq,br⟩
 go_simp
 with_reducible rfl)
 rotate_left
 ·(
 simp only[zP,i64_w,i32_w]
 rfl)
 refine join_ (σ:=Nat) 1 (bN 14 8191) (fun s_=>[(31,.int .i64 a),(9,.pointer (some ⟨s_,0,none⟩)),(32,.pointer (some (m.add ((a).toNat*10)))),(33,.agg #[.int .i64 ((rd_T64 ((rd_T32 l0 0).f1) a).f0),.int .i64 ((rd_T64 ((rd_T32 l0 0).f1) a).f1),.string ((rd_T64 ((rd_T32 l0 0).f1) a).f2),.int .i64 ((rd_T64 ((rd_T32 l0 0).f1) a).f3),.slice aN ((rd_T64 ((rd_T32 l0 0).f1) a).f4).length aQ,.slice aI ((rd_T64 ((rd_T32 l0 0).f1) a).f5).length aJ,.int .i64 ((rd_T64 ((rd_T32 l0 0).f1) a).f6.f0),.int .i64 ((rd_T64 ((rd_T32 l0 0).f1) a).f6.f1),.string ((rd_T64 ((rd_T32 l0 0).f1) a).f6.f2),.int .i64 ((rd_T64 ((rd_T32 l0 0).f1) a).f6.f3)])]) (fun s_ w'=>(w'.cell? ax=some (.int .i64 ((rd_T32 l0 0).f0))∧w'.cell? ⟨ax.block,ax.off+1,none⟩=some (.slice (some m) ((rd_T32 l0 0).f1).length bk)∧w'.cell? (aM.add (y).toNat)=some (.int .i64 (rd B y))∧w'.cell? (m.add ((a).toNat*10))=some (.int .i64 ((rd_T64 ((rd_T32 l0 0).f1) a).f0))∧w'.cell? ⟨(m.add ((a).toNat*10)).block,(m.add ((a).toNat*10)).off+1,none⟩=some (.int .i64 ((rd_T64 ((rd_T32 l0 0).f1) a).f1))∧w'.cell? ⟨(m.add ((a).toNat*10)).block,(m.add ((a).toNat*10)).off+2,none⟩=some (.string ((rd_T64 ((rd_T32 l0 0).f1) a).f2))∧w'.cell? ⟨(m.add ((a).toNat*10)).block,(m.add ((a).toNat*10)).off+3,none⟩=some (.int .i64 ((rd_T64 ((rd_T32 l0 0).f1) a).f3))∧w'.cell? ⟨(m.add ((a).toNat*10)).block,(m.add ((a).toNat*10)).off+4,none⟩=some (.slice aN ((rd_T64 ((rd_T32 l0 0).f1) a).f4).length aQ)∧w'.cell? ⟨(m.add ((a).toNat*10)).block,(m.add ((a).toNat*10)).off+5,none⟩=some (.slice aI ((rd_T64 ((rd_T32 l0 0).f1) a).f5).length aJ)∧w'.cell? ⟨(m.add ((a).toNat*10)).block,(m.add ((a).toNat*10)).off+6,none⟩=some (.int .i64 ((rd_T64 ((rd_T32 l0 0).f1) a).f6.f0))∧w'.cell? ⟨(m.add ((a).toNat*10)).block,(m.add ((a).toNat*10)).off+7,none⟩=some (.int .i64 ((rd_T64 ((rd_T32 l0 0).f1) a).f6.f1))∧w'.cell? ⟨(m.add ((a).toNat*10)).block,(m.add ((a).toNat*10)).off+8,none⟩=some (.string ((rd_T64 ((rd_T32 l0 0).f1) a).f6.f2))∧w'.cell? ⟨(m.add ((a).toNat*10)).block,(m.add ((a).toNat*10)).off+9,none⟩=some (.int .i64 ((rd_T64 ((rd_T32 l0 0).f1) a).f6.f3)))∧(Kd.S k64 64 w' w.heap.size (fun q=>q≠s_) J ar)∧(Kd.R (Kd.int .i64) 2 w' w.heap.size (fun _=>True) (.slice (some aM) B.length av) B)∧(w'.heap[O]?=some (.cells #[.int .i64 aw,.slice none 0 0] 32 (0,0)))∧(w'.heap[U]?=some (.cells #[.int .i64 W,J] 32 (0,0)))∧(w'.heap[s_]?=some (.cells #[.int .i64 0,.int .i64 0,.string (⟨#[]⟩:ByteArray),.int .i64 0,.slice none 0 0,.slice none 0 0,.int .i64 0,.int .i64 0,.string (⟨#[]⟩:ByteArray),.int .i64 0] 64 (0,0)))∧(w.heap.size≤s_)∧(w.heap.size≤s_)∧(O≠s_)∧(s_≠O)∧(U≠s_)∧(s_≠U)∧(Below w.heap.size w w')) ?_ ?_
 rotate_left
 ·(
 intro hCont
 refine two_ (i:=9) (j:=12) (Ni:=some 31) (Nj:=some 9) (bN 14 1023) (bN 14 4607) rfl rfl rfl rfl (two_of P.out (by kernel_rfl)) (by decide) (by decide) (fun K hK=>?_) (fun K hK=>?_)
 ·(
 skip
 refine goes_ Try.func68 (by kernel_rfl) rfl #[.pointer (some ax),.int .i64 (rd B y)] (by rfl) rfl rfl (by(try simp only[List.map_toArray,List.map_cons,List.map_nil]);first|done|rfl|(simp only[List.length_drop,List.length_take];rfl)) ?_
 with_reducible refine(spec_l07Find.calls k1 _ l0 (rd B y) a _ ?side1 bB.out).mono ?_
 (case side1=>exact sD (zC aZ.out HB.out))
 rintro e w' ⟨rfl,⟨nd,rfl⟩⟩
 refine⟨_,rfl,?_⟩
 refine hK.out _ _ ⟨((HB.out.cell (zL w _ ab)).trans ab),((HB.out.cell (zL w _ aa)).trans aa),hHeld.2.2.1,((HB.out.cell (zL w _ ao)).trans ao),((HB.out.cell (zL w _ an)).trans an),((HB.out.cell (zL w _ am)).trans am),((HB.out.cell (zL w _ al)).trans al),((HB.out.cell (zL w _ ak)).trans ak),((HB.out.cell (zL w _ aj)).trans aj),((HB.out.cell (zL w _ ai)).trans ai),((HB.out.cell (zL w _ ah)).trans ah),((HB.out.cell (zL w _ ag)).trans ag),((HB.out.cell (zL w _ af)).trans af)⟩ (fun hHeld=>?_)
 clear hK K
 refine norm_ (a':=?_) ?_ ?_
 rotate_left
 ·(
 show Act.put _ (some 31) _=_
 simp only[zP,i64_w,i32_w]
 rfl)
 refine pure_ (i:=10) (N:=some 32) (v:=?_) (a':=?_) (bN 14 2047) rfl rfl (any_of P.out (by kernel_rfl)) (fun _ _ _ h=>h) (Or.inl ⟨by rfl,?_⟩) ?_ ?_
 rotate_left
 ·(
 intro w'
 go_simp
 with_reducible rfl)
 rotate_left
 ·(
 simp only[zP,i64_w,i32_w]
 rfl)
 refine take_ (i:=11) (N:=some 33) (v:=?_) (a':=?_) (bN 14 4095) rfl rfl (take_ofW P.out bg.out (by kernel_rfl)) (fun _ _ _ h=>h) (Or.inl ⟨by rfl,?_⟩) hHeld ?_ ?_
 rotate_left
 ·(
 rintro w' ⟨s0,s1,s2,s3,s4,s5,s6,s7,s8,s9,bp,bq,br⟩
 go_simp
 with_reducible rfl)
 rotate_left
 ·(
 simp only[zP,i64_w,i32_w]
 rfl)
 refine one_ (i:=12) (N:=some 9) (bN 14 8191) rfl rfl (one_of P.out (by kernel_rfl)) (by decide) (fun K hK=>?_)
 refine box_step ?hg (N:=9) ?hd (cs:= #[.int .i64 0,.int .i64 0,.string (⟨#[]⟩:ByteArray),.int .i64 0,.slice none 0 0,.slice none 0 0,.int .i64 0,.int .i64 0,.string (⟨#[]⟩:ByteArray),.int .i64 0]) (t:=64) ?hr ?_;(case hd=>rfl);(case hg=>rfl);(case hr=>first|(go_simp;done)|(go_simp;rfl))
 intro d hg ck hbox hb
 have bs:=(hb.cell (zL _ _ (hHeld.2.2.1))).trans (hHeld.2.2.1)
 replace x:=zM (Kd.R_below (sE x.out) hb)
 replace z:=zM (Kd.S_below (Kd.S_elderB (sI z.out) d (Nat.le_of_eq hg.symm)) hb)
 have l:=zM (hbox)
 have r:=sG HB hg
 have aq:=sG HB hg
 replace HB:=sB HB hb
 have D:=sN s hg
 have ac:=sM s hg
 replace s:=sK s hb
 have E:=sN u hg
 have ad:=sM u hg
 replace u:=sK u hb
 clear hb hbox hg
 refine hK.out _ _ ⟨((HB.out.cell (zL w _ ab)).trans ab),((HB.out.cell (zL w _ aa)).trans aa),bs,((HB.out.cell (zL w _ ao)).trans ao),((HB.out.cell (zL w _ an)).trans an),((HB.out.cell (zL w _ am)).trans am),((HB.out.cell (zL w _ al)).trans al),((HB.out.cell (zL w _ ak)).trans ak),((HB.out.cell (zL w _ aj)).trans aj),((HB.out.cell (zL w _ ai)).trans ai),((HB.out.cell (zL w _ ah)).trans ah),((HB.out.cell (zL w _ ag)).trans ag),((HB.out.cell (zL w _ af)).trans af)⟩ (fun hHeld=>?_)
 clear hK K
 refine norm_ (a':=?_) ?_ ?_
 rotate_left
 ·(
 show Act.put _ (some 9) _=_
 simp only[zP,i64_w,i32_w]
 rfl)
 exact norm_ (by simp only[putAll,Act.put,List.setIfInBounds_toArray,List.set_cons_zero,List.set_cons_succ]) (hCont (d) _ ⟨hHeld,(by(with_reducible repeat(first|apply Kd.S_alloc|apply Kd.S_drewN|apply Kd.S_drew));exact Kd.S_mono z.out (fun _ hk=>hk.2)),(sE x.out),(sT s.out),(sT u.out),(sT l.out),r.out,aq.out,D.out,ac.out,E.out,ad.out,zzR⟩))
 ·(
 skip
 refine box_step ?hg (N:=9) ?hd (cs:= #[.int .i64 0,.int .i64 0,.string (⟨#[]⟩:ByteArray),.int .i64 0,.slice none 0 0,.slice none 0 0,.int .i64 0,.int .i64 0,.string (⟨#[]⟩:ByteArray),.int .i64 0]) (t:=64) ?hr ?_;(case hd=>rfl);(case hg=>rfl);(case hr=>first|(go_simp;done)|(go_simp;rfl))
 intro d hg ck hbox hb
 have bs:=(hb.cell (zL _ _ (hHeld.2.2.1))).trans (hHeld.2.2.1)
 replace x:=zM (Kd.R_below (sE x.out) hb)
 replace z:=zM (Kd.S_below (Kd.S_elderB (sI z.out) d (Nat.le_of_eq hg.symm)) hb)
 have l:=zM (hbox)
 have r:=sG HB hg
 have aq:=sG HB hg
 replace HB:=sB HB hb
 have D:=sN s hg
 have ac:=sM s hg
 replace s:=sK s hb
 have E:=sN u hg
 have ad:=sM u hg
 replace u:=sK u hb
 clear hb hbox hg
 refine hK.out _ _ ⟨((HB.out.cell (zL w _ ab)).trans ab),((HB.out.cell (zL w _ aa)).trans aa),bs,((HB.out.cell (zL w _ ao)).trans ao),((HB.out.cell (zL w _ an)).trans an),((HB.out.cell (zL w _ am)).trans am),((HB.out.cell (zL w _ al)).trans al),((HB.out.cell (zL w _ ak)).trans ak),((HB.out.cell (zL w _ aj)).trans aj),((HB.out.cell (zL w _ ai)).trans ai),((HB.out.cell (zL w _ ah)).trans ah),((HB.out.cell (zL w _ ag)).trans ag),((HB.out.cell (zL w _ af)).trans af)⟩ (fun hHeld=>?_)
 clear hK K
 refine norm_ (a':=?_) ?_ ?_
 rotate_left
 ·(
 show Act.put _ (some 9) _=_
 simp only[zP,i64_w,i32_w]
 rfl)
 refine one_ (i:=9) (N:=some 31) (bN 14 5119) rfl rfl (one_of P.out (by kernel_rfl)) (by decide) (fun K hK=>?_)
 refine goes_ Try.func68 (by kernel_rfl) rfl #[.pointer (some ax),.int .i64 (rd B y)] (by rfl) rfl rfl (by(try simp only[List.map_toArray,List.map_cons,List.map_nil]);first|done|rfl|(simp only[List.length_drop,List.length_take];rfl)) ?_
 with_reducible refine(spec_l07Find.calls k1 _ l0 (rd B y) a _ ?side1 bB.out).mono ?_
 (case side1=>exact sD (zC aZ.out HB.out))
 rintro e w' ⟨rfl,⟨nd,rfl⟩⟩
 refine⟨_,rfl,?_⟩
 refine hK.out _ _ ⟨((HB.out.cell (zL w _ ab)).trans ab),((HB.out.cell (zL w _ aa)).trans aa),hHeld.2.2.1,((HB.out.cell (zL w _ ao)).trans ao),((HB.out.cell (zL w _ an)).trans an),((HB.out.cell (zL w _ am)).trans am),((HB.out.cell (zL w _ al)).trans al),((HB.out.cell (zL w _ ak)).trans ak),((HB.out.cell (zL w _ aj)).trans aj),((HB.out.cell (zL w _ ai)).trans ai),((HB.out.cell (zL w _ ah)).trans ah),((HB.out.cell (zL w _ ag)).trans ag),((HB.out.cell (zL w _ af)).trans af)⟩ (fun hHeld=>?_)
 clear hK K
 refine norm_ (a':=?_) ?_ ?_
 rotate_left
 ·(
 show Act.put _ (some 31) _=_
 simp only[zP,i64_w,i32_w]
 rfl)
 refine pure_ (i:=10) (N:=some 32) (v:=?_) (a':=?_) (bN 14 6143) rfl rfl (any_of P.out (by kernel_rfl)) (fun _ _ _ h=>h) (Or.inl ⟨by rfl,?_⟩) ?_ ?_
 rotate_left
 ·(
 intro w'
 go_simp
 with_reducible rfl)
 rotate_left
 ·(
 simp only[zP,i64_w,i32_w]
 rfl)
 refine take_ (i:=11) (N:=some 33) (v:=?_) (a':=?_) (bN 14 8191) rfl rfl (take_ofW P.out bg.out (by kernel_rfl)) (fun _ _ _ h=>h) (Or.inl ⟨by rfl,?_⟩) hHeld ?_ ?_
 rotate_left
 ·(
 rintro w' ⟨s0,s1,s2,s3,s4,s5,s6,s7,s8,s9,bp,bq,br⟩
 go_simp
 with_reducible rfl)
 rotate_left
 ·(
 simp only[zP,i64_w,i32_w]
 rfl)
 exact norm_ (by simp only[putAll,Act.put,List.setIfInBounds_toArray,List.set_cons_zero,List.set_cons_succ]) (hCont (d) _ ⟨hHeld,(by(with_reducible repeat(first|apply Kd.S_alloc|apply Kd.S_drewN|apply Kd.S_drew));exact Kd.S_mono z.out (fun _ hk=>hk.2)),(sE x.out),(sT s.out),(sT u.out),(sT l.out),r.out,aq.out,D.out,ac.out,E.out,ad.out,zzR⟩)))
 rintro d F ⟨cl,bO,bP,bQ,bR,bS,bT,bU,bV,bW,bX,bY,bZ⟩
 replace z:Aside0 (Kd.S k64 64 F w.heap.size (fun q=>q≠d) J ar):=⟨bO⟩
 replace x:Aside0 (Kd.R (Kd.int .i64) 2 F w.heap.size (fun _=>True) (.slice (some aM) B.length av) B):=⟨bP⟩
 replace s:Aside0 (F.heap[O]?=some (.cells #[.int .i64 aw,.slice none 0 0] 32 (0,0))):=⟨bQ⟩
 replace u:Aside0 (F.heap[U]?=some (.cells #[.int .i64 W,J] 32 (0,0))):=⟨bR⟩
 have l:Aside0 (F.heap[d]?=some (.cells #[.int .i64 0,.int .i64 0,.string (⟨#[]⟩:ByteArray),.int .i64 0,.slice none 0 0,.slice none 0 0,.int .i64 0,.int .i64 0,.string (⟨#[]⟩:ByteArray),.int .i64 0] 64 (0,0))):=⟨bS⟩
 have r:Aside0 (w.heap.size≤d):=⟨bT⟩
 have aq:Aside0 (w.heap.size≤d):=⟨bU⟩
 have D:Aside0 (O≠d):=⟨bV⟩
 have ac:Aside0 (d≠O):=⟨bW⟩
 have E:Aside0 (U≠d):=⟨bX⟩
 have ad:Aside0 (d≠U):=⟨bY⟩
 replace HB:Aside0 (Below w.heap.size w F):=⟨bZ⟩
 clear bO bP bQ bR bS bT bU bV bW bX bY bZ
 have hHeld:F.cell? ax=some (.int .i64 ((rd_T32 l0 0).f0))∧F.cell? ⟨ax.block,ax.off+1,none⟩=some (.slice (some m) ((rd_T32 l0 0).f1).length bk)∧F.cell? (aM.add (y).toNat)=some (.int .i64 (rd B y))∧F.cell? (m.add ((a).toNat*10))=some (.int .i64 ((rd_T64 ((rd_T32 l0 0).f1) a).f0))∧F.cell? ⟨(m.add ((a).toNat*10)).block,(m.add ((a).toNat*10)).off+1,none⟩=some (.int .i64 ((rd_T64 ((rd_T32 l0 0).f1) a).f1))∧F.cell? ⟨(m.add ((a).toNat*10)).block,(m.add ((a).toNat*10)).off+2,none⟩=some (.string ((rd_T64 ((rd_T32 l0 0).f1) a).f2))∧F.cell? ⟨(m.add ((a).toNat*10)).block,(m.add ((a).toNat*10)).off+3,none⟩=some (.int .i64 ((rd_T64 ((rd_T32 l0 0).f1) a).f3))∧F.cell? ⟨(m.add ((a).toNat*10)).block,(m.add ((a).toNat*10)).off+4,none⟩=some (.slice aN ((rd_T64 ((rd_T32 l0 0).f1) a).f4).length aQ)∧F.cell? ⟨(m.add ((a).toNat*10)).block,(m.add ((a).toNat*10)).off+5,none⟩=some (.slice aI ((rd_T64 ((rd_T32 l0 0).f1) a).f5).length aJ)∧F.cell? ⟨(m.add ((a).toNat*10)).block,(m.add ((a).toNat*10)).off+6,none⟩=some (.int .i64 ((rd_T64 ((rd_T32 l0 0).f1) a).f6.f0))∧F.cell? ⟨(m.add ((a).toNat*10)).block,(m.add ((a).toNat*10)).off+7,none⟩=some (.int .i64 ((rd_T64 ((rd_T32 l0 0).f1) a).f6.f1))∧F.cell? ⟨(m.add ((a).toNat*10)).block,(m.add ((a).toNat*10)).off+8,none⟩=some (.string ((rd_T64 ((rd_T32 l0 0).f1) a).f6.f2))∧F.cell? ⟨(m.add ((a).toNat*10)).block,(m.add ((a).toNat*10)).off+9,none⟩=some (.int .i64 ((rd_T64 ((rd_T32 l0 0).f1) a).f6.f3)):=cl
 refine norm_ (a':=?_) ?_ ?_
 rotate_left
 ·(
 simp only[putAll,Act.put,List.setIfInBounds_toArray,List.set_cons_zero,List.set_cons_succ]
 rfl)
 refine one_ (i:=13) (N:=none) (bN 14 16383) rfl rfl (one_of P.out (by kernel_rfl)) (by decide) (fun K hK=>?_)
 have cM:F.cell? ⟨d,0,none⟩=some (.int .i64 0):=(blk_cell l.out 0).trans rfl
 have cN:=blk_frozen l.out 0
 have cO:=D.out
 have cP:=E.out
 have cQ:=ac.out
 have cR:=ad.out
 have cS:F.cell? ⟨d,1,none⟩=some (.int .i64 0):=(blk_cell l.out 1).trans rfl
 have cT:=blk_frozen l.out 1
 have cU:=D.out
 have cV:=E.out
 have cW:=ac.out
 have cX:=ad.out
 have cY:F.cell? ⟨d,2,none⟩=some (.string (⟨#[]⟩:ByteArray)):=(blk_cell l.out 2).trans rfl
 have cZ:=blk_frozen l.out 2
 have c0:=D.out
 have c2:=E.out
 have c3:=ac.out
 have c4:=ad.out
 have c5:F.cell? ⟨d,3,none⟩=some (.int .i64 0):=(blk_cell l.out 3).trans rfl
 have c6:=blk_frozen l.out 3
 have c7:=D.out
 have c8:=E.out
 have c9:=ac.out
 have da:=ad.out
 have db:F.cell? ⟨d,4,none⟩=some (.slice none 0 0):=(blk_cell l.out 4).trans rfl
 have dc:=blk_frozen l.out 4
 have dd:=D.out
 have de:=E.out
 have df:=ac.out
 have dg:=ad.out
 have dh:F.cell? ⟨d,5,none⟩=some (.slice none 0 0):=(blk_cell l.out 5).trans rfl
 have di:=blk_frozen l.out 5
 have dj:=D.out
 have dk:=E.out
 have dl:=ac.out
 have dm:=ad.out
 have dn:F.cell? ⟨d,6,none⟩=some (.int .i64 0):=(blk_cell l.out 6).trans rfl
 have dp:=blk_frozen l.out 6
 have dq:=D.out
 have dr:=E.out
 have dt:=ac.out
 have du:=ad.out
 have dv:F.cell? ⟨d,7,none⟩=some (.int .i64 0):=(blk_cell l.out 7).trans rfl
 have dw:=blk_frozen l.out 7
 have dx:=D.out
 have dy:=E.out
 have dz:=ac.out
 have dA:=ad.out
 have dB:F.cell? ⟨d,8,none⟩=some (.string (⟨#[]⟩:ByteArray)):=(blk_cell l.out 8).trans rfl
 have dC:=blk_frozen l.out 8
 have dD:=D.out
 have dE:=E.out
 have dF:=ac.out
 have dG:=ad.out
 have dH:F.cell? ⟨d,9,none⟩=some (.int .i64 0):=(blk_cell l.out 9).trans rfl
 have dI:=blk_frozen l.out 9
 have dJ:=D.out
 have dK:=E.out
 have dL:=ac.out
 have dM:=ad.out
 refine skip_ (w1:=?_) (by rfl) rfl ?_ ?_
 rotate_left
 ·(
 go_simp
 rfl)
 refine hK.out _ _ ⟨(sQ10 (g:=d) (by first|exact zzU ab r.out|(rw[add_block];exact zzU ab r.out)|(show(Addr.add _ _).block≠_;rw[add_block];exact zzU ab r.out)|(dsimp only;exact zzU ab r.out)) (hHeld.1)),(sQ10 (g:=d) (by first|exact zzU aa r.out|(rw[add_block];exact zzU aa r.out)|(show(Addr.add _ _).block≠_;rw[add_block];exact zzU aa r.out)|(dsimp only;exact zzU aa r.out)) (hHeld.2.1)),(sQ10 (g:=d) (by first|exact Kd.own_blk (Kd.R_ne x.out l.out (by decide))|(rw[add_block];exact Kd.own_blk (Kd.R_ne x.out l.out (by decide)))|(show(Addr.add _ _).block≠_;rw[add_block];exact Kd.own_blk (Kd.R_ne x.out l.out (by decide)))|(dsimp only;exact Kd.own_blk (Kd.R_ne x.out l.out (by decide)))) (hHeld.2.2.1)),(sQ10 (g:=d) (by first|exact zzU ao r.out|(rw[add_block];exact zzU ao r.out)|(show(Addr.add _ _).block≠_;rw[add_block];exact zzU ao r.out)|(dsimp only;exact zzU ao r.out)) (hHeld.2.2.2.1)),(sQ10 (g:=d) (by first|exact zzU an r.out|(rw[add_block];exact zzU an r.out)|(show(Addr.add _ _).block≠_;rw[add_block];exact zzU an r.out)|(dsimp only;exact zzU an r.out)) (hHeld.2.2.2.2.1)),(sQ10 (g:=d) (by first|exact zzU am r.out|(rw[add_block];exact zzU am r.out)|(show(Addr.add _ _).block≠_;rw[add_block];exact zzU am r.out)|(dsimp only;exact zzU am r.out)) (hHeld.2.2.2.2.2.1)),(sQ10 (g:=d) (by first|exact zzU al r.out|(rw[add_block];exact zzU al r.out)|(show(Addr.add _ _).block≠_;rw[add_block];exact zzU al r.out)|(dsimp only;exact zzU al r.out)) (hHeld.2.2.2.2.2.2.1)),(sQ10 (g:=d) (by first|exact zzU ak r.out|(rw[add_block];exact zzU ak r.out)|(show(Addr.add _ _).block≠_;rw[add_block];exact zzU ak r.out)|(dsimp only;exact zzU ak r.out)) (hHeld.2.2.2.2.2.2.2.1)),(sQ10 (g:=d) (by first|exact zzU aj r.out|(rw[add_block];exact zzU aj r.out)|(show(Addr.add _ _).block≠_;rw[add_block];exact zzU aj r.out)|(dsimp only;exact zzU aj r.out)) (hHeld.2.2.2.2.2.2.2.2.1)),(sQ10 (g:=d) (by first|exact zzU ai r.out|(rw[add_block];exact zzU ai r.out)|(show(Addr.add _ _).block≠_;rw[add_block];exact zzU ai r.out)|(dsimp only;exact zzU ai r.out)) (hHeld.2.2.2.2.2.2.2.2.2.1)),(sQ10 (g:=d) (by first|exact zzU ah r.out|(rw[add_block];exact zzU ah r.out)|(show(Addr.add _ _).block≠_;rw[add_block];exact zzU ah r.out)|(dsimp only;exact zzU ah r.out)) (hHeld.2.2.2.2.2.2.2.2.2.2.1)),(sQ10 (g:=d) (by first|exact zzU ag r.out|(rw[add_block];exact zzU ag r.out)|(show(Addr.add _ _).block≠_;rw[add_block];exact zzU ag r.out)|(dsimp only;exact zzU ag r.out)) (hHeld.2.2.2.2.2.2.2.2.2.2.2.1)),(sQ10 (g:=d) (by first|exact zzU af r.out|(rw[add_block];exact zzU af r.out)|(show(Addr.add _ _).block≠_;rw[add_block];exact zzU af r.out)|(dsimp only;exact zzU af r.out)) (hHeld.2.2.2.2.2.2.2.2.2.2.2.2))⟩ (fun hHeld=>?_)
 clear hK K
 refine done_ (done_of P.out (by kernel_rfl)) ?_
 have dN:=ac.out
 have dO:=D.out
 have dP:=ad.out
 have dQ:=E.out
 obtain⟨dR,dS,dT,dU,dV,dW,dX,dY,dZ,d0,d1,d2,d3,d4,d5,d6,d7,d8,d9,ea⟩:=cells10 l.out
 try go_wp2_with (first|((with_reducible refine gate_callee (f:=79) rfl ?_);refine sC (some 40) Try.func79 #[.slice (some aM) B.length av,.slice aN ((rd_T64 ((rd_T32 l0 0).f1) a).f4).length aQ] (spec_l08MoveAll.calls k1 _ _ B _ _ ((rd_T64 ((rd_T32 l0 0).f1) a).f4) G _ ?side1 ?side2 ?side3 ?side4 ca.out) ?_;(case side1=>refine(Kd.R_reads' (e:=2) (base:=w.heap.size) (ok:=fun q=>True) (n:=B.length) (c:=av) ?_).2.2;exact(by(with_reducible repeat(first|apply Kd.R_alloc|apply Kd.R_drewN|apply Kd.R_drew));exact(Kd.R_mono (Kd.R_far (p:=⟨d,0,none⟩) (sRF10 (g:=d) (Kd.R_types x.out l.out (by decide)) (fun _ hk=>hk.2)) (fun _ hk=>hk.2) (.int .i64 (wrap64 (y+1)))) (fun _ A=>A.1))));(case side2=>exact(Kd.R_reads' x.out).2.1);(case side3=>exact zC bL.out zzR);(case side4=>exact ci.out);rintro e eb ⟨ec,rfl,Y,hb⟩;refine⟨_,rfl,?_⟩;have ay:=zM (Kd.R_below (by(with_reducible repeat(first|apply Kd.R_alloc|apply Kd.R_drewN|apply Kd.R_drew));exact(Kd.R_mono (Kd.R_far (p:=⟨d,0,none⟩) (sRF10 (g:=d) (Kd.R_types x.out l.out (by decide)) (fun _ hk=>hk.2)) (fun _ hk=>hk.2) (.int .i64 (wrap64 (y+1)))) (fun _ A=>A.1))) hb);have az:=zM (Kd.S_elder' (by(with_reducible repeat(first|apply Kd.S_alloc|apply Kd.S_drewN|apply Kd.S_drew));exact(Kd.S_mono (Kd.S_far (p:=⟨d,0,none⟩) (sSF10 (g:=d) (Kd.S_mono z.out (fun q hk=>(⟨hk,hk⟩:_∧q≠d))) (fun _ hk=>hk.2)) (fun _ hk=>hk.2) (.int .i64 (wrap64 (y+1)))) (fun _ A=>A.1))) (Kd.R_base Y) hb);have aA:=zM (Kd.R_lower Y (below_size zzR));have aC:=zM (blk_below (g:=O) (o:= .cells #[.int .i64 aw,.slice none 0 0] 32 (0,0)) (by(with_reducible repeat(first|refine blk_drewN ?_ _|refine blk_drew ?_|refine blk_alloc ?_ _));refine blk_far ?_ D.out _;(with_reducible repeat(first|refine blk_drewN ?_ _|refine blk_drew ?_|refine blk_alloc ?_ _));refine blk_far ?_ D.out _;(with_reducible repeat(first|refine blk_drewN ?_ _|refine blk_drew ?_|refine blk_alloc ?_ _));refine blk_far ?_ D.out _;(with_reducible repeat(first|refine blk_drewN ?_ _|refine blk_drew ?_|refine blk_alloc ?_ _));refine blk_far ?_ D.out _;(with_reducible repeat(first|refine blk_drewN ?_ _|refine blk_drew ?_|refine blk_alloc ?_ _));refine blk_far ?_ D.out _;(with_reducible repeat(first|refine blk_drewN ?_ _|refine blk_drew ?_|refine blk_alloc ?_ _));refine blk_far ?_ D.out _;(with_reducible repeat(first|refine blk_drewN ?_ _|refine blk_drew ?_|refine blk_alloc ?_ _));refine blk_far ?_ D.out _;(with_reducible repeat(first|refine blk_drewN ?_ _|refine blk_drew ?_|refine blk_alloc ?_ _));refine blk_far ?_ D.out _;(with_reducible repeat(first|refine blk_drewN ?_ _|refine blk_drew ?_|refine blk_alloc ?_ _));refine blk_far ?_ D.out _;(with_reducible repeat(first|refine blk_drewN ?_ _|refine blk_drew ?_|refine blk_alloc ?_ _));refine blk_far ?_ D.out _;(with_reducible repeat(first|refine blk_drewN ?_ _|refine blk_drew ?_|refine blk_alloc ?_ _));refine blk_far ?_ D.out _;exact sT s.out) hb);have aD:=zM (blk_below (g:=U) (o:= .cells #[.int .i64 W,J] 32 (0,0)) (by(with_reducible repeat(first|refine blk_drewN ?_ _|refine blk_drew ?_|refine blk_alloc ?_ _));refine blk_far ?_ E.out _;(with_reducible repeat(first|refine blk_drewN ?_ _|refine blk_drew ?_|refine blk_alloc ?_ _));refine blk_far ?_ E.out _;(with_reducible repeat(first|refine blk_drewN ?_ _|refine blk_drew ?_|refine blk_alloc ?_ _));refine blk_far ?_ E.out _;(with_reducible repeat(first|refine blk_drewN ?_ _|refine blk_drew ?_|refine blk_alloc ?_ _));refine blk_far ?_ E.out _;(with_reducible repeat(first|refine blk_drewN ?_ _|refine blk_drew ?_|refine blk_alloc ?_ _));refine blk_far ?_ E.out _;(with_reducible repeat(first|refine blk_drewN ?_ _|refine blk_drew ?_|refine blk_alloc ?_ _));refine blk_far ?_ E.out _;(with_reducible repeat(first|refine blk_drewN ?_ _|refine blk_drew ?_|refine blk_alloc ?_ _));refine blk_far ?_ E.out _;(with_reducible repeat(first|refine blk_drewN ?_ _|refine blk_drew ?_|refine blk_alloc ?_ _));refine blk_far ?_ E.out _;(with_reducible repeat(first|refine blk_drewN ?_ _|refine blk_drew ?_|refine blk_alloc ?_ _));refine blk_far ?_ E.out _;(with_reducible repeat(first|refine blk_drewN ?_ _|refine blk_drew ?_|refine blk_alloc ?_ _));refine blk_far ?_ E.out _;(with_reducible repeat(first|refine blk_drewN ?_ _|refine blk_drew ?_|refine blk_alloc ?_ _));refine blk_far ?_ E.out _;exact sT u.out) hb);have aE:=zM (blk_below (g:=d) (o:= .cells #[.int .i64 (wrap64 (y+1)),.int .i64 ((rd_T64 ((rd_T32 l0 0).f1) a).f1),.string ((rd_T64 ((rd_T32 l0 0).f1) a).f2),.int .i64 ((rd_T64 ((rd_T32 l0 0).f1) a).f3),.slice aN ((rd_T64 ((rd_T32 l0 0).f1) a).f4).length aQ,.slice aI ((rd_T64 ((rd_T32 l0 0).f1) a).f5).length aJ,.int .i64 ((rd_T64 ((rd_T32 l0 0).f1) a).f6.f0),.int .i64 ((rd_T64 ((rd_T32 l0 0).f1) a).f6.f1),.string ((rd_T64 ((rd_T32 l0 0).f1) a).f6.f2),.int .i64 ((rd_T64 ((rd_T32 l0 0).f1) a).f6.f3)] 64 (0,0)) (by(with_reducible repeat(first|refine blk_drewN ?_ _|refine blk_drew ?_|refine blk_alloc ?_ _));refine blk_put (cs:= #[.int .i64 ((rd_T64 ((rd_T32 l0 0).f1) a).f0),.int .i64 ((rd_T64 ((rd_T32 l0 0).f1) a).f1),.string ((rd_T64 ((rd_T32 l0 0).f1) a).f2),.int .i64 ((rd_T64 ((rd_T32 l0 0).f1) a).f3),.slice aN ((rd_T64 ((rd_T32 l0 0).f1) a).f4).length aQ,.slice aI ((rd_T64 ((rd_T32 l0 0).f1) a).f5).length aJ,.int .i64 ((rd_T64 ((rd_T32 l0 0).f1) a).f6.f0),.int .i64 ((rd_T64 ((rd_T32 l0 0).f1) a).f6.f1),.string ((rd_T64 ((rd_T32 l0 0).f1) a).f6.f2),.int .i64 ((rd_T64 ((rd_T32 l0 0).f1) a).f6.f3)]) ?_ 0 _ rfl;exact sP10 (sT l.out)) hb);have aG:=sB HB hb;clear x;clear z;clear s;clear u;clear l;clear HB;have x:=ay;have z:=az;have ap:=aA;have s:=aC;have u:=aD;have l:=aE;have HB:=aG;clear ay az aA aC aD aE aG;(try clear hb);(try clear hk);(try clear Y);obtain⟨L,M,cm⟩:=Kd.R_slice ap.out;subst cm;obtain⟨ed,ee,ef,eg,eh,ei,ej,ek,el,em,en,eo,ep,er,es,et,eu,ev,ew,ex⟩:=cells10 l.out)|((with_reducible refine gate_callee (f:=79) rfl ?_);refine sC (some 45) Try.func79 #[.slice (some aM) B.length av,.slice aI ((rd_T64 ((rd_T32 l0 0).f1) a).f5).length aJ] (spec_l08MoveAll.calls k1 _ _ B _ _ ((rd_T64 ((rd_T32 l0 0).f1) a).f5) I _ ?side1 ?side2 ?side3 ?side4 cb.out) ?_;(case side1=>refine(Kd.R_reads' (e:=2) (base:=w.heap.size) (ok:=fun q=>True) (n:=B.length) (c:=av) ?_).2.2;exact(by(with_reducible repeat(first|apply Kd.R_alloc|apply Kd.R_drewN|apply Kd.R_drew));exact(Kd.R_mono (Kd.R_far (p:=⟨d,4,none⟩) (Kd.R_types x.out l.out (by decide)) (fun _ hk=>hk.2) (.slice L G.length M)) (fun _ A=>A.1))));(case side2=>exact(Kd.R_reads' x.out).2.1);(case side3=>exact zC bM.out zzR);(case side4=>exact cj.out);rintro e ey ⟨ez,rfl,Y,hb⟩;refine⟨_,rfl,?_⟩;have ay:=zM (Kd.R_below (by(with_reducible repeat(first|apply Kd.R_alloc|apply Kd.R_drewN|apply Kd.R_drew));exact(Kd.R_mono (Kd.R_far (p:=⟨d,4,none⟩) (Kd.R_types x.out l.out (by decide)) (fun _ hk=>hk.2) (.slice L G.length M)) (fun _ A=>A.1))) hb);have az:=zM (Kd.S_elder' (by(with_reducible repeat(first|apply Kd.S_alloc|apply Kd.S_drewN|apply Kd.S_drew));exact(Kd.S_mono (Kd.S_far (p:=⟨d,4,none⟩) (Kd.S_mono z.out (fun q hk=>(⟨hk,hk.1⟩:_∧q≠d))) (fun _ hk=>hk.2) (.slice L G.length M)) (fun _ A=>A.1))) (Kd.R_base Y) hb);have aA:=zM (Kd.R_elder' (by(with_reducible repeat(first|apply Kd.R_alloc|apply Kd.R_drewN|apply Kd.R_drew));exact(Kd.R_mono (Kd.R_far (p:=⟨d,4,none⟩) (Kd.R_types ap.out l.out (by decide)) (fun _ hk=>hk.2) (.slice L G.length M)) (fun _ A=>A.1))) (Kd.R_base Y) hb);have aC:=zM (Kd.R_lower (Kd.R_new' Y (Kd.R_lt (by(with_reducible repeat(first|apply Kd.R_alloc|apply Kd.R_drewN|apply Kd.R_drew));exact(Kd.R_mono (Kd.R_far (p:=⟨d,4,none⟩) (Kd.R_types ap.out l.out (by decide)) (fun _ hk=>hk.2) (.slice L G.length M)) (fun _ A=>A.1))))) (below_size zzR));have aD:=zM (blk_below (g:=O) (o:= .cells #[.int .i64 aw,.slice none 0 0] 32 (0,0)) (by(with_reducible repeat(first|refine blk_drewN ?_ _|refine blk_drew ?_|refine blk_alloc ?_ _));refine blk_far ?_ D.out _;exact sT s.out) hb);have aE:=zM (blk_below (g:=U) (o:= .cells #[.int .i64 W,J] 32 (0,0)) (by(with_reducible repeat(first|refine blk_drewN ?_ _|refine blk_drew ?_|refine blk_alloc ?_ _));refine blk_far ?_ E.out _;exact sT u.out) hb);have aG:=zM (blk_below (g:=d) (o:= .cells #[.int .i64 (wrap64 (y+1)),.int .i64 ((rd_T64 ((rd_T32 l0 0).f1) a).f1),.string ((rd_T64 ((rd_T32 l0 0).f1) a).f2),.int .i64 ((rd_T64 ((rd_T32 l0 0).f1) a).f3),.slice L G.length M,.slice aI ((rd_T64 ((rd_T32 l0 0).f1) a).f5).length aJ,.int .i64 ((rd_T64 ((rd_T32 l0 0).f1) a).f6.f0),.int .i64 ((rd_T64 ((rd_T32 l0 0).f1) a).f6.f1),.string ((rd_T64 ((rd_T32 l0 0).f1) a).f6.f2),.int .i64 ((rd_T64 ((rd_T32 l0 0).f1) a).f6.f3)] 64 (0,0)) (by(with_reducible repeat(first|refine blk_drewN ?_ _|refine blk_drew ?_|refine blk_alloc ?_ _));refine blk_put (cs:= #[.int .i64 (wrap64 (y+1)),.int .i64 ((rd_T64 ((rd_T32 l0 0).f1) a).f1),.string ((rd_T64 ((rd_T32 l0 0).f1) a).f2),.int .i64 ((rd_T64 ((rd_T32 l0 0).f1) a).f3),.slice aN ((rd_T64 ((rd_T32 l0 0).f1) a).f4).length aQ,.slice aI ((rd_T64 ((rd_T32 l0 0).f1) a).f5).length aJ,.int .i64 ((rd_T64 ((rd_T32 l0 0).f1) a).f6.f0),.int .i64 ((rd_T64 ((rd_T32 l0 0).f1) a).f6.f1),.string ((rd_T64 ((rd_T32 l0 0).f1) a).f6.f2),.int .i64 ((rd_T64 ((rd_T32 l0 0).f1) a).f6.f3)]) ?_ 4 _ rfl;exact sT l.out) hb);have aR:=sB HB hb;clear x;clear z;clear ap;clear s;clear u;clear l;clear HB;have x:=ay;have z:=az;have ap:=aA;have aK:=aC;have s:=aD;have u:=aE;have l:=aG;have HB:=aR;clear ay az aA aC aD aE aG aR;(try clear hb);(try clear hk);(try clear Y);obtain⟨Q,T,cn⟩:=Kd.R_slice aK.out;subst cn;obtain⟨eA,eB,eC,eD,eE,eF,eG,eH,eI,eJ,eK,eL,eM,eN,eO,eP,eQ,eR,eS,eT⟩:=cells10 l.out)|((with_reducible refine gate_callee (f:=80) rfl ?_);refine sC (some 50) Try.func80 #[.slice (some aM) B.length av,.agg #[.int .i64 ((rd_T64 ((rd_T32 l0 0).f1) a).f6.f0),.int .i64 ((rd_T64 ((rd_T32 l0 0).f1) a).f6.f1),.string ((rd_T64 ((rd_T32 l0 0).f1) a).f6.f2),.int .i64 ((rd_T64 ((rd_T32 l0 0).f1) a).f6.f3)]] (spec_l08Move.calls k1 _ _ B ((rd_T64 ((rd_T32 l0 0).f1) a).f6.f0) ((rd_T64 ((rd_T32 l0 0).f1) a).f6.f1) ((rd_T64 ((rd_T32 l0 0).f1) a).f6.f2) ((rd_T64 ((rd_T32 l0 0).f1) a).f6.f3) V X Z ae _ ?side1 ?side2 cc.out) ?_;(case side1=>refine(Kd.R_reads' (e:=2) (base:=w.heap.size) (ok:=fun q=>True) (n:=B.length) (c:=av) ?_).2.2;exact(by(with_reducible repeat(first|apply Kd.R_alloc|apply Kd.R_drewN|apply Kd.R_drew));exact(Kd.R_mono (Kd.R_far (p:=⟨d,5,none⟩) (Kd.R_types x.out l.out (by decide)) (fun _ hk=>hk.2) (.slice Q I.length T)) (fun _ A=>A.1))));(case side2=>exact(Kd.R_reads' x.out).2.1);rintro e co ⟨rfl,hb⟩;refine⟨_,rfl,?_⟩;have ay:=zM (Kd.R_below (by(with_reducible repeat(first|apply Kd.R_alloc|apply Kd.R_drewN|apply Kd.R_drew));exact(Kd.R_mono (Kd.R_far (p:=⟨d,5,none⟩) (Kd.R_types x.out l.out (by decide)) (fun _ hk=>hk.2) (.slice Q I.length T)) (fun _ A=>A.1))) hb);have az:=zM (Kd.S_below (by(with_reducible repeat(first|apply Kd.S_alloc|apply Kd.S_drewN|apply Kd.S_drew));exact(Kd.S_mono (Kd.S_far (p:=⟨d,5,none⟩) (Kd.S_mono z.out (fun q hk=>(⟨hk,hk.1.1⟩:_∧q≠d))) (fun _ hk=>hk.2) (.slice Q I.length T)) (fun _ A=>A.1))) hb);have aA:=zM (Kd.R_below (by(with_reducible repeat(first|apply Kd.R_alloc|apply Kd.R_drewN|apply Kd.R_drew));exact(Kd.R_mono (Kd.R_far (p:=⟨d,5,none⟩) (Kd.R_types ap.out l.out (by decide)) (fun _ hk=>hk.2) (.slice Q I.length T)) (fun _ A=>A.1))) hb);have aC:=zM (Kd.R_below (by(with_reducible repeat(first|apply Kd.R_alloc|apply Kd.R_drewN|apply Kd.R_drew));exact(Kd.R_mono (Kd.R_far (p:=⟨d,5,none⟩) (Kd.R_types aK.out l.out (by decide)) (fun _ hk=>hk.2) (.slice Q I.length T)) (fun _ A=>A.1))) hb);have aD:=zM (blk_below (g:=O) (o:= .cells #[.int .i64 aw,.slice none 0 0] 32 (0,0)) (by(with_reducible repeat(first|refine blk_drewN ?_ _|refine blk_drew ?_|refine blk_alloc ?_ _));refine blk_far ?_ D.out _;exact sT s.out) hb);have aE:=zM (blk_below (g:=U) (o:= .cells #[.int .i64 W,J] 32 (0,0)) (by(with_reducible repeat(first|refine blk_drewN ?_ _|refine blk_drew ?_|refine blk_alloc ?_ _));refine blk_far ?_ E.out _;exact sT u.out) hb);have aG:=zM (blk_below (g:=d) (o:= .cells #[.int .i64 (wrap64 (y+1)),.int .i64 ((rd_T64 ((rd_T32 l0 0).f1) a).f1),.string ((rd_T64 ((rd_T32 l0 0).f1) a).f2),.int .i64 ((rd_T64 ((rd_T32 l0 0).f1) a).f3),.slice L G.length M,.slice Q I.length T,.int .i64 ((rd_T64 ((rd_T32 l0 0).f1) a).f6.f0),.int .i64 ((rd_T64 ((rd_T32 l0 0).f1) a).f6.f1),.string ((rd_T64 ((rd_T32 l0 0).f1) a).f6.f2),.int .i64 ((rd_T64 ((rd_T32 l0 0).f1) a).f6.f3)] 64 (0,0)) (by(with_reducible repeat(first|refine blk_drewN ?_ _|refine blk_drew ?_|refine blk_alloc ?_ _));refine blk_put (cs:= #[.int .i64 (wrap64 (y+1)),.int .i64 ((rd_T64 ((rd_T32 l0 0).f1) a).f1),.string ((rd_T64 ((rd_T32 l0 0).f1) a).f2),.int .i64 ((rd_T64 ((rd_T32 l0 0).f1) a).f3),.slice L G.length M,.slice aI ((rd_T64 ((rd_T32 l0 0).f1) a).f5).length aJ,.int .i64 ((rd_T64 ((rd_T32 l0 0).f1) a).f6.f0),.int .i64 ((rd_T64 ((rd_T32 l0 0).f1) a).f6.f1),.string ((rd_T64 ((rd_T32 l0 0).f1) a).f6.f2),.int .i64 ((rd_T64 ((rd_T32 l0 0).f1) a).f6.f3)]) ?_ 5 _ rfl;exact sT l.out) hb);have aR:=sB HB hb;clear x;clear z;clear ap;clear aK;clear s;clear u;clear l;clear HB;have x:=ay;have z:=az;have ap:=aA;have aK:=aC;have s:=aD;have u:=aE;have l:=aG;have HB:=aR;clear ay az aA aC aD aE aG aR;(try clear hb);(try clear hk);obtain⟨eU,eV,eW,eX,eY,eZ,e0,e1,e2,e3,e4,e5,e6,e7,e8,e9,fa,fb,fc,fd⟩:=cells10 l.out)|((with_reducible refine gate_store (t:=62) (p:=51) rfl ?_);refine store_event (t:=62) (p:=51) (v:=?vo_w44) (w1:=((((co.setCell ⟨d,6,none⟩ (.int .i64 V)).setCell ⟨d,7,none⟩ (.int .i64 X)).setCell ⟨d,8,none⟩ (.string Z)).setCell ⟨d,9,none⟩ (.int .i64 ae))) ?hg ?ho ?hn ?hr ?_;(case ho=>rfl);(case hg=>rfl);(case hn=>rfl);(case hr=>first|(go_simp;done)|(go_simp;rfl));intro aT hw;have ay:Aside0 (Kd.R (Kd.int .i64) 2 aT w.heap.size (fun _=>True) (.slice (some aM) B.length av) B):=⟨(by rw[hw];exact(by(with_reducible repeat(first|apply Kd.R_alloc|apply Kd.R_drewN|apply Kd.R_drew));exact Kd.R_mono (Kd.R_far (p:=⟨d,9,none⟩) (Kd.R_far (p:=⟨d,8,none⟩) (Kd.R_far (p:=⟨d,7,none⟩) (Kd.R_far (p:=⟨d,6,none⟩) (Kd.R_types x.out l.out (by decide)) (fun _ hk=>hk.2) (.int .i64 V)) (fun _ hk=>hk.2) (.int .i64 X)) (fun _ hk=>hk.2) (.string Z)) (fun _ hk=>hk.2) (.int .i64 ae)) (fun _ hk=>trivial)))⟩;have az:Aside0 (Kd.S k64 64 aT w.heap.size (fun q=>some q≠(.slice L G.length M:Value).ownBlock∧some q≠(.slice Q I.length T:Value).ownBlock∧q≠d) J ar):=⟨(by rw[hw];exact(by(with_reducible repeat(first|apply Kd.S_alloc|apply Kd.S_drewN|apply Kd.S_drew));exact Kd.S_mono (Kd.S_far (p:=⟨d,9,none⟩) (Kd.S_far (p:=⟨d,8,none⟩) (Kd.S_far (p:=⟨d,7,none⟩) (Kd.S_far (p:=⟨d,6,none⟩) (Kd.S_mono z.out (fun q hk=>(⟨hk,hk.1.1⟩:_∧q≠d))) (fun _ hk=>hk.2) (.int .i64 V)) (fun _ hk=>hk.2) (.int .i64 X)) (fun _ hk=>hk.2) (.string Z)) (fun _ hk=>hk.2) (.int .i64 ae)) (fun _ hk=>⟨hk.1.1.2,⟨hk.1.2,hk.1.1.1⟩⟩)))⟩;have aA:Aside0 (Kd.R k62 62 aT w.heap.size (fun q=>some q≠(.slice Q I.length T:Value).ownBlock) (.slice L G.length M) G):=⟨(by rw[hw];exact(by(with_reducible repeat(first|apply Kd.R_alloc|apply Kd.R_drewN|apply Kd.R_drew));exact Kd.R_mono (Kd.R_far (p:=⟨d,9,none⟩) (Kd.R_far (p:=⟨d,8,none⟩) (Kd.R_far (p:=⟨d,7,none⟩) (Kd.R_far (p:=⟨d,6,none⟩) (Kd.R_types ap.out l.out (by decide)) (fun _ hk=>hk.2) (.int .i64 V)) (fun _ hk=>hk.2) (.int .i64 X)) (fun _ hk=>hk.2) (.string Z)) (fun _ hk=>hk.2) (.int .i64 ae)) (fun _ hk=>hk.1.2)))⟩;have aC:Aside0 (Kd.R k62 62 aT w.heap.size (fun q=>some q≠(.slice L G.length M:Value).ownBlock) (.slice Q I.length T) I):=⟨(by rw[hw];exact(by(with_reducible repeat(first|apply Kd.R_alloc|apply Kd.R_drewN|apply Kd.R_drew));exact Kd.R_mono (Kd.R_far (p:=⟨d,9,none⟩) (Kd.R_far (p:=⟨d,8,none⟩) (Kd.R_far (p:=⟨d,7,none⟩) (Kd.R_far (p:=⟨d,6,none⟩) (Kd.R_types aK.out l.out (by decide)) (fun _ hk=>hk.2) (.int .i64 V)) (fun _ hk=>hk.2) (.int .i64 X)) (fun _ hk=>hk.2) (.string Z)) (fun _ hk=>hk.2) (.int .i64 ae)) (fun _ hk=>hk.1.2)))⟩;have aD:Aside0 (aT.heap[O]?=some (.cells #[.int .i64 aw,.slice none 0 0] 32 (0,0))):=⟨(by rw[hw];exact(by(with_reducible repeat(first|refine blk_drewN ?_ _|refine blk_drew ?_|refine blk_alloc ?_ _));refine blk_far ?_ D.out _;(with_reducible repeat(first|refine blk_drewN ?_ _|refine blk_drew ?_|refine blk_alloc ?_ _));refine blk_far ?_ D.out _;(with_reducible repeat(first|refine blk_drewN ?_ _|refine blk_drew ?_|refine blk_alloc ?_ _));refine blk_far ?_ D.out _;(with_reducible repeat(first|refine blk_drewN ?_ _|refine blk_drew ?_|refine blk_alloc ?_ _));refine blk_far ?_ D.out _;exact sT s.out))⟩;have aE:Aside0 (aT.heap[U]?=some (.cells #[.int .i64 W,J] 32 (0,0))):=⟨(by rw[hw];exact(by(with_reducible repeat(first|refine blk_drewN ?_ _|refine blk_drew ?_|refine blk_alloc ?_ _));refine blk_far ?_ E.out _;(with_reducible repeat(first|refine blk_drewN ?_ _|refine blk_drew ?_|refine blk_alloc ?_ _));refine blk_far ?_ E.out _;(with_reducible repeat(first|refine blk_drewN ?_ _|refine blk_drew ?_|refine blk_alloc ?_ _));refine blk_far ?_ E.out _;(with_reducible repeat(first|refine blk_drewN ?_ _|refine blk_drew ?_|refine blk_alloc ?_ _));refine blk_far ?_ E.out _;exact sT u.out))⟩;have aG:Aside0 (aT.heap[d]?=some (.cells #[.int .i64 (wrap64 (y+1)),.int .i64 ((rd_T64 ((rd_T32 l0 0).f1) a).f1),.string ((rd_T64 ((rd_T32 l0 0).f1) a).f2),.int .i64 ((rd_T64 ((rd_T32 l0 0).f1) a).f3),.slice L G.length M,.slice Q I.length T,.int .i64 V,.int .i64 X,.string Z,.int .i64 ae] 64 (0,0))):=⟨(by rw[hw];exact(by(with_reducible repeat(first|refine blk_drewN ?_ _|refine blk_drew ?_|refine blk_alloc ?_ _));refine blk_put (cs:= #[.int .i64 (wrap64 (y+1)),.int .i64 ((rd_T64 ((rd_T32 l0 0).f1) a).f1),.string ((rd_T64 ((rd_T32 l0 0).f1) a).f2),.int .i64 ((rd_T64 ((rd_T32 l0 0).f1) a).f3),.slice L G.length M,.slice Q I.length T,.int .i64 V,.int .i64 X,.string Z,.int .i64 ((rd_T64 ((rd_T32 l0 0).f1) a).f6.f3)]) ?_ 9 _ rfl;(with_reducible repeat(first|refine blk_drewN ?_ _|refine blk_drew ?_|refine blk_alloc ?_ _));refine blk_put (cs:= #[.int .i64 (wrap64 (y+1)),.int .i64 ((rd_T64 ((rd_T32 l0 0).f1) a).f1),.string ((rd_T64 ((rd_T32 l0 0).f1) a).f2),.int .i64 ((rd_T64 ((rd_T32 l0 0).f1) a).f3),.slice L G.length M,.slice Q I.length T,.int .i64 V,.int .i64 X,.string ((rd_T64 ((rd_T32 l0 0).f1) a).f6.f2),.int .i64 ((rd_T64 ((rd_T32 l0 0).f1) a).f6.f3)]) ?_ 8 _ rfl;(with_reducible repeat(first|refine blk_drewN ?_ _|refine blk_drew ?_|refine blk_alloc ?_ _));refine blk_put (cs:= #[.int .i64 (wrap64 (y+1)),.int .i64 ((rd_T64 ((rd_T32 l0 0).f1) a).f1),.string ((rd_T64 ((rd_T32 l0 0).f1) a).f2),.int .i64 ((rd_T64 ((rd_T32 l0 0).f1) a).f3),.slice L G.length M,.slice Q I.length T,.int .i64 V,.int .i64 ((rd_T64 ((rd_T32 l0 0).f1) a).f6.f1),.string ((rd_T64 ((rd_T32 l0 0).f1) a).f6.f2),.int .i64 ((rd_T64 ((rd_T32 l0 0).f1) a).f6.f3)]) ?_ 7 _ rfl;(with_reducible repeat(first|refine blk_drewN ?_ _|refine blk_drew ?_|refine blk_alloc ?_ _));refine blk_put (cs:= #[.int .i64 (wrap64 (y+1)),.int .i64 ((rd_T64 ((rd_T32 l0 0).f1) a).f1),.string ((rd_T64 ((rd_T32 l0 0).f1) a).f2),.int .i64 ((rd_T64 ((rd_T32 l0 0).f1) a).f3),.slice L G.length M,.slice Q I.length T,.int .i64 ((rd_T64 ((rd_T32 l0 0).f1) a).f6.f0),.int .i64 ((rd_T64 ((rd_T32 l0 0).f1) a).f6.f1),.string ((rd_T64 ((rd_T32 l0 0).f1) a).f6.f2),.int .i64 ((rd_T64 ((rd_T32 l0 0).f1) a).f6.f3)]) ?_ 6 _ rfl;exact sT l.out))⟩;have aR:Aside0 (Below w.heap.size w aT):=⟨(by rw[hw];exact zzR)⟩;clear hw;clear x;clear z;clear ap;clear aK;clear s;clear u;clear l;clear HB;have x:=ay;have z:=az;have ap:=aA;have aK:=aC;have s:=aD;have u:=aE;have l:=aG;have HB:=aR;clear ay az aA aC aD aE aG aR;have fe:=aV.out;have ff:=aU.out;obtain⟨fg,fh,fi,fj⟩:=cells2 u.out;obtain⟨fk,fl,fm,fn,fo,fp,fq,fr,fs,ft,fu,fv,fw,fx,fy,fz,fA,fB,fC,fD⟩:=cells10 l.out)|((with_reducible refine gate_builtin (b:= .append) (xs:= #[.tmp 53,.tmp 55]) rfl ?_);at_builtin;refine Kd.S_append k64 (w0:=w) w.heap.size rfl (.tmp 53) (.tmp 55) 30 64 (.agg #[(.int .i64 0),(.int .i64 0),(.string ⟨#[]⟩),(.int .i64 0),(.slice none 0 0),(.slice none 0 0),(.int .i64 0),(.int .i64 0),(.string ⟨#[]⟩),(.int .i64 0)]) 128 rfl Try.underlying30 info64 rfl (by decide) (by omega) J ar (⟨wrap64 (y+1),(rd_T64 ((rd_T32 l0 0).f1) a).f1,(rd_T64 ((rd_T32 l0 0).f1) a).f2,(rd_T64 ((rd_T32 l0 0).f1) a).f3,G,I,(⟨V,X,Z,ae⟩:S62)⟩:S64) [.int .i64 (wrap64 (y+1)),.int .i64 ((rd_T64 ((rd_T32 l0 0).f1) a).f1),.string ((rd_T64 ((rd_T32 l0 0).f1) a).f2),.int .i64 ((rd_T64 ((rd_T32 l0 0).f1) a).f3),.slice L G.length M,.slice Q I.length T,.int .i64 V,.int .i64 X,.string Z,.int .i64 ae] (fun q=>q≠d) (fun q=>some q=(.slice L G.length M:Value).ownBlock∨some q=(.slice Q I.length T:Value).ownBlock) rfl rfl ?aP (fun q cp=>cp.elim (fun A=>((Kd.R_mono (ok':=fun q=>((fun q=>q≠d)) q∧some q≠(J:Value).ownBlock) (Kd.R_types (Kd.R_apart' (ap.out) (Kd.S_typed z.out) (by decide)) l.out (by decide)) (fun q hk=>⟨hk.2,hk.1.2⟩))).1 q A.symm) (fun A=>((Kd.R_mono (ok':=fun q=>((fun q=>q≠d)) q∧some q≠(J:Value).ownBlock) (Kd.R_types (Kd.R_apart' (aK.out) (Kd.S_typed z.out) (by decide)) l.out (by decide)) (fun q hk=>⟨hk.2,hk.1.2⟩))).1 q A.symm)) ?aF ?aO ?aB ?aS ?aL ?_;(case aP=>exact k64_mkM _ _ _ (⟨wrap64 (y+1),(rd_T64 ((rd_T32 l0 0).f1) a).f1,(rd_T64 ((rd_T32 l0 0).f1) a).f2,(rd_T64 ((rd_T32 l0 0).f1) a).f3,G,I,(⟨V,X,Z,ae⟩:S62)⟩:S64) (Kd.R_mono (Kd.R_tight rfl (Kd.R_mono (ok':=fun q=>((fun q=>q≠d)) q∧some q≠(J:Value).ownBlock) (Kd.R_types (Kd.R_apart' (ap.out) (Kd.S_typed z.out) (by decide)) l.out (by decide)) (fun q hk=>⟨hk.2,hk.1.2⟩))) (fun _ A=>Or.inl A)) (Kd.R_mono (Kd.R_tight rfl (Kd.R_mono (ok':=fun q=>((fun q=>q≠d)) q∧some q≠(J:Value).ownBlock) (Kd.R_types (Kd.R_apart' (aK.out) (Kd.S_typed z.out) (by decide)) l.out (by decide)) (fun q hk=>⟨hk.2,hk.1.2⟩))) (fun _ A=>Or.inr (A))));(case aB=>exact zzR);(case aF=>exact(fun q hk=>Kd.freshB (g:=d) (o:= .cells #[.int .i64 (wrap64 (y+1)),.int .i64 ((rd_T64 ((rd_T32 l0 0).f1) a).f1),.string ((rd_T64 ((rd_T32 l0 0).f1) a).f2),.int .i64 ((rd_T64 ((rd_T32 l0 0).f1) a).f3),.slice L G.length M,.slice Q I.length T,.int .i64 V,.int .i64 X,.string Z,.int .i64 ae] 64 (0,0)) (sT l.out) q hk));(case aO=>exact(by(with_reducible repeat(first|apply Kd.S_alloc|apply Kd.S_drewN|apply Kd.S_drew));exact Kd.S_mono z.out (fun q hk=>⟨hk.2.2,fun e_=>e_.elim (fun A=>hk.1 A) (fun A=>hk.2.1 A)⟩)));(case aS=>exact(below_size zzR));(case aL=>have:=cd.out;omega);intro fE fF ho hb hg hat;rw[←ce.out]at ho;replace x:=zM (Kd.R_over' (sE x.out) (Kd.S_typed (sI z.out)) (by decide) hg);replace s:=zM (blk_grown (g:=O) (o:= .cells #[.int .i64 aw,.slice none 0 0] 32 (0,0)) (sT s.out) hg (Kd.S_ne z.out s.out (by decide)));replace u:=zM (blk_grown (g:=U) (o:= .cells #[.int .i64 W,J] 32 (0,0)) (sT u.out) hg (Kd.S_ne z.out u.out (by decide)));replace l:=zM (blk_grown (g:=d) (o:= .cells #[.int .i64 (wrap64 (y+1)),.int .i64 ((rd_T64 ((rd_T32 l0 0).f1) a).f1),.string ((rd_T64 ((rd_T32 l0 0).f1) a).f2),.int .i64 ((rd_T64 ((rd_T32 l0 0).f1) a).f3),.slice L G.length M,.slice Q I.length T,.int .i64 V,.int .i64 X,.string Z,.int .i64 ae] 64 (0,0)) (sT l.out) hg (Kd.S_away z.out (fun _ hk=>hk.2.2)));replace HB:=zM (hb);have b0:=zM (ho);clear z ap aK;clear ho hb hg hat;obtain⟨bt,bu,cq⟩:=Kd.S_slice b0.out;subst cq;obtain⟨fG,fH,fI,fJ⟩:=cells2 u.out))
 go_roundg k1
 case measure=>have:=bA.out;omega
 case rel=>exact⟨(wrap64 (y+1)),(aw),(W),(y304),(.slice bt y304.length bu),sr,H',⟨by have:=bA.out;omega⟩,⟨by(with_reducible repeat(first|apply Kd.R_alloc|apply Kd.R_drewN|apply Kd.R_drew));exact Kd.R_mono (Kd.R_far (p:=⟨U,1,none⟩) (Kd.R_types x.out u.out (by decide)) (fun _ hk=>hk.2) (.slice bt y304.length bu)) (fun _ hk=>trivial)⟩,⟨by(with_reducible repeat(first|apply Kd.S_alloc|apply Kd.S_drewN|apply Kd.S_drew));exact Kd.S_mono (Kd.S_far (p:=⟨U,1,none⟩) (Kd.S_types b0.out u.out (by decide)) (fun _ hk=>hk.2) (.slice bt y304.length bu)) (fun _ hk=>trivial)⟩,⟨by(with_reducible repeat(first|refine blk_drewN ?_ _|refine blk_drew ?_|refine blk_alloc ?_ _));refine blk_far ?_ aU.out _;exact sT s.out⟩,⟨by(with_reducible repeat(first|refine blk_drewN ?_ _|refine blk_drew ?_|refine blk_alloc ?_ _));refine blk_put (cs:= #[.int .i64 W,J]) ?_ 1 _ rfl;exact sT u.out⟩,⟨sb⟩⟩)
 rw[if_neg a5]at H
 exact absurd H (by simp))
 rw[if_neg a4]at H
 exact absurd H (by simp))
 rw[if_neg a3]at H
 exact absurd H (by simp))
 rw[if_neg a2]at H
 exact absurd H (by simp))
 rw[if_neg a1]at H
 exact absurd H (by simp))
 rw[if_neg aW]at H
 have c10b0:=zF aW
 clear aW
 obtain⟨cr,ct,H⟩:=sO H
 simp only[Option.some.injEq,Prod.mk.injEq]at H
 obtain⟨rfl,rfl,rfl⟩:=H
 try go_wp2
 replace x:=zM (Kd.R_drew x.out)
 replace z:=zM (Kd.S_drew z.out)
 replace s:=zM (blk_drew s.out)
 replace u:=zM (blk_drew u.out)
 replace HB:=zM (below_drew1 HB.out)
 refine start_ (n:=6) (S:=fun w'=>w'.cell? ⟨U,0,none⟩=some (.int .i64 W)∧w'.cell? ⟨U,1,none⟩=some (J)) (ds:=[]) #[false,false,false,false,false,false] (by kernel_rfl) rfl rfl ⟨(blk_cell u.out 0).trans rfl,(blk_cell u.out 1).trans rfl⟩ (fun hHeld=>?_)
 generalize wr.drew=w52 at x z s u HB hHeld ⊢
 refine pure_ (i:=1) (N:=some 59) (v:=?_) (a':=?_) #[false,true,false,false,false,false] rfl rfl (by kernel_rfl) (fun _ _ _ h=>h) (Or.inl ⟨by rfl,?_⟩) ?_ ?_
 rotate_left
 ·(
 intro w'
 go_simp
 with_reducible rfl)
 rotate_left
 ·(
 simp only[zP,i64_w,i32_w]
 rfl)
 refine pure_ (i:=2) (N:=some 60) (v:=?_) (a':=?_) #[false,true,true,false,false,false] rfl rfl (by kernel_rfl) (fun _ _ _ h=>h) (Or.inl ⟨by rfl,?_⟩) ?_ ?_
 rotate_left
 ·(
 intro w'
 go_simp
 with_reducible rfl)
 rotate_left
 ·(
 simp only[zP,i64_w,i32_w]
 rfl)
 refine take_ (i:=0) (N:=some 58) (v:=?_) (a':=?_) #[true,true,true,false,false,false] rfl rfl (by kernel_rfl) (fun _ _ _ h=>h) (Or.inl ⟨by rfl,?_⟩) hHeld ?_ ?_
 rotate_left
 ·(
 rintro w' ⟨s0,s1⟩
 go_simp
 with_reducible rfl)
 rotate_left
 ·(
 simp only[zP,i64_w,i32_w]
 rfl)
 refine one_ (i:=3) (N:=some 61) #[true,true,true,true,false,false] rfl rfl (by kernel_rfl) (by decide) (fun K hK=>?_)
 refine goes_ Try.func79 (by kernel_rfl) rfl #[.slice bz B.length av,.slice A1 l1.length c1] (by rfl) rfl rfl (by(try simp only[List.map_toArray,List.map_cons,List.map_nil]);first|done|rfl|(simp only[List.length_drop,List.length_take];rfl)) ?_
 with_reducible refine(spec_l08MoveAll.calls k1 _ _ B _ _ l1 cr _ ?side1 ?side2 ?side3 ?side4 ct.out).mono ?_
 (case side1=>exact sD ((Kd.R_reads' x.out).2.2))
 (case side2=>exact(Kd.R_reads' x.out).2.1)
 (case side3=>exact sD (zC bw.out HB.out))
 (case side4=>exact bx.out)
 rintro e b1 ⟨fK,rfl,Y,hb⟩
 refine⟨_,rfl,?_⟩
 replace x:=zM (Kd.R_below (sE x.out) hb)
 replace z:=zM (Kd.S_elder' (sI z.out) (Kd.R_base Y) hb)
 have cu:=zM (Kd.R_lower Y (below_size zzR))
 replace s:=sK s hb
 replace u:=sK u hb
 replace HB:=sB HB hb
 (try clear hb)
 (try clear hb2)
 (try clear hk)
 (try clear hi)
 (try clear Y)
 obtain⟨cv,cw,b2⟩:=Kd.S_slice z.out
 (first|subst b2|(injection b2 with b3 cx b4;have cy:=b3.symm;have cz:=b4.symm;clear b3 cx b4;subst cy;subst cz))
 refine hK.out _ _ ⟨(blk_cell u.out 0).trans rfl,(blk_cell u.out 1).trans rfl⟩ (fun hHeld=>?_)
 clear hK K
 refine norm_ (a':=?_) ?_ ?_
 rotate_left
 ·(
 show Act.put _ (some 61) _=_
 simp only[zP,i64_w,i32_w]
 rfl)
 refine one_ (i:=4) (N:=none) #[true,true,true,true,true,false] rfl rfl (by kernel_rfl) (by decide) (fun K hK=>?_)
 have fL:b1.cell? ⟨O,0,none⟩=some (.int .i64 aw):=(blk_cell s.out 0).trans rfl
 have fM:=blk_frozen s.out 0
 have fN:=aV.out
 have fO:=aU.out
 have fP:b1.cell? ⟨O,1,none⟩=some (.slice none 0 0):=(blk_cell s.out 1).trans rfl
 have fQ:=blk_frozen s.out 1
 have fR:=aV.out
 have fS:=aU.out
 refine skip_ (w1:=?_) (by rfl) rfl ?_ ?_
 rotate_left
 ·(
 go_simp
 rfl)
 refine hK.out _ _ ⟨(sQ2 (g:=O) aV.out (hHeld.1)),(sQ2 (g:=O) aV.out (hHeld.2))⟩ (fun hHeld=>?_)
 clear hK K
 refine pure_ (i:=5) (N:=some 5) (v:=?_) (a':=?_) #[true,true,true,true,true,true] rfl rfl (by kernel_rfl) (fun _ _ _ h=>h) (Or.inl ⟨by rfl,?_⟩) ?_ ?_
 rotate_left
 ·(
 intro w'
 go_simp
 with_reducible rfl)
 rotate_left
 ·(
 simp only[zP,i64_w,i32_w]
 rfl)
 refine done_ (by kernel_rfl) ?_
 try go_wp2
 refine bodyPost_ret (results_ct rfl _ _ O 32 #[.int .i64 W,.slice cv ar.length cw] (0,0) _ rfl (by exact sP2 (sT s.out)) Try.underlying32 rfl (by kernel_rfl)) rfl ?_
 exact⟨_,_,sq,by(with_reducible repeat(first|apply Kd.S_alloc|apply Kd.S_drewN|apply Kd.S_drew));exact Kd.S_mono (sSF2 (g:=O) (Kd.S_types z.out s.out (by decide)) (fun _ hk=>hk.2)) (fun _ hk=>hk.1.2),by(with_reducible repeat(first|apply Kd.R_alloc|apply Kd.R_drewN|apply Kd.R_drew));exact Kd.R_mono (sRF2 (g:=O) (Kd.R_types cu.out s.out (by decide)) (fun _ hk=>hk.2)) (fun _ hk=>trivial),sb⟩))
end Go.Proofs.Ytpdljgieaaicpaa.PFnExactLiveSize
