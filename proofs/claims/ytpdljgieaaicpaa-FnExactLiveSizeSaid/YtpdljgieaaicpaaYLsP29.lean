/- Printed functions: impl_Heap_collect. -/
import Derived.Test.YtpdljgieaaicpaaYLsP0
import Derived.Test.YtpdljgieaaicpaaYLsP25
import Derived.Test.YtpdljgieaaicpaaYLsP27
import Derived.Test.YtpdljgieaaicpaaYLsP28
namespace Go.Proofs.Ytpdljgieaaicpaa.PFnExactLiveSize
open Go.RowKit Go.Proofs.YtpdljgieaaicpaaG Go.Proofs.YtpdljgieaaicpaaW.PrintWords Go.Proofs.YtpdljgieaaicpaaW.PrintLast Go.Proofs.YtpdljgieaaicpaaW.PrintMore
attribute [local go_sem] max2_int min2_int max_two min_two max_three min_three max_four min_four
set_option linter.unusedVariables false
set_option linter.unusedSimpArgs false
def impl_Heap_collect.l0 : Nat → List (S62) → List Int → List Int → Int → Int → Int → List (S64) → Int → List (S64) → Option (Int × (List (S64)) × (List (S62)))
 |0,_,_,_,_,_,_,_,_,_=>none
 |k+1,x1,x6,x17,x18,x19,x459000,x459001,x464000,x464001=>if x19<x18 then(if 0≤x19 then(if x19<(x17.length:Int)then((impl_Heap_find.f k x459000 x459001 (rd x17 x19)).bind fun t468=>(if 0≤t468 then(if t468<(x459001.length:Int)then((impl_renumbered.f k ((rd_T64 x459001 t468).f4) x6).bind fun t471=>((impl_renumbered.f k ((rd_T64 x459001 t468).f5) x6).bind fun t474=>((impl_renumbered.f k (([(⟨(rd_T64 x459001 t468).f6.f0,(rd_T64 x459001 t468).f6.f1,(rd_T64 x459001 t468).f6.f2,(rd_T64 x459001 t468).f6.f3⟩:S62)]:List (S62))) x6).bind fun t480=>(if 0<(t480.length:Int)then(if x464001.length<1099511627776 then(impl_Heap_collect.l0 k x1 x6 x17 x18 (wrap64 (x19+1)) x459000 x459001 x464000 (x464001++[(⟨wrap64 (x19+1),(rd_T64 x459001 t468).f1,(rd_T64 x459001 t468).f2,(rd_T64 x459001 t468).f3,t471,t474,(⟨(rd_T62 t480 0).f0,(rd_T62 t480 0).f1,(rd_T62 t480 0).f2,(rd_T62 t480 0).f3⟩:S62)⟩:S64)]))else(none))else(none)))))else(none))else(none)))else(none))else(none))else((impl_renumbered.f k x1 x6).bind fun t464=>(some (x464000,x464001,t464)))
def impl_Heap_collect.f (k:Nat) (a0_0:Int) (l0_1:List (S64)) (l1:List (S62)):Option (Int×(List (S64))×(List (S62))):=(impl_Heap_reachable.f k a0_0 l0_1 l1).bind fun t460=>(impl_Heap_collect.l0 k l1 t460 t460 (t460.length:Int) 0 a0_0 l0_1 (t460.length:Int) ([]:List (S64)))
def impl_Heap_collect.T6:Bool×List (List Nat×List Nat):=(true,[([],[]),([0],[0]),([],[]),([],[]),([2,3],[2,3]),([1,4],[1,4]),([5],[5]),([],[]),([7,6,4,0,1,2,3,4,5,6,7],[6,7])])
def impl_Heap_collect.B6:List Nat:=[0,1,0,0,12,31,63,0,255]
theorem impl_Heap_collect.tab6:rtab .any (opsOf Try.f52 6)=impl_Heap_collect.T6:=by kernel_rfl
theorem impl_Heap_collect.bits6:waitsOk impl_Heap_collect.T6.2 impl_Heap_collect.B6=true:=by kernel_rfl
def impl_Heap_collect.T8:Bool×List (List Nat×List Nat):=(true,[([],[]),([0],[0]),([],[]),([1,2],[1,2]),([],[]),([4],[4]),([],[]),([5,6,3],[5,6]),([0,1,2,3,4,5],[]),([8,3,7,0,1,2,3,4,5],[3,8]),([0,1,2,3,4,5,6,7,8,9],[]),([10,7,9,0,1,2,3,4,5,6,7,8,9],[7,10])])
def impl_Heap_collect.B8:List Nat:=[0,1,0,7,0,16,0,127,63,511,1023,2047]
theorem impl_Heap_collect.tab8:rtab .any (opsOf Try.f52 8)=impl_Heap_collect.T8:=by kernel_rfl
theorem impl_Heap_collect.bits8:waitsOk impl_Heap_collect.T8.2 impl_Heap_collect.B8=true:=by kernel_rfl
set_option maxHeartbeats 8000000 in
set_option maxRecDepth 100000 in
theorem impl_Heap_collect.calls (k:Nat) (a0_0:Int) (A0_1:Option Addr) (c0_1:Nat) (l0_1:List (S64)) (A1:Option Addr) (c1:Nat) (l1:List (S62)) (r1:Int) (r2:List (S64)) (r3:List (S62)) (w:World) (hr0_1:Kd.C k64 w A0_1 l0_1.length l0_1) (hc0_1:l0_1.length≤c0_1) (hr1:Kd.C k62 w A1 l1.length l1) (hc1:l1.length≤c1) (h:impl_Heap_collect.f k a0_0 l0_1 l1=some (r1,r2,r3)):
  Calls Try.prog 52 #[.agg #[.int .i64 a0_0,.slice A0_1 l0_1.length c0_1],.slice A1 l1.length c1] w fun e w'=>∃bK v2_:Value,e= .returned (.tuple #[.agg #[.int .i64 r1,bK],v2_])∧Kd.S k64 64 w' w.heap.size (fun m=>some m≠(v2_:Value).ownBlock) bK r2∧Kd.R k62 62 w' w.heap.size (fun _=>True) v2_ r3∧Below w.heap.size w w':=by
 have cZ:=Try.underlying32
 have c0:=Try.underlying64
 have c2:=Try.underlying62
 have be:=zM hr0_1
 have bx:=zM hc0_1
 clear hr0_1 hc0_1
 have bL:=zM hr1
 have bM:=zM hc1
 clear hr1 hc1
 have HB:=zM (Below.refl w.heap.size w)
 have H:((impl_Heap_reachable.f k a0_0 l0_1 l1).bind fun s=>(impl_Heap_collect.l0 k l1 s s (s.length:Int) 0 a0_0 l0_1 (s.length:Int) ([]:List (S64))))=some (r1,r2,r3):=h
 clear h
 obtain⟨s,A3,H⟩:=sO H
 have H':=zM H
 clear H
 go_enter Try.func52,Try.ntmps52
 go_wp2_with (first|((with_reducible refine gate_dst (N:=2) rfl ?_);refine sV (N:=2) (cs:= #[.int .i64 a0_0,.slice A0_1 l0_1.length c0_1]) (t:=32) ?_;intro ae hg w4 hbox hb;have r:=zM (hbox);have c3:=sG HB hg;have aC:=sG HB hg;replace HB:=sB HB hb;clear hb hbox hg)|((with_reducible refine gate_dst (N:=4) rfl ?_);refine sV (N:=4) (cs:= #[.int .i64 0,.slice none 0 0]) (t:=32) ?_;intro ac hg w5 hbox hb;have u:=zM (hbox);have c5:=sG HB hg;have aD:=sG HB hg;replace HB:=sB HB hb;have bz:=sN r hg;have bA:=sM r hg;replace r:=sK r hb;clear hb hbox hg;have c6:=bz.out;have c7:=bA.out;obtain⟨cl,cm,cn,co⟩:=cells2 r.out)|((with_reducible refine gate_callee (f:=44) rfl ?_);refine sC (some 13) Try.func44 #[.agg #[.int .i64 a0_0,.slice A0_1 l0_1.length c0_1],.slice A1 l1.length c1] (impl_Heap_reachable.calls k a0_0 _ _ l0_1 _ _ l1 s _ ?side1 ?side2 ?side3 ?side4 A3.out) ?_;(case side1=>exact sD (zC be.out HB.out));(case side2=>exact bx.out);(case side3=>exact sD (zC bL.out HB.out));(case side4=>exact bM.out);rintro e w8 ⟨c8,rfl,U,hb⟩;refine⟨_,rfl,?_⟩;have a6:=zM (Kd.R_lower U (below_size zzR));replace r:=sK r hb;replace u:=sK u hb;replace HB:=sB HB hb;(try clear hb);(try clear U);obtain⟨bB,aj,cp⟩:=Kd.R_slice a6.out;subst cp)|((with_reducible refine gate_dst (N:=7) rfl ?_);refine sV (N:=7) (cs:= #[.int .i64 0,.slice none 0 0]) (t:=32) ?_;intro ad hg c9 hbox hb;replace a6:=zM (Kd.R_below (sE a6.out) hb);have x:=zM (hbox);have da:=sG HB hg;have aI:=sG HB hg;replace HB:=sB HB hb;have a7:=sN r hg;have bO:=sM r hg;replace r:=sK r hb;have a1:=sN u hg;have a4:=sM u hg;replace u:=sK u hb;clear hb hbox hg;have db:=bO.out;have dc:=a7.out;have dd:=a4.out;have de:=a1.out;obtain⟨cq,cr,ct,cu⟩:=cells2 x.out))
 go_loopg [19] k (fun kq cv w'=>∃(A:Int) (ax:List (S64)) (X:Value),cv= .int .i64 A∧Aside0 (impl_Heap_collect.l0 kq l1 s s (s.length:Int) A a0_0 l0_1 (s.length:Int) ax=some (r1,r2,r3))∧Aside0 (kq≤k)∧Aside0 (Kd.R (Kd.int .i64) 2 w' w.heap.size (fun _=>True) (.slice bB s.length aj) s)∧Aside0 (Kd.R (Kd.int .i64) 2 w' w.heap.size (fun _=>True) (.slice bB s.length aj) s)∧Aside0 (Kd.S k64 64 w' w.heap.size (fun _=>True) X ax)∧Aside0 (w'.heap[ae]?=some (.cells #[.int .i64 a0_0,(.slice A0_1 l0_1.length c0_1)] 32 (0,0)))∧Aside0 (w'.heap[ac]?=some (.cells #[.int .i64 0,(.slice none 0 0)] 32 (0,0)))∧Aside0 (w'.heap[ad]?=some (.cells #[.int .i64 (s.length:Int),X] 32 (0,0)))∧Aside0 (Below w.heap.size w w'))
 case atStart=>exact⟨(0),(([]:List (S64))),(.slice none 0 0),sr,H',⟨Nat.le_refl _⟩,⟨by(with_reducible repeat(first|apply Kd.R_alloc|apply Kd.R_drewN|apply Kd.R_drew));exact Kd.R_mono (sRF2 (g:=ad) (Kd.R_types a6.out x.out (by decide)) (fun _ hk=>hk.2)) (fun _ hk=>trivial)⟩,⟨by(with_reducible repeat(first|apply Kd.R_alloc|apply Kd.R_drewN|apply Kd.R_drew));exact Kd.R_mono (sRF2 (g:=ad) (Kd.R_types a6.out x.out (by decide)) (fun _ hk=>hk.2)) (fun _ hk=>trivial)⟩,⟨by first|exact Kd.S_nil _ _ _ _ _|exact Kd.N_nil _ _ _ _ _|exact Kd.V_nil _ _ _ _ _|exact Kd.Q_nil _ _ _ _ _|exact Kd.R_nil _ _ _ _ _⟩,⟨by(with_reducible repeat(first|refine blk_drewN ?_ _|refine blk_drew ?_|refine blk_alloc ?_ _));refine blk_far ?_ a7.out _;(with_reducible repeat(first|refine blk_drewN ?_ _|refine blk_drew ?_|refine blk_alloc ?_ _));refine blk_far ?_ a7.out _;exact sT r.out⟩,⟨by(with_reducible repeat(first|refine blk_drewN ?_ _|refine blk_drew ?_|refine blk_alloc ?_ _));refine blk_far ?_ a1.out _;(with_reducible repeat(first|refine blk_drewN ?_ _|refine blk_drew ?_|refine blk_alloc ?_ _));refine blk_far ?_ a1.out _;exact sT u.out⟩,⟨by exact sP2 (sT x.out)⟩,⟨sb⟩⟩
 case round=>(
 clear H'
 try clear c1
 try clear cq
 try clear cr
 try clear cl
 try clear cm
 try clear ct
 try clear cu
 try clear cn
 try clear co
 obtain⟨A,ax,X,rfl,HA,bP,z,D,y,r,u,x,HB⟩:=hrel
 cases gk with
 |zero=>exact absurd HA.out (by simp[impl_Heap_collect.l0])
 |succ k1=>(
 have H:=HA.out
 clear HA
 simp only[impl_Heap_collect.l0]at H
 by_cases a5:A<(s.length:Int)
 ·(
 rw[if_pos a5]at H
 have c14b0:=zT a5
 clear a5
 by_cases bf:0≤A
 ·(
 rw[if_pos bf]at H
 have c15b0:=zT bf
 clear bf
 by_cases bg:A<(s.length:Int)
 ·(
 rw[if_pos bg]at H
 have c16b0:=zT bg
 clear bg
 obtain⟨a,bQ,H⟩:=sO H
 by_cases bh:0≤a
 ·(
 rw[if_pos bh]at H
 have c18b0:=zT bh
 clear bh
 by_cases bi:a<(l0_1.length:Int)
 ·(
 rw[if_pos bi]at H
 have c19b0:=zT bi
 clear bi
 obtain⟨J,cw,H⟩:=sO H
 obtain⟨L,cx,H⟩:=sO H
 obtain⟨y477,hy477⟩:∃y_:List (S62),y_=(([(⟨(rd_T64 l0_1 a).f6.f0,(rd_T64 l0_1 a).f6.f1,(rd_T64 l0_1 a).f6.f2,(rd_T64 l0_1 a).f6.f3⟩:S62)]:List (S62))):=⟨_,rfl⟩
 replace H:((impl_renumbered.f k1 y477 s).bind fun l=>(if 0<(l.length:Int)then(if ax.length<1099511627776 then(impl_Heap_collect.l0 k1 l1 s s (s.length:Int) (wrap64 (A+1)) a0_0 l0_1 (s.length:Int) (ax++[(⟨wrap64 (A+1),(rd_T64 l0_1 a).f1,(rd_T64 l0_1 a).f2,(rd_T64 l0_1 a).f3,J,L,(⟨(rd_T62 l 0).f0,(rd_T62 l 0).f1,(rd_T62 l 0).f2,(rd_T62 l 0).f3⟩:S62)⟩:S64)]))else(none))else(none)))=some (r1,r2,r3):=by first|(rw[hy477];with_reducible exact H)|(have a2:=(Option.bind_some _ _).symm.trans H;rw[hy477];with_reducible exact a2)|(have a2:=(Option.bind_some _ _).symm.trans H;with_reducible exact a2)|with_reducible exact H|(rw[hy477];exact H)|exact H
 have bR:=zM hy477
 clear hy477
 obtain⟨l,cy,H⟩:=sO H
 by_cases bj:0<(l.length:Int)
 ·(
 rw[if_pos bj]at H
 have c23b0:=zT bj
 have c23b1:decide (0<l.length)=true:=zT (by omega)
 clear bj
 by_cases bk:ax.length<1099511627776
 ·(
 rw[if_pos bk]at H
 have cz:=zM bk
 clear bk
 obtain⟨y484,hy484⟩:∃y_:List (S64),y_=(ax++[(⟨wrap64 (A+1),(rd_T64 l0_1 a).f1,(rd_T64 l0_1 a).f2,(rd_T64 l0_1 a).f3,J,L,(⟨(rd_T62 l 0).f0,(rd_T62 l 0).f1,(rd_T62 l 0).f2,(rd_T62 l 0).f3⟩:S62)⟩:S64)]):=⟨_,rfl⟩
 replace H:(impl_Heap_collect.l0 k1 l1 s s (s.length:Int) (wrap64 (A+1)) a0_0 l0_1 (s.length:Int) y484)=some (r1,r2,r3):=by first|(rw[hy484];with_reducible exact H)|(have a2:=(Option.bind_some _ _).symm.trans H;rw[hy484];with_reducible exact a2)|(have a2:=(Option.bind_some _ _).symm.trans H;with_reducible exact a2)|with_reducible exact H|(rw[hy484];exact H)|exact H
 have cA:=zM hy484
 clear hy484
 have H':=zM H
 clear H
 have bC:0≤(A:Int):=zzA
 have bD:A<(s.length:Int):=zzA
 obtain⟨aE,cB,df⟩:=Kd.at_int (Kd.R_reads' D.out).2.2 A bC bD
 cases cB
 replace bC:=eq_true bC
 replace bD:=eq_true bD
 try go_wp2
 replace z:=zM (Kd.R_drew z.out)
 replace D:=zM (Kd.R_drew D.out)
 replace y:=zM (Kd.S_drew y.out)
 replace r:=zM (blk_drew r.out)
 replace u:=zM (blk_drew u.out)
 replace x:=zM (blk_drew x.out)
 replace HB:=zM (below_drew1 HB.out)
 have bE:0≤(a:Int):=zzA
 have bF:a<(l0_1.length:Int):=zzA
 obtain⟨q,aa,ab,Y,Z,cC,bl,bm,bn,bo,bp,bq,br,bs,bt,bu,bS,bT,bU,bV⟩:=at_T64 be.out a bE bF
 have ak:=bu
 have al:=bt
 have am:=bs
 have an:=br
 have ao:=bq
 have ap:=bp
 have aq:=bo
 have ar:=bn
 have au:=bm
 have av:=bl
 cases cC
 replace bl:=sX HB bl
 replace bm:=sX HB bm
 replace bn:=sX HB bn
 replace bo:=sX HB bo
 replace bp:=sX HB bp
 replace bq:=sX HB bq
 replace br:=sX HB br
 replace bs:=sX HB bs
 replace bt:=sX HB bt
 replace bu:=sX HB bu
 have bW:=zM bT
 have cD:=zM bS
 clear bT bS
 have bX:=zM bV
 have cE:=zM bU
 clear bV bU
 replace bE:=eq_true bE
 replace bF:=eq_true bF
 refine start_ (n:=9) (S:=fun w'=>w'.cell? ⟨ae,0,none⟩=some (.int .i64 a0_0)∧w'.cell? ⟨ae,1,none⟩=some (.slice (some q) l0_1.length c0_1)∧w'.cell? (q.add ((a).toNat*10))=some (.int .i64 ((rd_T64 l0_1 a).f0))∧w'.cell? ⟨(q.add ((a).toNat*10)).block,(q.add ((a).toNat*10)).off+1,none⟩=some (.int .i64 ((rd_T64 l0_1 a).f1))∧w'.cell? ⟨(q.add ((a).toNat*10)).block,(q.add ((a).toNat*10)).off+2,none⟩=some (.string ((rd_T64 l0_1 a).f2))∧w'.cell? ⟨(q.add ((a).toNat*10)).block,(q.add ((a).toNat*10)).off+3,none⟩=some (.int .i64 ((rd_T64 l0_1 a).f3))∧w'.cell? ⟨(q.add ((a).toNat*10)).block,(q.add ((a).toNat*10)).off+4,none⟩=some (.slice aa ((rd_T64 l0_1 a).f4).length ab)∧w'.cell? ⟨(q.add ((a).toNat*10)).block,(q.add ((a).toNat*10)).off+5,none⟩=some (.slice Y ((rd_T64 l0_1 a).f5).length Z)∧w'.cell? ⟨(q.add ((a).toNat*10)).block,(q.add ((a).toNat*10)).off+6,none⟩=some (.int .i64 ((rd_T64 l0_1 a).f6.f0))∧w'.cell? ⟨(q.add ((a).toNat*10)).block,(q.add ((a).toNat*10)).off+7,none⟩=some (.int .i64 ((rd_T64 l0_1 a).f6.f1))∧w'.cell? ⟨(q.add ((a).toNat*10)).block,(q.add ((a).toNat*10)).off+8,none⟩=some (.string ((rd_T64 l0_1 a).f6.f2))∧w'.cell? ⟨(q.add ((a).toNat*10)).block,(q.add ((a).toNat*10)).off+9,none⟩=some (.int .i64 ((rd_T64 l0_1 a).f6.f3))) (ds:=[]) #[false,false,false,false,false,false,false,false,false] (by kernel_rfl) rfl rfl ⟨(blk_cell r.out 0).trans rfl,(blk_cell r.out 1).trans rfl,((HB.out.cell (zL w _ av)).trans av),((HB.out.cell (zL w _ au)).trans au),((HB.out.cell (zL w _ ar)).trans ar),((HB.out.cell (zL w _ aq)).trans aq),((HB.out.cell (zL w _ ap)).trans ap),((HB.out.cell (zL w _ ao)).trans ao),((HB.out.cell (zL w _ an)).trans an),((HB.out.cell (zL w _ am)).trans am),((HB.out.cell (zL w _ al)).trans al),((HB.out.cell (zL w _ ak)).trans ak)⟩ (fun hHeld=>?_);refine with_tabW impl_Heap_collect.tab6 impl_Heap_collect.bits6 (fun O a3=>?_)
 generalize wr.drew=w25 at z D y r u x HB bW bX bl bm bn bo bp bq br bs bt bu hHeld ⊢
 refine pure_ (i:=0) (N:=some 24) (v:=?_) (a':=?_) (bN 9 1) rfl rfl (any_of O.out (by kernel_rfl)) (fun _ _ _ h=>h) (Or.inl ⟨by rfl,?_⟩) ?_ ?_
 rotate_left
 ·(
 intro w'
 go_simp
 with_reducible rfl)
 rotate_left
 ·(
 simp only[zP,i64_w,i32_w]
 rfl)
 refine pure_ (i:=3) (N:=some 27) (v:=?_) (a':=?_) (bN 9 9) rfl rfl (any_of O.out (by kernel_rfl)) (fun _ _ _ h=>h) (Or.inl ⟨by rfl,?_⟩) ?_ ?_
 rotate_left
 ·(
 intro w'
 go_simp
 with_reducible rfl)
 rotate_left
 ·(
 simp only[zP,i64_w,i32_w]
 rfl)
 refine take_ (i:=1) (N:=some 25) (v:=?_) (a':=?_) (bN 9 11) rfl rfl (take_ofW O.out a3.out (by kernel_rfl)) (fun _ _ _ h=>h) (Or.inl ⟨by rfl,?_⟩) hHeld ?_ ?_
 rotate_left
 ·(
 rintro w' ⟨s0,s1,s2,s3,s4,s5,s6,s7,s8,s9,bG,bH⟩
 go_simp
 with_reducible rfl)
 rotate_left
 ·(
 simp only[zP,i64_w,i32_w]
 rfl)
 refine take_ (i:=2) (N:=some 26) (v:=?_) (a':=?_) (bN 9 15) rfl rfl (take_ofW O.out a3.out (by kernel_rfl)) (fun _ _ _ h=>h) (Or.inl ⟨by rfl,?_⟩) hHeld ?_ ?_
 rotate_left
 ·(
 rintro w' ⟨s0,s1,s2,s3,s4,s5,s6,s7,s8,s9,bG,bH⟩
 go_simp
 with_reducible rfl)
 rotate_left
 ·(
 simp only[zP,i64_w,i32_w]
 rfl)
 refine join_ (σ:=Nat) 1 (bN 9 255) (fun s_=>[(28,.int .i64 a),(10,.pointer (some ⟨s_,0,none⟩)),(29,.pointer (some (q.add ((a).toNat*10)))),(30,.agg #[.int .i64 ((rd_T64 l0_1 a).f0),.int .i64 ((rd_T64 l0_1 a).f1),.string ((rd_T64 l0_1 a).f2),.int .i64 ((rd_T64 l0_1 a).f3),.slice aa ((rd_T64 l0_1 a).f4).length ab,.slice Y ((rd_T64 l0_1 a).f5).length Z,.int .i64 ((rd_T64 l0_1 a).f6.f0),.int .i64 ((rd_T64 l0_1 a).f6.f1),.string ((rd_T64 l0_1 a).f6.f2),.int .i64 ((rd_T64 l0_1 a).f6.f3)])]) (fun s_ w'=>(w'.cell? ⟨ae,0,none⟩=some (.int .i64 a0_0)∧w'.cell? ⟨ae,1,none⟩=some (.slice (some q) l0_1.length c0_1)∧w'.cell? (q.add ((a).toNat*10))=some (.int .i64 ((rd_T64 l0_1 a).f0))∧w'.cell? ⟨(q.add ((a).toNat*10)).block,(q.add ((a).toNat*10)).off+1,none⟩=some (.int .i64 ((rd_T64 l0_1 a).f1))∧w'.cell? ⟨(q.add ((a).toNat*10)).block,(q.add ((a).toNat*10)).off+2,none⟩=some (.string ((rd_T64 l0_1 a).f2))∧w'.cell? ⟨(q.add ((a).toNat*10)).block,(q.add ((a).toNat*10)).off+3,none⟩=some (.int .i64 ((rd_T64 l0_1 a).f3))∧w'.cell? ⟨(q.add ((a).toNat*10)).block,(q.add ((a).toNat*10)).off+4,none⟩=some (.slice aa ((rd_T64 l0_1 a).f4).length ab)∧w'.cell? ⟨(q.add ((a).toNat*10)).block,(q.add ((a).toNat*10)).off+5,none⟩=some (.slice Y ((rd_T64 l0_1 a).f5).length Z)∧w'.cell? ⟨(q.add ((a).toNat*10)).block,(q.add ((a).toNat*10)).off+6,none⟩=some (.int .i64 ((rd_T64 l0_1 a).f6.f0))∧w'.cell? ⟨(q.add ((a).toNat*10)).block,(q.add ((a).toNat*10)).off+7,none⟩=some (.int .i64 ((rd_T64 l0_1 a).f6.f1))∧w'.cell? ⟨(q.add ((a).toNat*10)).block,(q.add ((a).toNat*10)).off+8,none⟩=some (.string ((rd_T64 l0_1 a).f6.f2))∧w'.cell? ⟨(q.add ((a).toNat*10)).block,(q.add ((a).toNat*10)).off+9,none⟩=some (.int .i64 ((rd_T64 l0_1 a).f6.f3)))∧(Kd.R (Kd.int .i64) 2 w' w.heap.size (fun _=>True) (.slice (some aE) s.length aj) s)∧(Kd.S k64 64 w' w.heap.size (fun m=>m≠s_) X ax)∧(Kd.R (Kd.int .i64) 2 w' w.heap.size (fun _=>True) (.slice (some aE) s.length aj) s)∧(w'.heap[ae]?=some (.cells #[.int .i64 a0_0,.slice (some q) l0_1.length c0_1] 32 (0,0)))∧(w'.heap[ac]?=some (.cells #[.int .i64 0,.slice none 0 0] 32 (0,0)))∧(w'.heap[ad]?=some (.cells #[.int .i64 (s.length:Int),X] 32 (0,0)))∧(w'.heap[s_]?=some (.cells #[.int .i64 0,.int .i64 0,.string (⟨#[]⟩:ByteArray),.int .i64 0,.slice none 0 0,.slice none 0 0,.int .i64 0,.int .i64 0,.string (⟨#[]⟩:ByteArray),.int .i64 0] 64 (0,0)))∧(w.heap.size≤s_)∧(w.heap.size≤s_)∧(ae≠s_)∧(s_≠ae)∧(ac≠s_)∧(s_≠ac)∧(ad≠s_)∧(s_≠ad)∧(Below w.heap.size w w')) ?_ ?_
 rotate_left
 ·(
 intro hCont
 refine two_ (i:=4) (j:=7) (Ni:=some 28) (Nj:=some 10) (bN 9 31) (bN 9 143) rfl rfl rfl rfl (two_of O.out (by kernel_rfl)) (by decide) (by decide) (fun K hK=>?_) (fun K hK=>?_)
 ·(
 skip
 refine goes_ Try.func75 (by kernel_rfl) rfl #[.agg #[.int .i64 a0_0,.slice (some q) l0_1.length c0_1],.int .i64 (rd s A)] (by rfl) rfl rfl (by(try simp only[List.map_toArray,List.map_cons,List.map_nil]);first|done|rfl|(simp only[List.length_drop,List.length_take];rfl)) ?_
 with_reducible refine(impl_Heap_find.calls k1 a0_0 _ _ l0_1 (rd s A) a _ ?side1 ?side2 bQ.out).mono ?_
 (case side1=>exact sD (zC be.out HB.out))
 (case side2=>exact bx.out)
 rintro e cF ⟨rfl,hb⟩
 refine⟨_,rfl,?_⟩
 replace z:=zM (Kd.R_below (sE z.out) hb)
 replace D:=zM (Kd.R_below (sE D.out) hb)
 replace y:=zM (Kd.S_below (sI y.out) hb)
 replace r:=sK r hb
 replace u:=sK u hb
 replace x:=sK x hb
 replace HB:=sB HB hb
 (try clear hb)
 (try clear hb2)
 (try clear hk)
 (try clear hi)
 refine hK.out _ _ ⟨(blk_cell r.out 0).trans rfl,(blk_cell r.out 1).trans rfl,((HB.out.cell (zL w _ av)).trans av),((HB.out.cell (zL w _ au)).trans au),((HB.out.cell (zL w _ ar)).trans ar),((HB.out.cell (zL w _ aq)).trans aq),((HB.out.cell (zL w _ ap)).trans ap),((HB.out.cell (zL w _ ao)).trans ao),((HB.out.cell (zL w _ an)).trans an),((HB.out.cell (zL w _ am)).trans am),((HB.out.cell (zL w _ al)).trans al),((HB.out.cell (zL w _ ak)).trans ak)⟩ (fun hHeld=>?_)
 clear hK K
 refine norm_ (a':=?_) ?_ ?_
 rotate_left
 ·(
 show Act.put _ (some 28) _=_
 simp only[zP,i64_w,i32_w]
 rfl)
 refine pure_ (i:=5) (N:=some 29) (v:=?_) (a':=?_) (bN 9 63) rfl rfl (any_of O.out (by kernel_rfl)) (fun _ _ _ h=>h) (Or.inl ⟨by rfl,?_⟩) ?_ ?_
 rotate_left
 ·(
 intro w'
 go_simp
 with_reducible rfl)
 rotate_left
 ·(
 simp only[zP,i64_w,i32_w]
 rfl)
 refine take_ (i:=6) (N:=some 30) (v:=?_) (a':=?_) (bN 9 127) rfl rfl (take_ofW O.out a3.out (by kernel_rfl)) (fun _ _ _ h=>h) (Or.inl ⟨by rfl,?_⟩) hHeld ?_ ?_
 rotate_left
 ·(
 rintro w' ⟨s0,s1,s2,s3,s4,s5,s6,s7,s8,s9,bG,bH⟩
 go_simp
 with_reducible rfl)
 rotate_left
 ·(
 simp only[zP,i64_w,i32_w]
 rfl)
 refine one_ (i:=7) (N:=some 10) (bN 9 255) rfl rfl (one_of O.out (by kernel_rfl)) (by decide) (fun K hK=>?_)
 refine box_step ?hg (N:=10) ?hd (cs:= #[.int .i64 0,.int .i64 0,.string (⟨#[]⟩:ByteArray),.int .i64 0,.slice none 0 0,.slice none 0 0,.int .i64 0,.int .i64 0,.string (⟨#[]⟩:ByteArray),.int .i64 0]) (t:=64) ?hr ?_;(case hd=>rfl);(case hg=>rfl);(case hr=>first|(go_simp;done)|(go_simp;rfl))
 intro c hg cG hbox hb
 replace z:=zM (Kd.R_below (sE z.out) hb)
 replace D:=zM (Kd.R_below (sE D.out) hb)
 replace y:=zM (Kd.S_below (Kd.S_elderB (sI y.out) c (Nat.le_of_eq hg.symm)) hb)
 have d:=zM (hbox)
 have B:=sG HB hg
 have ay:=sG HB hg
 replace HB:=sB HB hb
 have F:=sN r hg
 have af:=sM r hg
 replace r:=sK r hb
 have G:=sN u hg
 have ag:=sM u hg
 replace u:=sK u hb
 have I:=sN x hg
 have ah:=sM x hg
 replace x:=sK x hb
 clear hb hbox hg
 refine hK.out _ _ ⟨(blk_cell r.out 0).trans rfl,(blk_cell r.out 1).trans rfl,((HB.out.cell (zL w _ av)).trans av),((HB.out.cell (zL w _ au)).trans au),((HB.out.cell (zL w _ ar)).trans ar),((HB.out.cell (zL w _ aq)).trans aq),((HB.out.cell (zL w _ ap)).trans ap),((HB.out.cell (zL w _ ao)).trans ao),((HB.out.cell (zL w _ an)).trans an),((HB.out.cell (zL w _ am)).trans am),((HB.out.cell (zL w _ al)).trans al),((HB.out.cell (zL w _ ak)).trans ak)⟩ (fun hHeld=>?_)
 clear hK K
 refine norm_ (a':=?_) ?_ ?_
 rotate_left
 ·(
 show Act.put _ (some 10) _=_
 simp only[zP,i64_w,i32_w]
 rfl)
 exact norm_ (by simp only[putAll,Act.put,List.setIfInBounds_toArray,List.set_cons_zero,List.set_cons_succ]) (hCont (c) _ ⟨hHeld,(sE D.out),(by(with_reducible repeat(first|apply Kd.S_alloc|apply Kd.S_drewN|apply Kd.S_drew));exact Kd.S_mono y.out (fun _ hk=>hk.2)),(sE z.out),(sT r.out),(sT u.out),(sT x.out),(sT d.out),B.out,ay.out,F.out,af.out,G.out,ag.out,I.out,ah.out,zzR⟩))
 ·(
 skip
 refine box_step ?hg (N:=10) ?hd (cs:= #[.int .i64 0,.int .i64 0,.string (⟨#[]⟩:ByteArray),.int .i64 0,.slice none 0 0,.slice none 0 0,.int .i64 0,.int .i64 0,.string (⟨#[]⟩:ByteArray),.int .i64 0]) (t:=64) ?hr ?_;(case hd=>rfl);(case hg=>rfl);(case hr=>first|(go_simp;done)|(go_simp;rfl))
 intro c hg cF hbox hb
 replace z:=zM (Kd.R_below (sE z.out) hb)
 replace D:=zM (Kd.R_below (sE D.out) hb)
 replace y:=zM (Kd.S_below (Kd.S_elderB (sI y.out) c (Nat.le_of_eq hg.symm)) hb)
 have d:=zM (hbox)
 have B:=sG HB hg
 have ay:=sG HB hg
 replace HB:=sB HB hb
 have F:=sN r hg
 have af:=sM r hg
 replace r:=sK r hb
 have G:=sN u hg
 have ag:=sM u hg
 replace u:=sK u hb
 have I:=sN x hg
 have ah:=sM x hg
 replace x:=sK x hb
 clear hb hbox hg
 refine hK.out _ _ ⟨(blk_cell r.out 0).trans rfl,(blk_cell r.out 1).trans rfl,((HB.out.cell (zL w _ av)).trans av),((HB.out.cell (zL w _ au)).trans au),((HB.out.cell (zL w _ ar)).trans ar),((HB.out.cell (zL w _ aq)).trans aq),((HB.out.cell (zL w _ ap)).trans ap),((HB.out.cell (zL w _ ao)).trans ao),((HB.out.cell (zL w _ an)).trans an),((HB.out.cell (zL w _ am)).trans am),((HB.out.cell (zL w _ al)).trans al),((HB.out.cell (zL w _ ak)).trans ak)⟩ (fun hHeld=>?_)
 clear hK K
 refine norm_ (a':=?_) ?_ ?_
 rotate_left
 ·(
 show Act.put _ (some 10) _=_
 simp only[zP,i64_w,i32_w]
 rfl)
 refine one_ (i:=4) (N:=some 28) (bN 9 159) rfl rfl (one_of O.out (by kernel_rfl)) (by decide) (fun K hK=>?_)
 refine goes_ Try.func75 (by kernel_rfl) rfl #[.agg #[.int .i64 a0_0,.slice (some q) l0_1.length c0_1],.int .i64 (rd s A)] (by rfl) rfl rfl (by(try simp only[List.map_toArray,List.map_cons,List.map_nil]);first|done|rfl|(simp only[List.length_drop,List.length_take];rfl)) ?_
 with_reducible refine(impl_Heap_find.calls k1 a0_0 _ _ l0_1 (rd s A) a _ ?side1 ?side2 bQ.out).mono ?_
 (case side1=>exact sD (zC be.out HB.out))
 (case side2=>exact bx.out)
 rintro e cG ⟨rfl,hb⟩
 refine⟨_,rfl,?_⟩
 replace z:=zM (Kd.R_below (sE z.out) hb)
 replace D:=zM (Kd.R_below (sE D.out) hb)
 replace y:=zM (Kd.S_below (sI y.out) hb)
 replace r:=sK r hb
 replace u:=sK u hb
 replace x:=sK x hb
 replace d:=sK d hb
 replace HB:=sB HB hb
 (try clear hb)
 (try clear hb2)
 (try clear hk)
 (try clear hi)
 refine hK.out _ _ ⟨(blk_cell r.out 0).trans rfl,(blk_cell r.out 1).trans rfl,((HB.out.cell (zL w _ av)).trans av),((HB.out.cell (zL w _ au)).trans au),((HB.out.cell (zL w _ ar)).trans ar),((HB.out.cell (zL w _ aq)).trans aq),((HB.out.cell (zL w _ ap)).trans ap),((HB.out.cell (zL w _ ao)).trans ao),((HB.out.cell (zL w _ an)).trans an),((HB.out.cell (zL w _ am)).trans am),((HB.out.cell (zL w _ al)).trans al),((HB.out.cell (zL w _ ak)).trans ak)⟩ (fun hHeld=>?_)
 clear hK K
 refine norm_ (a':=?_) ?_ ?_
 rotate_left
 ·(
 show Act.put _ (some 28) _=_
 simp only[zP,i64_w,i32_w]
 rfl)
 refine pure_ (i:=5) (N:=some 29) (v:=?_) (a':=?_) (bN 9 191) rfl rfl (any_of O.out (by kernel_rfl)) (fun _ _ _ h=>h) (Or.inl ⟨by rfl,?_⟩) ?_ ?_
 rotate_left
 ·(
 intro w'
 go_simp
 with_reducible rfl)
 rotate_left
 ·(
 simp only[zP,i64_w,i32_w]
 rfl)
 refine take_ (i:=6) (N:=some 30) (v:=?_) (a':=?_) (bN 9 255) rfl rfl (take_ofW O.out a3.out (by kernel_rfl)) (fun _ _ _ h=>h) (Or.inl ⟨by rfl,?_⟩) hHeld ?_ ?_
 rotate_left
 ·(
 rintro w' ⟨s0,s1,s2,s3,s4,s5,s6,s7,s8,s9,bG,bH⟩
 go_simp
 with_reducible rfl)
 rotate_left
 ·(
 simp only[zP,i64_w,i32_w]
 rfl)
 exact norm_ (by simp only[putAll,Act.put,List.setIfInBounds_toArray,List.set_cons_zero,List.set_cons_succ]) (hCont (c) _ ⟨hHeld,(sE D.out),(by(with_reducible repeat(first|apply Kd.S_alloc|apply Kd.S_drewN|apply Kd.S_drew));exact Kd.S_mono y.out (fun _ hk=>hk.2)),(sE z.out),(sT r.out),(sT u.out),(sT x.out),(sT d.out),B.out,ay.out,F.out,af.out,G.out,ag.out,I.out,ah.out,zzR⟩)))
 rintro c E ⟨cH,bY,bZ,b0,b1,b2,b3,b4,b5,b6,b7,b8,b9,ca,cb,cc,cd⟩
 replace D:Aside0 (Kd.R (Kd.int .i64) 2 E w.heap.size (fun _=>True) (.slice (some aE) s.length aj) s):=⟨bY⟩
 replace y:Aside0 (Kd.S k64 64 E w.heap.size (fun m=>m≠c) X ax):=⟨bZ⟩
 replace z:Aside0 (Kd.R (Kd.int .i64) 2 E w.heap.size (fun _=>True) (.slice (some aE) s.length aj) s):=⟨b0⟩
 replace r:Aside0 (E.heap[ae]?=some (.cells #[.int .i64 a0_0,.slice (some q) l0_1.length c0_1] 32 (0,0))):=⟨b1⟩
 replace u:Aside0 (E.heap[ac]?=some (.cells #[.int .i64 0,.slice none 0 0] 32 (0,0))):=⟨b2⟩
 replace x:Aside0 (E.heap[ad]?=some (.cells #[.int .i64 (s.length:Int),X] 32 (0,0))):=⟨b3⟩
 have d:Aside0 (E.heap[c]?=some (.cells #[.int .i64 0,.int .i64 0,.string (⟨#[]⟩:ByteArray),.int .i64 0,.slice none 0 0,.slice none 0 0,.int .i64 0,.int .i64 0,.string (⟨#[]⟩:ByteArray),.int .i64 0] 64 (0,0))):=⟨b4⟩
 have B:Aside0 (w.heap.size≤c):=⟨b5⟩
 have ay:Aside0 (w.heap.size≤c):=⟨b6⟩
 have F:Aside0 (ae≠c):=⟨b7⟩
 have af:Aside0 (c≠ae):=⟨b8⟩
 have G:Aside0 (ac≠c):=⟨b9⟩
 have ag:Aside0 (c≠ac):=⟨ca⟩
 have I:Aside0 (ad≠c):=⟨cb⟩
 have ah:Aside0 (c≠ad):=⟨cc⟩
 replace HB:Aside0 (Below w.heap.size w E):=⟨cd⟩
 clear bY bZ b0 b1 b2 b3 b4 b5 b6 b7 b8 b9 ca cb cc cd
 have hHeld:E.cell? ⟨ae,0,none⟩=some (.int .i64 a0_0)∧E.cell? ⟨ae,1,none⟩=some (.slice (some q) l0_1.length c0_1)∧E.cell? (q.add ((a).toNat*10))=some (.int .i64 ((rd_T64 l0_1 a).f0))∧E.cell? ⟨(q.add ((a).toNat*10)).block,(q.add ((a).toNat*10)).off+1,none⟩=some (.int .i64 ((rd_T64 l0_1 a).f1))∧E.cell? ⟨(q.add ((a).toNat*10)).block,(q.add ((a).toNat*10)).off+2,none⟩=some (.string ((rd_T64 l0_1 a).f2))∧E.cell? ⟨(q.add ((a).toNat*10)).block,(q.add ((a).toNat*10)).off+3,none⟩=some (.int .i64 ((rd_T64 l0_1 a).f3))∧E.cell? ⟨(q.add ((a).toNat*10)).block,(q.add ((a).toNat*10)).off+4,none⟩=some (.slice aa ((rd_T64 l0_1 a).f4).length ab)∧E.cell? ⟨(q.add ((a).toNat*10)).block,(q.add ((a).toNat*10)).off+5,none⟩=some (.slice Y ((rd_T64 l0_1 a).f5).length Z)∧E.cell? ⟨(q.add ((a).toNat*10)).block,(q.add ((a).toNat*10)).off+6,none⟩=some (.int .i64 ((rd_T64 l0_1 a).f6.f0))∧E.cell? ⟨(q.add ((a).toNat*10)).block,(q.add ((a).toNat*10)).off+7,none⟩=some (.int .i64 ((rd_T64 l0_1 a).f6.f1))∧E.cell? ⟨(q.add ((a).toNat*10)).block,(q.add ((a).toNat*10)).off+8,none⟩=some (.string ((rd_T64 l0_1 a).f6.f2))∧E.cell? ⟨(q.add ((a).toNat*10)).block,(q.add ((a).toNat*10)).off+9,none⟩=some (.int .i64 ((rd_T64 l0_1 a).f6.f3)):=cH
 refine norm_ (a':=?_) ?_ ?_
 rotate_left
 ·(
 simp only[putAll,Act.put,List.setIfInBounds_toArray,List.set_cons_zero,List.set_cons_succ]
 rfl)
 refine one_ (i:=8) (N:=none) (bN 9 511) rfl rfl (one_of O.out (by kernel_rfl)) (by decide) (fun K hK=>?_)
 have dg:E.cell? ⟨c,0,none⟩=some (.int .i64 0):=(blk_cell d.out 0).trans rfl
 have dh:=blk_frozen d.out 0
 have di:=F.out
 have dj:=G.out
 have dk:=I.out
 have dl:=af.out
 have dm:=ag.out
 have dn:=ah.out
 have dp:E.cell? ⟨c,1,none⟩=some (.int .i64 0):=(blk_cell d.out 1).trans rfl
 have dq:=blk_frozen d.out 1
 have dr:=F.out
 have dt:=G.out
 have du:=I.out
 have dv:=af.out
 have dw:=ag.out
 have dx:=ah.out
 have dy:E.cell? ⟨c,2,none⟩=some (.string (⟨#[]⟩:ByteArray)):=(blk_cell d.out 2).trans rfl
 have dz:=blk_frozen d.out 2
 have dA:=F.out
 have dB:=G.out
 have dC:=I.out
 have dD:=af.out
 have dE:=ag.out
 have dF:=ah.out
 have dG:E.cell? ⟨c,3,none⟩=some (.int .i64 0):=(blk_cell d.out 3).trans rfl
 have dH:=blk_frozen d.out 3
 have dI:=F.out
 have dJ:=G.out
 have dK:=I.out
 have dL:=af.out
 have dM:=ag.out
 have dN:=ah.out
 have dO:E.cell? ⟨c,4,none⟩=some (.slice none 0 0):=(blk_cell d.out 4).trans rfl
 have dP:=blk_frozen d.out 4
 have dQ:=F.out
 have dR:=G.out
 have dS:=I.out
 have dT:=af.out
 have dU:=ag.out
 have dV:=ah.out
 have dW:E.cell? ⟨c,5,none⟩=some (.slice none 0 0):=(blk_cell d.out 5).trans rfl
 have dX:=blk_frozen d.out 5
 have dY:=F.out
 have dZ:=G.out
 have d0:=I.out
 have d1:=af.out
 have d2:=ag.out
 have d3:=ah.out
 have d4:E.cell? ⟨c,6,none⟩=some (.int .i64 0):=(blk_cell d.out 6).trans rfl
 have d5:=blk_frozen d.out 6
 have d6:=F.out
 have d7:=G.out
 have d8:=I.out
 have d9:=af.out
 have ea:=ag.out
 have eb:=ah.out
 have ec:E.cell? ⟨c,7,none⟩=some (.int .i64 0):=(blk_cell d.out 7).trans rfl
 have ed:=blk_frozen d.out 7
 have ee:=F.out
 have ef:=G.out
 have eg:=I.out
 have eh:=af.out
 have ei:=ag.out
 have ej:=ah.out
 have ek:E.cell? ⟨c,8,none⟩=some (.string (⟨#[]⟩:ByteArray)):=(blk_cell d.out 8).trans rfl
 have el:=blk_frozen d.out 8
 have em:=F.out
 have en:=G.out
 have eo:=I.out
 have ep:=af.out
 have er:=ag.out
 have es:=ah.out
 have et:E.cell? ⟨c,9,none⟩=some (.int .i64 0):=(blk_cell d.out 9).trans rfl
 have eu:=blk_frozen d.out 9
 have ev:=F.out
 have ew:=G.out
 have ex:=I.out
 have ey:=af.out
 have ez:=ag.out
 have eA:=ah.out
 refine skip_ (w1:=?_) (by rfl) rfl ?_ ?_
 rotate_left
 ·(
 go_simp
 rfl)
 refine hK.out _ _ ⟨(sQ10 (g:=c) F.out (hHeld.1)),(sQ10 (g:=c) F.out (hHeld.2.1)),(sQ10 (g:=c) (by first|exact zzU av B.out|(rw[add_block];exact zzU av B.out)|(show(Addr.add _ _).block≠_;rw[add_block];exact zzU av B.out)|(dsimp only;exact zzU av B.out)) (hHeld.2.2.1)),(sQ10 (g:=c) (by first|exact zzU au B.out|(rw[add_block];exact zzU au B.out)|(show(Addr.add _ _).block≠_;rw[add_block];exact zzU au B.out)|(dsimp only;exact zzU au B.out)) (hHeld.2.2.2.1)),(sQ10 (g:=c) (by first|exact zzU ar B.out|(rw[add_block];exact zzU ar B.out)|(show(Addr.add _ _).block≠_;rw[add_block];exact zzU ar B.out)|(dsimp only;exact zzU ar B.out)) (hHeld.2.2.2.2.1)),(sQ10 (g:=c) (by first|exact zzU aq B.out|(rw[add_block];exact zzU aq B.out)|(show(Addr.add _ _).block≠_;rw[add_block];exact zzU aq B.out)|(dsimp only;exact zzU aq B.out)) (hHeld.2.2.2.2.2.1)),(sQ10 (g:=c) (by first|exact zzU ap B.out|(rw[add_block];exact zzU ap B.out)|(show(Addr.add _ _).block≠_;rw[add_block];exact zzU ap B.out)|(dsimp only;exact zzU ap B.out)) (hHeld.2.2.2.2.2.2.1)),(sQ10 (g:=c) (by first|exact zzU ao B.out|(rw[add_block];exact zzU ao B.out)|(show(Addr.add _ _).block≠_;rw[add_block];exact zzU ao B.out)|(dsimp only;exact zzU ao B.out)) (hHeld.2.2.2.2.2.2.2.1)),(sQ10 (g:=c) (by first|exact zzU an B.out|(rw[add_block];exact zzU an B.out)|(show(Addr.add _ _).block≠_;rw[add_block];exact zzU an B.out)|(dsimp only;exact zzU an B.out)) (hHeld.2.2.2.2.2.2.2.2.1)),(sQ10 (g:=c) (by first|exact zzU am B.out|(rw[add_block];exact zzU am B.out)|(show(Addr.add _ _).block≠_;rw[add_block];exact zzU am B.out)|(dsimp only;exact zzU am B.out)) (hHeld.2.2.2.2.2.2.2.2.2.1)),(sQ10 (g:=c) (by first|exact zzU al B.out|(rw[add_block];exact zzU al B.out)|(show(Addr.add _ _).block≠_;rw[add_block];exact zzU al B.out)|(dsimp only;exact zzU al B.out)) (hHeld.2.2.2.2.2.2.2.2.2.2.1)),(sQ10 (g:=c) (by first|exact zzU ak B.out|(rw[add_block];exact zzU ak B.out)|(show(Addr.add _ _).block≠_;rw[add_block];exact zzU ak B.out)|(dsimp only;exact zzU ak B.out)) (hHeld.2.2.2.2.2.2.2.2.2.2.2))⟩ (fun hHeld=>?_)
 clear hK K
 refine done_ (done_of O.out (by kernel_rfl)) ?_
 have eB:=af.out
 have eC:=F.out
 have eD:=ag.out
 have eE:=G.out
 have eF:=ah.out
 have eG:=I.out
 obtain⟨eH,eI,eJ,eK,eL,eM,eN,eO,eP,eQ,eR,eS,eT,eU,eV,eW,eX,eY,eZ,e0⟩:=cells10 d.out
 try go_wp2
 have aM:Aside0 (Kd.R (Kd.int .i64) 2 (((((((((((E.setCell ⟨c,0,none⟩ (.int .i64 ((rd_T64 l0_1 a).f0))).setCell ⟨c,1,none⟩ (.int .i64 ((rd_T64 l0_1 a).f1))).setCell ⟨c,2,none⟩ (.string ((rd_T64 l0_1 a).f2))).setCell ⟨c,3,none⟩ (.int .i64 ((rd_T64 l0_1 a).f3))).setCell ⟨c,4,none⟩ (.slice aa ((rd_T64 l0_1 a).f4).length ab)).setCell ⟨c,5,none⟩ (.slice Y ((rd_T64 l0_1 a).f5).length Z)).setCell ⟨c,6,none⟩ (.int .i64 ((rd_T64 l0_1 a).f6.f0))).setCell ⟨c,7,none⟩ (.int .i64 ((rd_T64 l0_1 a).f6.f1))).setCell ⟨c,8,none⟩ (.string ((rd_T64 l0_1 a).f6.f2))).setCell ⟨c,9,none⟩ (.int .i64 ((rd_T64 l0_1 a).f6.f3))).setCell ⟨c,0,none⟩ (.int .i64 (wrap64 (A+1)))) w.heap.size (fun _=>True) (.slice (some aE) s.length aj) s):=⟨by(with_reducible repeat(first|apply Kd.R_alloc|apply Kd.R_drewN|apply Kd.R_drew));exact Kd.R_mono (Kd.R_far (p:=⟨c,0,none⟩) (sRF10 (g:=c) (Kd.R_types z.out d.out (by decide)) (fun _ hk=>hk.2)) (fun _ hk=>hk.2) (.int .i64 (wrap64 (A+1)))) (fun _ hk=>trivial)⟩
 have aN:Aside0 (Kd.R (Kd.int .i64) 2 (((((((((((E.setCell ⟨c,0,none⟩ (.int .i64 ((rd_T64 l0_1 a).f0))).setCell ⟨c,1,none⟩ (.int .i64 ((rd_T64 l0_1 a).f1))).setCell ⟨c,2,none⟩ (.string ((rd_T64 l0_1 a).f2))).setCell ⟨c,3,none⟩ (.int .i64 ((rd_T64 l0_1 a).f3))).setCell ⟨c,4,none⟩ (.slice aa ((rd_T64 l0_1 a).f4).length ab)).setCell ⟨c,5,none⟩ (.slice Y ((rd_T64 l0_1 a).f5).length Z)).setCell ⟨c,6,none⟩ (.int .i64 ((rd_T64 l0_1 a).f6.f0))).setCell ⟨c,7,none⟩ (.int .i64 ((rd_T64 l0_1 a).f6.f1))).setCell ⟨c,8,none⟩ (.string ((rd_T64 l0_1 a).f6.f2))).setCell ⟨c,9,none⟩ (.int .i64 ((rd_T64 l0_1 a).f6.f3))).setCell ⟨c,0,none⟩ (.int .i64 (wrap64 (A+1)))) w.heap.size (fun _=>True) (.slice (some aE) s.length aj) s):=⟨by(with_reducible repeat(first|apply Kd.R_alloc|apply Kd.R_drewN|apply Kd.R_drew));exact Kd.R_mono (Kd.R_far (p:=⟨c,0,none⟩) (sRF10 (g:=c) (Kd.R_types D.out d.out (by decide)) (fun _ hk=>hk.2)) (fun _ hk=>hk.2) (.int .i64 (wrap64 (A+1)))) (fun _ hk=>trivial)⟩
 have aQ:Aside0 (Kd.S k64 64 (((((((((((E.setCell ⟨c,0,none⟩ (.int .i64 ((rd_T64 l0_1 a).f0))).setCell ⟨c,1,none⟩ (.int .i64 ((rd_T64 l0_1 a).f1))).setCell ⟨c,2,none⟩ (.string ((rd_T64 l0_1 a).f2))).setCell ⟨c,3,none⟩ (.int .i64 ((rd_T64 l0_1 a).f3))).setCell ⟨c,4,none⟩ (.slice aa ((rd_T64 l0_1 a).f4).length ab)).setCell ⟨c,5,none⟩ (.slice Y ((rd_T64 l0_1 a).f5).length Z)).setCell ⟨c,6,none⟩ (.int .i64 ((rd_T64 l0_1 a).f6.f0))).setCell ⟨c,7,none⟩ (.int .i64 ((rd_T64 l0_1 a).f6.f1))).setCell ⟨c,8,none⟩ (.string ((rd_T64 l0_1 a).f6.f2))).setCell ⟨c,9,none⟩ (.int .i64 ((rd_T64 l0_1 a).f6.f3))).setCell ⟨c,0,none⟩ (.int .i64 (wrap64 (A+1)))) w.heap.size (fun m=>m≠c) X ax):=⟨by(with_reducible repeat(first|apply Kd.S_alloc|apply Kd.S_drewN|apply Kd.S_drew));exact Kd.S_mono (Kd.S_far (p:=⟨c,0,none⟩) (sSF10 (g:=c) (Kd.S_mono y.out (fun m hk=>(⟨hk,hk⟩:_∧m≠c))) (fun _ hk=>hk.2)) (fun _ hk=>hk.2) (.int .i64 (wrap64 (A+1)))) (fun _ hk=>hk.1)⟩
 have aR:Aside0 ((((((((((((E.setCell ⟨c,0,none⟩ (.int .i64 ((rd_T64 l0_1 a).f0))).setCell ⟨c,1,none⟩ (.int .i64 ((rd_T64 l0_1 a).f1))).setCell ⟨c,2,none⟩ (.string ((rd_T64 l0_1 a).f2))).setCell ⟨c,3,none⟩ (.int .i64 ((rd_T64 l0_1 a).f3))).setCell ⟨c,4,none⟩ (.slice aa ((rd_T64 l0_1 a).f4).length ab)).setCell ⟨c,5,none⟩ (.slice Y ((rd_T64 l0_1 a).f5).length Z)).setCell ⟨c,6,none⟩ (.int .i64 ((rd_T64 l0_1 a).f6.f0))).setCell ⟨c,7,none⟩ (.int .i64 ((rd_T64 l0_1 a).f6.f1))).setCell ⟨c,8,none⟩ (.string ((rd_T64 l0_1 a).f6.f2))).setCell ⟨c,9,none⟩ (.int .i64 ((rd_T64 l0_1 a).f6.f3))).setCell ⟨c,0,none⟩ (.int .i64 (wrap64 (A+1)))).heap[ae]?=some (.cells #[.int .i64 a0_0,.slice (some q) l0_1.length c0_1] 32 (0,0))):=⟨by(with_reducible repeat(first|refine blk_drewN ?_ _|refine blk_drew ?_|refine blk_alloc ?_ _));refine blk_far ?_ F.out _;(with_reducible repeat(first|refine blk_drewN ?_ _|refine blk_drew ?_|refine blk_alloc ?_ _));refine blk_far ?_ F.out _;(with_reducible repeat(first|refine blk_drewN ?_ _|refine blk_drew ?_|refine blk_alloc ?_ _));refine blk_far ?_ F.out _;(with_reducible repeat(first|refine blk_drewN ?_ _|refine blk_drew ?_|refine blk_alloc ?_ _));refine blk_far ?_ F.out _;(with_reducible repeat(first|refine blk_drewN ?_ _|refine blk_drew ?_|refine blk_alloc ?_ _));refine blk_far ?_ F.out _;(with_reducible repeat(first|refine blk_drewN ?_ _|refine blk_drew ?_|refine blk_alloc ?_ _));refine blk_far ?_ F.out _;(with_reducible repeat(first|refine blk_drewN ?_ _|refine blk_drew ?_|refine blk_alloc ?_ _));refine blk_far ?_ F.out _;(with_reducible repeat(first|refine blk_drewN ?_ _|refine blk_drew ?_|refine blk_alloc ?_ _));refine blk_far ?_ F.out _;(with_reducible repeat(first|refine blk_drewN ?_ _|refine blk_drew ?_|refine blk_alloc ?_ _));refine blk_far ?_ F.out _;(with_reducible repeat(first|refine blk_drewN ?_ _|refine blk_drew ?_|refine blk_alloc ?_ _));refine blk_far ?_ F.out _;(with_reducible repeat(first|refine blk_drewN ?_ _|refine blk_drew ?_|refine blk_alloc ?_ _));refine blk_far ?_ F.out _;exact sT r.out⟩
 have aT:Aside0 ((((((((((((E.setCell ⟨c,0,none⟩ (.int .i64 ((rd_T64 l0_1 a).f0))).setCell ⟨c,1,none⟩ (.int .i64 ((rd_T64 l0_1 a).f1))).setCell ⟨c,2,none⟩ (.string ((rd_T64 l0_1 a).f2))).setCell ⟨c,3,none⟩ (.int .i64 ((rd_T64 l0_1 a).f3))).setCell ⟨c,4,none⟩ (.slice aa ((rd_T64 l0_1 a).f4).length ab)).setCell ⟨c,5,none⟩ (.slice Y ((rd_T64 l0_1 a).f5).length Z)).setCell ⟨c,6,none⟩ (.int .i64 ((rd_T64 l0_1 a).f6.f0))).setCell ⟨c,7,none⟩ (.int .i64 ((rd_T64 l0_1 a).f6.f1))).setCell ⟨c,8,none⟩ (.string ((rd_T64 l0_1 a).f6.f2))).setCell ⟨c,9,none⟩ (.int .i64 ((rd_T64 l0_1 a).f6.f3))).setCell ⟨c,0,none⟩ (.int .i64 (wrap64 (A+1)))).heap[ac]?=some (.cells #[.int .i64 0,.slice none 0 0] 32 (0,0))):=⟨by(with_reducible repeat(first|refine blk_drewN ?_ _|refine blk_drew ?_|refine blk_alloc ?_ _));refine blk_far ?_ G.out _;(with_reducible repeat(first|refine blk_drewN ?_ _|refine blk_drew ?_|refine blk_alloc ?_ _));refine blk_far ?_ G.out _;(with_reducible repeat(first|refine blk_drewN ?_ _|refine blk_drew ?_|refine blk_alloc ?_ _));refine blk_far ?_ G.out _;(with_reducible repeat(first|refine blk_drewN ?_ _|refine blk_drew ?_|refine blk_alloc ?_ _));refine blk_far ?_ G.out _;(with_reducible repeat(first|refine blk_drewN ?_ _|refine blk_drew ?_|refine blk_alloc ?_ _));refine blk_far ?_ G.out _;(with_reducible repeat(first|refine blk_drewN ?_ _|refine blk_drew ?_|refine blk_alloc ?_ _));refine blk_far ?_ G.out _;(with_reducible repeat(first|refine blk_drewN ?_ _|refine blk_drew ?_|refine blk_alloc ?_ _));refine blk_far ?_ G.out _;(with_reducible repeat(first|refine blk_drewN ?_ _|refine blk_drew ?_|refine blk_alloc ?_ _));refine blk_far ?_ G.out _;(with_reducible repeat(first|refine blk_drewN ?_ _|refine blk_drew ?_|refine blk_alloc ?_ _));refine blk_far ?_ G.out _;(with_reducible repeat(first|refine blk_drewN ?_ _|refine blk_drew ?_|refine blk_alloc ?_ _));refine blk_far ?_ G.out _;(with_reducible repeat(first|refine blk_drewN ?_ _|refine blk_drew ?_|refine blk_alloc ?_ _));refine blk_far ?_ G.out _;exact sT u.out⟩
 have aU:Aside0 ((((((((((((E.setCell ⟨c,0,none⟩ (.int .i64 ((rd_T64 l0_1 a).f0))).setCell ⟨c,1,none⟩ (.int .i64 ((rd_T64 l0_1 a).f1))).setCell ⟨c,2,none⟩ (.string ((rd_T64 l0_1 a).f2))).setCell ⟨c,3,none⟩ (.int .i64 ((rd_T64 l0_1 a).f3))).setCell ⟨c,4,none⟩ (.slice aa ((rd_T64 l0_1 a).f4).length ab)).setCell ⟨c,5,none⟩ (.slice Y ((rd_T64 l0_1 a).f5).length Z)).setCell ⟨c,6,none⟩ (.int .i64 ((rd_T64 l0_1 a).f6.f0))).setCell ⟨c,7,none⟩ (.int .i64 ((rd_T64 l0_1 a).f6.f1))).setCell ⟨c,8,none⟩ (.string ((rd_T64 l0_1 a).f6.f2))).setCell ⟨c,9,none⟩ (.int .i64 ((rd_T64 l0_1 a).f6.f3))).setCell ⟨c,0,none⟩ (.int .i64 (wrap64 (A+1)))).heap[ad]?=some (.cells #[.int .i64 (s.length:Int),X] 32 (0,0))):=⟨by(with_reducible repeat(first|refine blk_drewN ?_ _|refine blk_drew ?_|refine blk_alloc ?_ _));refine blk_far ?_ I.out _;(with_reducible repeat(first|refine blk_drewN ?_ _|refine blk_drew ?_|refine blk_alloc ?_ _));refine blk_far ?_ I.out _;(with_reducible repeat(first|refine blk_drewN ?_ _|refine blk_drew ?_|refine blk_alloc ?_ _));refine blk_far ?_ I.out _;(with_reducible repeat(first|refine blk_drewN ?_ _|refine blk_drew ?_|refine blk_alloc ?_ _));refine blk_far ?_ I.out _;(with_reducible repeat(first|refine blk_drewN ?_ _|refine blk_drew ?_|refine blk_alloc ?_ _));refine blk_far ?_ I.out _;(with_reducible repeat(first|refine blk_drewN ?_ _|refine blk_drew ?_|refine blk_alloc ?_ _));refine blk_far ?_ I.out _;(with_reducible repeat(first|refine blk_drewN ?_ _|refine blk_drew ?_|refine blk_alloc ?_ _));refine blk_far ?_ I.out _;(with_reducible repeat(first|refine blk_drewN ?_ _|refine blk_drew ?_|refine blk_alloc ?_ _));refine blk_far ?_ I.out _;(with_reducible repeat(first|refine blk_drewN ?_ _|refine blk_drew ?_|refine blk_alloc ?_ _));refine blk_far ?_ I.out _;(with_reducible repeat(first|refine blk_drewN ?_ _|refine blk_drew ?_|refine blk_alloc ?_ _));refine blk_far ?_ I.out _;(with_reducible repeat(first|refine blk_drewN ?_ _|refine blk_drew ?_|refine blk_alloc ?_ _));refine blk_far ?_ I.out _;exact sT x.out⟩
 have aV:Aside0 ((((((((((((E.setCell ⟨c,0,none⟩ (.int .i64 ((rd_T64 l0_1 a).f0))).setCell ⟨c,1,none⟩ (.int .i64 ((rd_T64 l0_1 a).f1))).setCell ⟨c,2,none⟩ (.string ((rd_T64 l0_1 a).f2))).setCell ⟨c,3,none⟩ (.int .i64 ((rd_T64 l0_1 a).f3))).setCell ⟨c,4,none⟩ (.slice aa ((rd_T64 l0_1 a).f4).length ab)).setCell ⟨c,5,none⟩ (.slice Y ((rd_T64 l0_1 a).f5).length Z)).setCell ⟨c,6,none⟩ (.int .i64 ((rd_T64 l0_1 a).f6.f0))).setCell ⟨c,7,none⟩ (.int .i64 ((rd_T64 l0_1 a).f6.f1))).setCell ⟨c,8,none⟩ (.string ((rd_T64 l0_1 a).f6.f2))).setCell ⟨c,9,none⟩ (.int .i64 ((rd_T64 l0_1 a).f6.f3))).setCell ⟨c,0,none⟩ (.int .i64 (wrap64 (A+1)))).heap[c]?=some (.cells #[.int .i64 (wrap64 (A+1)),.int .i64 ((rd_T64 l0_1 a).f1),.string ((rd_T64 l0_1 a).f2),.int .i64 ((rd_T64 l0_1 a).f3),.slice aa ((rd_T64 l0_1 a).f4).length ab,.slice Y ((rd_T64 l0_1 a).f5).length Z,.int .i64 ((rd_T64 l0_1 a).f6.f0),.int .i64 ((rd_T64 l0_1 a).f6.f1),.string ((rd_T64 l0_1 a).f6.f2),.int .i64 ((rd_T64 l0_1 a).f6.f3)] 64 (0,0))):=⟨by(with_reducible repeat(first|refine blk_drewN ?_ _|refine blk_drew ?_|refine blk_alloc ?_ _));refine blk_put (cs:= #[.int .i64 ((rd_T64 l0_1 a).f0),.int .i64 ((rd_T64 l0_1 a).f1),.string ((rd_T64 l0_1 a).f2),.int .i64 ((rd_T64 l0_1 a).f3),.slice aa ((rd_T64 l0_1 a).f4).length ab,.slice Y ((rd_T64 l0_1 a).f5).length Z,.int .i64 ((rd_T64 l0_1 a).f6.f0),.int .i64 ((rd_T64 l0_1 a).f6.f1),.string ((rd_T64 l0_1 a).f6.f2),.int .i64 ((rd_T64 l0_1 a).f6.f3)]) ?_ 0 _ rfl;exact sP10 (sT d.out)⟩
 have aW:Aside0 (Below w.heap.size w (((((((((((E.setCell ⟨c,0,none⟩ (.int .i64 ((rd_T64 l0_1 a).f0))).setCell ⟨c,1,none⟩ (.int .i64 ((rd_T64 l0_1 a).f1))).setCell ⟨c,2,none⟩ (.string ((rd_T64 l0_1 a).f2))).setCell ⟨c,3,none⟩ (.int .i64 ((rd_T64 l0_1 a).f3))).setCell ⟨c,4,none⟩ (.slice aa ((rd_T64 l0_1 a).f4).length ab)).setCell ⟨c,5,none⟩ (.slice Y ((rd_T64 l0_1 a).f5).length Z)).setCell ⟨c,6,none⟩ (.int .i64 ((rd_T64 l0_1 a).f6.f0))).setCell ⟨c,7,none⟩ (.int .i64 ((rd_T64 l0_1 a).f6.f1))).setCell ⟨c,8,none⟩ (.string ((rd_T64 l0_1 a).f6.f2))).setCell ⟨c,9,none⟩ (.int .i64 ((rd_T64 l0_1 a).f6.f3))).setCell ⟨c,0,none⟩ (.int .i64 (wrap64 (A+1))))):=⟨sb⟩
 (try clear z)
 (try clear D)
 (try clear y)
 (try clear r)
 (try clear u)
 (try clear x)
 (try clear d)
 (try clear HB)
 generalize (((((((((((E.setCell ⟨c,0,none⟩ (.int .i64 ((rd_T64 l0_1 a).f0))).setCell ⟨c,1,none⟩ (.int .i64 ((rd_T64 l0_1 a).f1))).setCell ⟨c,2,none⟩ (.string ((rd_T64 l0_1 a).f2))).setCell ⟨c,3,none⟩ (.int .i64 ((rd_T64 l0_1 a).f3))).setCell ⟨c,4,none⟩ (.slice aa ((rd_T64 l0_1 a).f4).length ab)).setCell ⟨c,5,none⟩ (.slice Y ((rd_T64 l0_1 a).f5).length Z)).setCell ⟨c,6,none⟩ (.int .i64 ((rd_T64 l0_1 a).f6.f0))).setCell ⟨c,7,none⟩ (.int .i64 ((rd_T64 l0_1 a).f6.f1))).setCell ⟨c,8,none⟩ (.string ((rd_T64 l0_1 a).f6.f2))).setCell ⟨c,9,none⟩ (.int .i64 ((rd_T64 l0_1 a).f6.f3))).setCell ⟨c,0,none⟩ (.int .i64 (wrap64 (A+1))))=w43 at aM aN aQ aR aT aU aV aW ⊢
 have z:=aM
 have D:=aN
 have y:=aQ
 have r:=aR
 have u:=aT
 have x:=aU
 have d:=aV
 have HB:=aW
 clear aM aN aQ aR aT aU aV aW
 replace z:=zM (Kd.R_drew z.out)
 replace D:=zM (Kd.R_drew D.out)
 replace y:=zM (Kd.S_drew y.out)
 replace r:=zM (blk_drew r.out)
 replace u:=zM (blk_drew u.out)
 replace x:=zM (blk_drew x.out)
 replace d:=zM (blk_drew d.out)
 replace HB:=zM (below_drew1 HB.out)
 refine start_ (n:=12) (S:=fun w'=>w'.cell? ⟨c,0,none⟩=some (.int .i64 (wrap64 (A+1)))∧w'.cell? ⟨c,1,none⟩=some (.int .i64 ((rd_T64 l0_1 a).f1))∧w'.cell? ⟨c,2,none⟩=some (.string ((rd_T64 l0_1 a).f2))∧w'.cell? ⟨c,3,none⟩=some (.int .i64 ((rd_T64 l0_1 a).f3))∧w'.cell? ⟨c,4,none⟩=some (.slice aa ((rd_T64 l0_1 a).f4).length ab)∧w'.cell? ⟨c,5,none⟩=some (.slice Y ((rd_T64 l0_1 a).f5).length Z)∧w'.cell? ⟨c,6,none⟩=some (.int .i64 ((rd_T64 l0_1 a).f6.f0))∧w'.cell? ⟨c,7,none⟩=some (.int .i64 ((rd_T64 l0_1 a).f6.f1))∧w'.cell? ⟨c,8,none⟩=some (.string ((rd_T64 l0_1 a).f6.f2))∧w'.cell? ⟨c,9,none⟩=some (.int .i64 ((rd_T64 l0_1 a).f6.f3))) (ds:=[9,11]) #[false,false,false,false,false,false,false,false,false,false,false,false] (by kernel_rfl) rfl rfl ⟨(blk_cell d.out 0).trans rfl,(blk_cell d.out 1).trans rfl,(blk_cell d.out 2).trans rfl,(blk_cell d.out 3).trans rfl,(blk_cell d.out 4).trans rfl,(blk_cell d.out 5).trans rfl,(blk_cell d.out 6).trans rfl,(blk_cell d.out 7).trans rfl,(blk_cell d.out 8).trans rfl,(blk_cell d.out 9).trans rfl⟩ (fun hHeld=>?_);refine with_tabW impl_Heap_collect.tab8 impl_Heap_collect.bits8 (fun O a3=>?_)
 generalize w43.drew=w44 at z D y r u x d HB hHeld ⊢
 refine pure_ (i:=0) (N:=some 34) (v:=?_) (a':=?_) (bN 12 1) rfl rfl (any_of O.out (by kernel_rfl)) (fun _ _ _ h=>h) (Or.inl ⟨by rfl,?_⟩) ?_ ?_
 rotate_left
 ·(
 intro w'
 go_simp
 with_reducible rfl)
 rotate_left
 ·(
 simp only[zP,i64_w,i32_w]
 rfl)
 refine pure_ (i:=2) (N:=some 36) (v:=?_) (a':=?_) (bN 12 5) rfl rfl (any_of O.out (by kernel_rfl)) (fun _ _ _ h=>h) (Or.inl ⟨by rfl,?_⟩) ?_ ?_
 rotate_left
 ·(
 intro w'
 go_simp
 with_reducible rfl)
 rotate_left
 ·(
 simp only[zP,i64_w,i32_w]
 rfl)
 refine pure_ (i:=4) (N:=some 38) (v:=?_) (a':=?_) (bN 12 21) rfl rfl (any_of O.out (by kernel_rfl)) (fun _ _ _ h=>h) (Or.inl ⟨by rfl,?_⟩) ?_ ?_
 rotate_left
 ·(
 intro w'
 go_simp
 with_reducible rfl)
 rotate_left
 ·(
 simp only[zP,i64_w,i32_w]
 rfl)
 refine pure_ (i:=6) (N:=some 40) (v:=?_) (a':=?_) (bN 12 85) rfl rfl (any_of O.out (by kernel_rfl)) (fun _ _ _ h=>h) (Or.inl ⟨by rfl,?_⟩) ?_ ?_
 rotate_left
 ·(
 intro w'
 go_simp
 with_reducible rfl)
 rotate_left
 ·(
 simp only[zP,i64_w,i32_w]
 rfl)
 refine take_ (i:=1) (N:=some 35) (v:=?_) (a':=?_) (bN 12 87) rfl rfl (take_ofW O.out a3.out (by kernel_rfl)) (fun _ _ _ h=>h) (Or.inl ⟨by rfl,?_⟩) hHeld ?_ ?_
 rotate_left
 ·(
 rintro w' ⟨s0,s1,s2,s3,s4,s5,s6,s7,s8,s9⟩
 go_simp
 with_reducible rfl)
 rotate_left
 ·(
 simp only[zP,i64_w,i32_w]
 rfl)
 refine take_ (i:=5) (N:=some 39) (v:=?_) (a':=?_) (bN 12 119) rfl rfl (take_ofW O.out a3.out (by kernel_rfl)) (fun _ _ _ h=>h) (Or.inl ⟨by rfl,?_⟩) hHeld ?_ ?_
 rotate_left
 ·(
 rintro w' ⟨s0,s1,s2,s3,s4,s5,s6,s7,s8,s9⟩
 go_simp
 with_reducible rfl)
 rotate_left
 ·(
 simp only[zP,i64_w,i32_w]
 rfl)
 refine one_ (i:=3) (N:=some 37) (bN 12 127) rfl rfl (one_of O.out (by kernel_rfl)) (by decide) (fun K hK=>?_)
 refine goes_ Try.func81 (by kernel_rfl) rfl #[.slice aa ((rd_T64 l0_1 a).f4).length ab,.slice (some aE) s.length aj] (by rfl) rfl rfl (by(try simp only[List.map_toArray,List.map_cons,List.map_nil]);first|done|rfl|(simp only[List.length_drop,List.length_take];rfl)) ?_
 with_reducible refine(impl_renumbered.calls k1 _ _ ((rd_T64 l0_1 a).f4) _ _ s J _ ?side1 ?side2 ?side3 ?side4 cw.out).mono ?_
 (case side1=>exact sD (zC bW.out HB.out))
 (case side2=>exact cD.out)
 (case side3=>exact sD ((Kd.R_reads' z.out).2.2))
 (case side4=>exact(Kd.R_reads' z.out).2.1)
 rintro e e1 ⟨e2,rfl,U,hb⟩
 refine⟨_,rfl,?_⟩
 replace z:=zM (Kd.R_below (sE z.out) hb)
 replace D:=zM (Kd.R_below (sE D.out) hb)
 replace y:=zM (Kd.S_elder' (sI y.out) (Kd.R_base U) hb)
 have ai:=zM (Kd.R_lower U (below_size zzR))
 replace r:=sK r hb
 replace u:=sK u hb
 replace x:=sK x hb
 replace d:=sK d hb
 replace HB:=sB HB hb
 (try clear hb)
 (try clear hb2)
 (try clear hk)
 (try clear hi)
 (try clear U)
 refine hK.out _ _ ⟨(blk_cell d.out 0).trans rfl,(blk_cell d.out 1).trans rfl,(blk_cell d.out 2).trans rfl,(blk_cell d.out 3).trans rfl,(blk_cell d.out 4).trans rfl,(blk_cell d.out 5).trans rfl,(blk_cell d.out 6).trans rfl,(blk_cell d.out 7).trans rfl,(blk_cell d.out 8).trans rfl,(blk_cell d.out 9).trans rfl⟩ (fun hHeld=>?_)
 clear hK K
 refine norm_ (a':=?_) ?_ ?_
 rotate_left
 ·(
 show Act.put _ (some 37) _=_
 simp only[zP,i64_w,i32_w]
 rfl)
 refine pure_ (i:=8) (N:=some 42) (v:=?_) (a':=?_) (bN 12 383) rfl rfl (any_of O.out (by kernel_rfl)) (fun _ _ _ h=>h) (Or.inl ⟨by rfl,?_⟩) ?_ ?_
 rotate_left
 ·(
 intro w'
 go_simp
 with_reducible rfl)
 rotate_left
 ·(
 simp only[zP,i64_w,i32_w]
 rfl)
 refine one_ (i:=7) (N:=some 41) (bN 12 511) rfl rfl (one_of O.out (by kernel_rfl)) (by decide) (fun K hK=>?_)
 refine goes_ Try.func81 (by kernel_rfl) rfl #[.slice Y ((rd_T64 l0_1 a).f5).length Z,.slice (some aE) s.length aj] (by rfl) rfl rfl (by(try simp only[List.map_toArray,List.map_cons,List.map_nil]);first|done|rfl|(simp only[List.length_drop,List.length_take];rfl)) ?_
 with_reducible refine(impl_renumbered.calls k1 _ _ ((rd_T64 l0_1 a).f5) _ _ s L _ ?side1 ?side2 ?side3 ?side4 cx.out).mono ?_
 (case side1=>exact sD (zC bX.out HB.out))
 (case side2=>exact cE.out)
 (case side3=>exact sD ((Kd.R_reads' z.out).2.2))
 (case side4=>exact(Kd.R_reads' z.out).2.1)
 rintro e ce ⟨e3,rfl,U,hb⟩
 refine⟨_,rfl,?_⟩
 replace z:=zM (Kd.R_below (sE z.out) hb)
 replace D:=zM (Kd.R_below (sE D.out) hb)
 replace y:=zM (Kd.S_elder' (sI y.out) (Kd.R_base U) hb)
 have aw:=zM (Kd.R_lower (Kd.R_new' U (Kd.R_lt (sE ai.out))) (below_size zzR))
 replace ai:=zM (Kd.R_elder' (sE ai.out) (Kd.R_base U) hb)
 replace r:=sK r hb
 replace u:=sK u hb
 replace x:=sK x hb
 replace d:=sK d hb
 replace HB:=sB HB hb
 (try clear hb)
 (try clear hb2)
 (try clear hk)
 (try clear hi)
 (try clear U)
 obtain⟨Q,T,cf⟩:=Kd.R_slice ai.out
 (first|subst cf|(injection cf with aX a8 aY;have a9:=aX.symm;have ba:=aY.symm;clear aX a8 aY;subst a9;subst ba))
 obtain⟨V,W,cg⟩:=Kd.R_slice aw.out
 (first|subst cg|(injection cg with aX a8 aY;have a9:=aX.symm;have ba:=aY.symm;clear aX a8 aY;subst a9;subst ba))
 refine hK.out _ _ ⟨(blk_cell d.out 0).trans rfl,(blk_cell d.out 1).trans rfl,(blk_cell d.out 2).trans rfl,(blk_cell d.out 3).trans rfl,(blk_cell d.out 4).trans rfl,(blk_cell d.out 5).trans rfl,(blk_cell d.out 6).trans rfl,(blk_cell d.out 7).trans rfl,(blk_cell d.out 8).trans rfl,(blk_cell d.out 9).trans rfl⟩ (fun hHeld=>?_)
 clear hK K
 refine norm_ (a':=?_) ?_ ?_
 rotate_left
 ·(
 show Act.put _ (some 41) _=_
 simp only[zP,i64_w,i32_w]
 rfl)
 refine last_ (i:=9) (N:=none) (bN 12 1023) rfl rfl (one_of O.out (by kernel_rfl)) (by decide) (fun K hK=>?_)
 have e4:ce.cell? ⟨c,4,none⟩=some (.slice aa ((rd_T64 l0_1 a).f4).length ab):=(blk_cell d.out 4).trans rfl
 have e5:=blk_frozen d.out 4
 have e6:=F.out
 have e7:=G.out
 have e8:=I.out
 have e9:=af.out
 have fa:=ag.out
 have fb:=ah.out
 refine skip_ (w1:=?_) (by rfl) rfl ?_ ?_
 rotate_left
 ·(
 go_simp
 rfl)
 refine hK.out _ _ ?_
 clear hK K
 refine pure_ (i:=10) (N:=some 43) (v:=?_) (a':=?_) (bN 12 2047) rfl rfl (any_of O.out (by kernel_rfl)) (fun _ _ _ h=>h) (Or.inl ⟨by rfl,?_⟩) ?_ ?_
 rotate_left
 ·(
 intro w'
 go_simp
 with_reducible rfl)
 rotate_left
 ·(
 simp only[zP,i64_w,i32_w]
 rfl)
 refine last_ (i:=11) (N:=none) (bN 12 4095) rfl rfl (one_of O.out (by kernel_rfl)) (by decide) (fun K hK=>?_)
 have fc:ce.cell? ⟨c,5,none⟩=some (.slice Y ((rd_T64 l0_1 a).f5).length Z):=(blk_cell d.out 5).trans rfl
 have fd:=blk_frozen d.out 5
 have fe:=F.out
 have ff:=G.out
 have fg:=I.out
 have fh:=af.out
 have fi:=ag.out
 have fj:=ah.out
 refine skip_ (w1:=?_) (by rfl) rfl ?_ ?_
 rotate_left
 ·(
 go_simp
 rfl)
 refine hK.out _ _ ?_
 clear hK K
 refine done_ (done_of O.out (by kernel_rfl)) ?_
 obtain⟨fk,fl,fm,fn,fo,fp,fq,fr,fs,ft,fu,fv,fw,fx,fy,fz,fA,fB,fC,fD⟩:=cells10 d.out
 try go_wp2_with (first|((with_reducible refine gate_dst (N:=46) rfl ?_);refine Kd.R_lit k62 _ 62 ?hg (N:=46) ?hd (xs:=([(⟨(rd_T64 l0_1 a).f6.f0,(rd_T64 l0_1 a).f6.f1,(rd_T64 l0_1 a).f6.f2,(rd_T64 l0_1 a).f6.f3⟩:S62)]:List (S62))) (inner:=[.int .i64 ((rd_T64 l0_1 a).f6.f0),.int .i64 ((rd_T64 l0_1 a).f6.f1),.string ((rd_T64 l0_1 a).f6.f2),.int .i64 ((rd_T64 l0_1 a).f6.f3)]) (ok:=fun _=>True) (okp:=fun _=>True) ?hr ?hp (fun _ hk=>hk) trivial (Below.refl _ _) (Nat.le_refl _) (by simp) ?_;(case hd=>rfl);(case hg=>rfl);(case hr=>first|(go_simp;done)|(go_simp;rfl));(case hp=>exact(Reps.c4 (show Kd.M k62 _ _ _ (⟨(rd_T64 l0_1 a).f6.f0,(rd_T64 l0_1 a).f6.f1,(rd_T64 l0_1 a).f6.f2,(rd_T64 l0_1 a).f6.f3⟩:S62) [.int .i64 ((rd_T64 l0_1 a).f6.f0),.int .i64 ((rd_T64 l0_1 a).f6.f1),.string ((rd_T64 l0_1 a).f6.f2),.int .i64 ((rd_T64 l0_1 a).f6.f3)] from(k62_mkM _ _ _ (⟨(rd_T64 l0_1 a).f6.f0,(rd_T64 l0_1 a).f6.f1,(rd_T64 l0_1 a).f6.f2,(rd_T64 l0_1 a).f6.f3⟩:S62))) (Reps.none _ _)));intro fE fF aZ hb cI cJ;clear cI cJ;(first|rw[←bR.out]at aZ|(simp only[Int.reduceToNat]at aZ;rw[←bR.out]at aZ));have aM:=zM (Kd.R_below (by(with_reducible repeat(first|apply Kd.R_alloc|apply Kd.R_drewN|apply Kd.R_drew));exact(Kd.R_mono (Kd.R_far (p:=⟨c,5,none⟩) (Kd.R_far (p:=⟨c,4,none⟩) (Kd.R_types z.out d.out (by decide)) (fun _ hk=>hk.2) (.slice Q J.length T)) (fun _ hk=>hk.2) (.slice V L.length W)) (fun _ P=>P.1))) hb);have aN:=zM (Kd.R_below (by(with_reducible repeat(first|apply Kd.R_alloc|apply Kd.R_drewN|apply Kd.R_drew));exact(Kd.R_mono (Kd.R_far (p:=⟨c,5,none⟩) (Kd.R_far (p:=⟨c,4,none⟩) (Kd.R_types D.out d.out (by decide)) (fun _ hk=>hk.2) (.slice Q J.length T)) (fun _ hk=>hk.2) (.slice V L.length W)) (fun _ P=>P.1))) hb);have aQ:=zM (Kd.S_elder' (by(with_reducible repeat(first|apply Kd.S_alloc|apply Kd.S_drewN|apply Kd.S_drew));exact(Kd.S_mono (Kd.S_far (p:=⟨c,5,none⟩) (Kd.S_far (p:=⟨c,4,none⟩) (Kd.S_mono y.out (fun m hk=>(⟨hk,hk.1.1⟩:_∧m≠c))) (fun _ hk=>hk.2) (.slice Q J.length T)) (fun _ hk=>hk.2) (.slice V L.length W)) (fun _ P=>P.1))) (Kd.R_base aZ) hb);have aR:=zM (Kd.R_elder' (by(with_reducible repeat(first|apply Kd.R_alloc|apply Kd.R_drewN|apply Kd.R_drew));exact(Kd.R_mono (Kd.R_far (p:=⟨c,5,none⟩) (Kd.R_far (p:=⟨c,4,none⟩) (Kd.R_types ai.out d.out (by decide)) (fun _ hk=>hk.2) (.slice Q J.length T)) (fun _ hk=>hk.2) (.slice V L.length W)) (fun _ P=>P.1))) (Kd.R_base aZ) hb);have aT:=zM (Kd.R_elder' (by(with_reducible repeat(first|apply Kd.R_alloc|apply Kd.R_drewN|apply Kd.R_drew));exact(Kd.R_mono (Kd.R_far (p:=⟨c,5,none⟩) (Kd.R_far (p:=⟨c,4,none⟩) (Kd.R_types aw.out d.out (by decide)) (fun _ hk=>hk.2) (.slice Q J.length T)) (fun _ hk=>hk.2) (.slice V L.length W)) (fun _ P=>P.1))) (Kd.R_base aZ) hb);have aU:=zM (Kd.R_lower (Kd.R_new' (Kd.R_new' aZ (Kd.R_lt (by(with_reducible repeat(first|apply Kd.R_alloc|apply Kd.R_drewN|apply Kd.R_drew));exact(Kd.R_mono (Kd.R_far (p:=⟨c,5,none⟩) (Kd.R_far (p:=⟨c,4,none⟩) (Kd.R_types ai.out d.out (by decide)) (fun _ hk=>hk.2) (.slice Q J.length T)) (fun _ hk=>hk.2) (.slice V L.length W)) (fun _ P=>P.1))))) (Kd.R_lt (by(with_reducible repeat(first|apply Kd.R_alloc|apply Kd.R_drewN|apply Kd.R_drew));exact(Kd.R_mono (Kd.R_far (p:=⟨c,5,none⟩) (Kd.R_far (p:=⟨c,4,none⟩) (Kd.R_types aw.out d.out (by decide)) (fun _ hk=>hk.2) (.slice Q J.length T)) (fun _ hk=>hk.2) (.slice V L.length W)) (fun _ P=>P.1))))) (below_size zzR));have aV:=zM (blk_below (g:=ae) (o:= .cells #[.int .i64 a0_0,.slice (some q) l0_1.length c0_1] 32 (0,0)) (by(with_reducible repeat(first|refine blk_drewN ?_ _|refine blk_drew ?_|refine blk_alloc ?_ _));refine blk_far ?_ F.out _;(with_reducible repeat(first|refine blk_drewN ?_ _|refine blk_drew ?_|refine blk_alloc ?_ _));refine blk_far ?_ F.out _;exact sT r.out) hb);have aW:=zM (blk_below (g:=ac) (o:= .cells #[.int .i64 0,.slice none 0 0] 32 (0,0)) (by(with_reducible repeat(first|refine blk_drewN ?_ _|refine blk_drew ?_|refine blk_alloc ?_ _));refine blk_far ?_ G.out _;(with_reducible repeat(first|refine blk_drewN ?_ _|refine blk_drew ?_|refine blk_alloc ?_ _));refine blk_far ?_ G.out _;exact sT u.out) hb);have bb:=zM (blk_below (g:=ad) (o:= .cells #[.int .i64 (s.length:Int),X] 32 (0,0)) (by(with_reducible repeat(first|refine blk_drewN ?_ _|refine blk_drew ?_|refine blk_alloc ?_ _));refine blk_far ?_ I.out _;(with_reducible repeat(first|refine blk_drewN ?_ _|refine blk_drew ?_|refine blk_alloc ?_ _));refine blk_far ?_ I.out _;exact sT x.out) hb);have bc:=zM (blk_below (g:=c) (o:= .cells #[.int .i64 (wrap64 (A+1)),.int .i64 ((rd_T64 l0_1 a).f1),.string ((rd_T64 l0_1 a).f2),.int .i64 ((rd_T64 l0_1 a).f3),.slice Q J.length T,.slice V L.length W,.int .i64 ((rd_T64 l0_1 a).f6.f0),.int .i64 ((rd_T64 l0_1 a).f6.f1),.string ((rd_T64 l0_1 a).f6.f2),.int .i64 ((rd_T64 l0_1 a).f6.f3)] 64 (0,0)) (by(with_reducible repeat(first|refine blk_drewN ?_ _|refine blk_drew ?_|refine blk_alloc ?_ _));refine blk_put (cs:= #[.int .i64 (wrap64 (A+1)),.int .i64 ((rd_T64 l0_1 a).f1),.string ((rd_T64 l0_1 a).f2),.int .i64 ((rd_T64 l0_1 a).f3),.slice Q J.length T,.slice Y ((rd_T64 l0_1 a).f5).length Z,.int .i64 ((rd_T64 l0_1 a).f6.f0),.int .i64 ((rd_T64 l0_1 a).f6.f1),.string ((rd_T64 l0_1 a).f6.f2),.int .i64 ((rd_T64 l0_1 a).f6.f3)]) ?_ 5 _ rfl;(with_reducible repeat(first|refine blk_drewN ?_ _|refine blk_drew ?_|refine blk_alloc ?_ _));refine blk_put (cs:= #[.int .i64 (wrap64 (A+1)),.int .i64 ((rd_T64 l0_1 a).f1),.string ((rd_T64 l0_1 a).f2),.int .i64 ((rd_T64 l0_1 a).f3),.slice aa ((rd_T64 l0_1 a).f4).length ab,.slice Y ((rd_T64 l0_1 a).f5).length Z,.int .i64 ((rd_T64 l0_1 a).f6.f0),.int .i64 ((rd_T64 l0_1 a).f6.f1),.string ((rd_T64 l0_1 a).f6.f2),.int .i64 ((rd_T64 l0_1 a).f6.f3)]) ?_ 4 _ rfl;exact sT d.out) hb);have bd:=sB HB hb;clear z;clear D;clear y;clear ai;clear aw;clear r;clear u;clear x;clear d;clear HB;have z:=aM;have D:=aN;have y:=aQ;have ai:=aR;have aw:=aT;have az:=aU;have r:=aV;have u:=aW;have x:=bb;have d:=bc;have HB:=bd;clear aM aN aQ aR aT aU aV aW bb bc bd;clear hb aZ;obtain⟨aG,aH,cK⟩:=Kd.R_slice az.out;subst cK)|((with_reducible refine gate_callee (f:=81) rfl ?_);refine sC (some 48) Try.func81 #[.slice aG y477.length aH,.slice (some aE) s.length aj] (impl_renumbered.calls k1 _ _ y477 _ _ s l _ ?side1 ?side2 ?side3 ?side4 cy.out) ?_;(case side1=>exact sD ((Kd.R_reads' az.out).2.2));(case side2=>exact(Kd.R_reads' az.out).2.1);(case side3=>exact sD ((Kd.R_reads' z.out).2.2));(case side4=>exact(Kd.R_reads' z.out).2.1);rintro e cL ⟨fG,rfl,U,hb⟩;refine⟨_,rfl,?_⟩;replace z:=zM (Kd.R_below (sE z.out) hb);replace D:=zM (Kd.R_below (sE D.out) hb);replace y:=zM (Kd.S_elder' (sI y.out) (Kd.R_base U) hb);have a0:=zM (Kd.R_lower (Kd.R_new' (Kd.R_new' (Kd.R_new' U (Kd.R_lt (sE ai.out))) (Kd.R_lt (sE aw.out))) (Kd.R_lt (sE az.out))) (below_size zzR));replace ai:=zM (Kd.R_elder' (sE ai.out) (Kd.R_base U) hb);replace aw:=zM (Kd.R_elder' (sE aw.out) (Kd.R_base U) hb);replace az:=zM (Kd.R_elder' (sE az.out) (Kd.R_base U) hb);replace r:=sK r hb;replace u:=sK u hb;replace x:=sK x hb;replace d:=sK d hb;replace HB:=sB HB hb;(try clear hb);(try clear hk);(try clear U);obtain⟨fH,aJ,cM⟩:=Kd.R_slice a0.out;subst cM;have bI:0≤(0:Int):=(by omega);have bJ:0<(l.length:Int):=zzA;obtain⟨aK,cN,cO,cP,cQ,cR⟩:=at_T62 (Kd.R_reads' a0.out).2.2 0 bI bJ;cases cN;have fI:(0<l.length)=True:=eq_true (by omega);(try rw[sZ]at cO);(try rw[sZ]at cP);(try rw[sZ]at cQ);(try rw[sZ]at cR);replace bI:=eq_true bI;replace bJ:=eq_true bJ;obtain⟨fJ,fK,fL,fM,fN,fO,fP,fQ,fR,fS,fT,fU,fV,fW,fX,fY,fZ,f7,f8,f9⟩:=cells10 d.out)|((with_reducible refine gate_store (t:=62) (p:=51) rfl ?_);refine store_event (t:=62) (p:=51) (v:=?vo_w58) (w1:=((((cL.setCell ⟨c,6,none⟩ (.int .i64 ((rd_T62 l 0).f0))).setCell ⟨c,7,none⟩ (.int .i64 ((rd_T62 l 0).f1))).setCell ⟨c,8,none⟩ (.string ((rd_T62 l 0).f2))).setCell ⟨c,9,none⟩ (.int .i64 ((rd_T62 l 0).f3)))) ?hg ?ho ?hn ?hr ?_;(case ho=>rfl);(case hg=>rfl);(case hn=>rfl);(case hr=>first|(go_simp;done)|(go_simp;rfl));intro aA hw;have aM:Aside0 (Kd.R (Kd.int .i64) 2 aA w.heap.size (fun _=>True) (.slice (some aE) s.length aj) s):=⟨(by rw[hw];exact(by(with_reducible repeat(first|apply Kd.R_alloc|apply Kd.R_drewN|apply Kd.R_drew));exact Kd.R_mono (Kd.R_far (p:=⟨c,9,none⟩) (Kd.R_far (p:=⟨c,8,none⟩) (Kd.R_far (p:=⟨c,7,none⟩) (Kd.R_far (p:=⟨c,6,none⟩) (Kd.R_types z.out d.out (by decide)) (fun _ hk=>hk.2) (.int .i64 ((rd_T62 l 0).f0))) (fun _ hk=>hk.2) (.int .i64 ((rd_T62 l 0).f1))) (fun _ hk=>hk.2) (.string ((rd_T62 l 0).f2))) (fun _ hk=>hk.2) (.int .i64 ((rd_T62 l 0).f3))) (fun _ hk=>trivial)))⟩;have aN:Aside0 (Kd.R (Kd.int .i64) 2 aA w.heap.size (fun _=>True) (.slice (some aE) s.length aj) s):=⟨(by rw[hw];exact(by(with_reducible repeat(first|apply Kd.R_alloc|apply Kd.R_drewN|apply Kd.R_drew));exact Kd.R_mono (Kd.R_far (p:=⟨c,9,none⟩) (Kd.R_far (p:=⟨c,8,none⟩) (Kd.R_far (p:=⟨c,7,none⟩) (Kd.R_far (p:=⟨c,6,none⟩) (Kd.R_types D.out d.out (by decide)) (fun _ hk=>hk.2) (.int .i64 ((rd_T62 l 0).f0))) (fun _ hk=>hk.2) (.int .i64 ((rd_T62 l 0).f1))) (fun _ hk=>hk.2) (.string ((rd_T62 l 0).f2))) (fun _ hk=>hk.2) (.int .i64 ((rd_T62 l 0).f3))) (fun _ hk=>trivial)))⟩;have aQ:Aside0 (Kd.S k64 64 aA w.heap.size (fun m=>some m≠(.slice Q J.length T:Value).ownBlock∧some m≠(.slice V L.length W:Value).ownBlock∧some m≠(.slice aG y477.length aH:Value).ownBlock∧some m≠(.slice (some aK) l.length aJ:Value).ownBlock∧m≠c) X ax):=⟨(by rw[hw];exact(by(with_reducible repeat(first|apply Kd.S_alloc|apply Kd.S_drewN|apply Kd.S_drew));exact Kd.S_mono (Kd.S_far (p:=⟨c,9,none⟩) (Kd.S_far (p:=⟨c,8,none⟩) (Kd.S_far (p:=⟨c,7,none⟩) (Kd.S_far (p:=⟨c,6,none⟩) (Kd.S_mono y.out (fun m hk=>(⟨hk,hk.1.1.1.1⟩:_∧m≠c))) (fun _ hk=>hk.2) (.int .i64 ((rd_T62 l 0).f0))) (fun _ hk=>hk.2) (.int .i64 ((rd_T62 l 0).f1))) (fun _ hk=>hk.2) (.string ((rd_T62 l 0).f2))) (fun _ hk=>hk.2) (.int .i64 ((rd_T62 l 0).f3))) (fun _ hk=>⟨hk.1.1.1.1.2,⟨hk.1.1.1.2,⟨hk.1.1.2,⟨hk.1.2,hk.1.1.1.1.1⟩⟩⟩⟩)))⟩;have aR:Aside0 (Kd.R k62 62 aA w.heap.size (fun m=>some m≠(.slice V L.length W:Value).ownBlock∧some m≠(.slice aG y477.length aH:Value).ownBlock∧some m≠(.slice (some aK) l.length aJ:Value).ownBlock) (.slice Q J.length T) J):=⟨(by rw[hw];exact(by(with_reducible repeat(first|apply Kd.R_alloc|apply Kd.R_drewN|apply Kd.R_drew));exact Kd.R_mono (Kd.R_far (p:=⟨c,9,none⟩) (Kd.R_far (p:=⟨c,8,none⟩) (Kd.R_far (p:=⟨c,7,none⟩) (Kd.R_far (p:=⟨c,6,none⟩) (Kd.R_types ai.out d.out (by decide)) (fun _ hk=>hk.2) (.int .i64 ((rd_T62 l 0).f0))) (fun _ hk=>hk.2) (.int .i64 ((rd_T62 l 0).f1))) (fun _ hk=>hk.2) (.string ((rd_T62 l 0).f2))) (fun _ hk=>hk.2) (.int .i64 ((rd_T62 l 0).f3))) (fun _ hk=>⟨hk.1.1.1.2,⟨hk.1.1.2,hk.1.2⟩⟩)))⟩;have aT:Aside0 (Kd.R k62 62 aA w.heap.size (fun m=>some m≠(.slice Q J.length T:Value).ownBlock∧some m≠(.slice aG y477.length aH:Value).ownBlock∧some m≠(.slice (some aK) l.length aJ:Value).ownBlock) (.slice V L.length W) L):=⟨(by rw[hw];exact(by(with_reducible repeat(first|apply Kd.R_alloc|apply Kd.R_drewN|apply Kd.R_drew));exact Kd.R_mono (Kd.R_far (p:=⟨c,9,none⟩) (Kd.R_far (p:=⟨c,8,none⟩) (Kd.R_far (p:=⟨c,7,none⟩) (Kd.R_far (p:=⟨c,6,none⟩) (Kd.R_types aw.out d.out (by decide)) (fun _ hk=>hk.2) (.int .i64 ((rd_T62 l 0).f0))) (fun _ hk=>hk.2) (.int .i64 ((rd_T62 l 0).f1))) (fun _ hk=>hk.2) (.string ((rd_T62 l 0).f2))) (fun _ hk=>hk.2) (.int .i64 ((rd_T62 l 0).f3))) (fun _ hk=>⟨hk.1.1.1.2,⟨hk.1.1.2,hk.1.2⟩⟩)))⟩;have aU:Aside0 (Kd.R k62 62 aA w.heap.size (fun m=>some m≠(.slice Q J.length T:Value).ownBlock∧some m≠(.slice V L.length W:Value).ownBlock∧some m≠(.slice (some aK) l.length aJ:Value).ownBlock) (.slice aG y477.length aH) y477):=⟨(by rw[hw];exact(by(with_reducible repeat(first|apply Kd.R_alloc|apply Kd.R_drewN|apply Kd.R_drew));exact Kd.R_mono (Kd.R_far (p:=⟨c,9,none⟩) (Kd.R_far (p:=⟨c,8,none⟩) (Kd.R_far (p:=⟨c,7,none⟩) (Kd.R_far (p:=⟨c,6,none⟩) (Kd.R_types az.out d.out (by decide)) (fun _ hk=>hk.2) (.int .i64 ((rd_T62 l 0).f0))) (fun _ hk=>hk.2) (.int .i64 ((rd_T62 l 0).f1))) (fun _ hk=>hk.2) (.string ((rd_T62 l 0).f2))) (fun _ hk=>hk.2) (.int .i64 ((rd_T62 l 0).f3))) (fun _ hk=>⟨hk.1.1.1.2,⟨hk.1.1.2,hk.1.2⟩⟩)))⟩;have aV:Aside0 (Kd.R k62 62 aA w.heap.size (fun m=>some m≠(.slice Q J.length T:Value).ownBlock∧some m≠(.slice V L.length W:Value).ownBlock∧some m≠(.slice aG y477.length aH:Value).ownBlock) (.slice (some aK) l.length aJ) l):=⟨(by rw[hw];exact(by(with_reducible repeat(first|apply Kd.R_alloc|apply Kd.R_drewN|apply Kd.R_drew));exact Kd.R_mono (Kd.R_far (p:=⟨c,9,none⟩) (Kd.R_far (p:=⟨c,8,none⟩) (Kd.R_far (p:=⟨c,7,none⟩) (Kd.R_far (p:=⟨c,6,none⟩) (Kd.R_types a0.out d.out (by decide)) (fun _ hk=>hk.2) (.int .i64 ((rd_T62 l 0).f0))) (fun _ hk=>hk.2) (.int .i64 ((rd_T62 l 0).f1))) (fun _ hk=>hk.2) (.string ((rd_T62 l 0).f2))) (fun _ hk=>hk.2) (.int .i64 ((rd_T62 l 0).f3))) (fun _ hk=>⟨hk.1.1.1.2,⟨hk.1.1.2,hk.1.2⟩⟩)))⟩;have aW:Aside0 (aA.heap[ae]?=some (.cells #[.int .i64 a0_0,.slice (some q) l0_1.length c0_1] 32 (0,0))):=⟨(by rw[hw];exact(by(with_reducible repeat(first|refine blk_drewN ?_ _|refine blk_drew ?_|refine blk_alloc ?_ _));refine blk_far ?_ F.out _;(with_reducible repeat(first|refine blk_drewN ?_ _|refine blk_drew ?_|refine blk_alloc ?_ _));refine blk_far ?_ F.out _;(with_reducible repeat(first|refine blk_drewN ?_ _|refine blk_drew ?_|refine blk_alloc ?_ _));refine blk_far ?_ F.out _;(with_reducible repeat(first|refine blk_drewN ?_ _|refine blk_drew ?_|refine blk_alloc ?_ _));refine blk_far ?_ F.out _;exact sT r.out))⟩;have bb:Aside0 (aA.heap[ac]?=some (.cells #[.int .i64 0,.slice none 0 0] 32 (0,0))):=⟨(by rw[hw];exact(by(with_reducible repeat(first|refine blk_drewN ?_ _|refine blk_drew ?_|refine blk_alloc ?_ _));refine blk_far ?_ G.out _;(with_reducible repeat(first|refine blk_drewN ?_ _|refine blk_drew ?_|refine blk_alloc ?_ _));refine blk_far ?_ G.out _;(with_reducible repeat(first|refine blk_drewN ?_ _|refine blk_drew ?_|refine blk_alloc ?_ _));refine blk_far ?_ G.out _;(with_reducible repeat(first|refine blk_drewN ?_ _|refine blk_drew ?_|refine blk_alloc ?_ _));refine blk_far ?_ G.out _;exact sT u.out))⟩;have bc:Aside0 (aA.heap[ad]?=some (.cells #[.int .i64 (s.length:Int),X] 32 (0,0))):=⟨(by rw[hw];exact(by(with_reducible repeat(first|refine blk_drewN ?_ _|refine blk_drew ?_|refine blk_alloc ?_ _));refine blk_far ?_ I.out _;(with_reducible repeat(first|refine blk_drewN ?_ _|refine blk_drew ?_|refine blk_alloc ?_ _));refine blk_far ?_ I.out _;(with_reducible repeat(first|refine blk_drewN ?_ _|refine blk_drew ?_|refine blk_alloc ?_ _));refine blk_far ?_ I.out _;(with_reducible repeat(first|refine blk_drewN ?_ _|refine blk_drew ?_|refine blk_alloc ?_ _));refine blk_far ?_ I.out _;exact sT x.out))⟩;have bd:Aside0 (aA.heap[c]?=some (.cells #[.int .i64 (wrap64 (A+1)),.int .i64 ((rd_T64 l0_1 a).f1),.string ((rd_T64 l0_1 a).f2),.int .i64 ((rd_T64 l0_1 a).f3),.slice Q J.length T,.slice V L.length W,.int .i64 ((rd_T62 l 0).f0),.int .i64 ((rd_T62 l 0).f1),.string ((rd_T62 l 0).f2),.int .i64 ((rd_T62 l 0).f3)] 64 (0,0))):=⟨(by rw[hw];exact(by(with_reducible repeat(first|refine blk_drewN ?_ _|refine blk_drew ?_|refine blk_alloc ?_ _));refine blk_put (cs:= #[.int .i64 (wrap64 (A+1)),.int .i64 ((rd_T64 l0_1 a).f1),.string ((rd_T64 l0_1 a).f2),.int .i64 ((rd_T64 l0_1 a).f3),.slice Q J.length T,.slice V L.length W,.int .i64 ((rd_T62 l 0).f0),.int .i64 ((rd_T62 l 0).f1),.string ((rd_T62 l 0).f2),.int .i64 ((rd_T64 l0_1 a).f6.f3)]) ?_ 9 _ rfl;(with_reducible repeat(first|refine blk_drewN ?_ _|refine blk_drew ?_|refine blk_alloc ?_ _));refine blk_put (cs:= #[.int .i64 (wrap64 (A+1)),.int .i64 ((rd_T64 l0_1 a).f1),.string ((rd_T64 l0_1 a).f2),.int .i64 ((rd_T64 l0_1 a).f3),.slice Q J.length T,.slice V L.length W,.int .i64 ((rd_T62 l 0).f0),.int .i64 ((rd_T62 l 0).f1),.string ((rd_T64 l0_1 a).f6.f2),.int .i64 ((rd_T64 l0_1 a).f6.f3)]) ?_ 8 _ rfl;(with_reducible repeat(first|refine blk_drewN ?_ _|refine blk_drew ?_|refine blk_alloc ?_ _));refine blk_put (cs:= #[.int .i64 (wrap64 (A+1)),.int .i64 ((rd_T64 l0_1 a).f1),.string ((rd_T64 l0_1 a).f2),.int .i64 ((rd_T64 l0_1 a).f3),.slice Q J.length T,.slice V L.length W,.int .i64 ((rd_T62 l 0).f0),.int .i64 ((rd_T64 l0_1 a).f6.f1),.string ((rd_T64 l0_1 a).f6.f2),.int .i64 ((rd_T64 l0_1 a).f6.f3)]) ?_ 7 _ rfl;(with_reducible repeat(first|refine blk_drewN ?_ _|refine blk_drew ?_|refine blk_alloc ?_ _));refine blk_put (cs:= #[.int .i64 (wrap64 (A+1)),.int .i64 ((rd_T64 l0_1 a).f1),.string ((rd_T64 l0_1 a).f2),.int .i64 ((rd_T64 l0_1 a).f3),.slice Q J.length T,.slice V L.length W,.int .i64 ((rd_T64 l0_1 a).f6.f0),.int .i64 ((rd_T64 l0_1 a).f6.f1),.string ((rd_T64 l0_1 a).f6.f2),.int .i64 ((rd_T64 l0_1 a).f6.f3)]) ?_ 6 _ rfl;exact sT d.out))⟩;have ch:Aside0 (Below w.heap.size w aA):=⟨(by rw[hw];exact zzR)⟩;clear hw;clear z;clear D;clear y;clear ai;clear aw;clear az;clear a0;clear r;clear u;clear x;clear d;clear HB;have z:=aM;have D:=aN;have y:=aQ;have ai:=aR;have aw:=aT;have az:=aU;have a0:=aV;have r:=aW;have u:=bb;have x:=bc;have d:=bd;have HB:=ch;clear aM aN aQ aR aT aU aV aW bb bc bd ch;have ga:=bO.out;have gb:=a7.out;have gc:=a4.out;have gd:=a1.out;obtain⟨gf,gg,gh,gi⟩:=cells2 x.out;obtain⟨gj,gl,gm,gn,go,gp,gq,gr,gs,gu,gv,gw,gx,gy,gz,gA,gB,gC,gD,gE⟩:=cells10 d.out)|((with_reducible refine gate_builtin (b:= .append) (xs:= #[.tmp 53,.tmp 55]) rfl ?_);at_builtin;refine Kd.S_append k64 (w0:=w) w.heap.size rfl (.tmp 53) (.tmp 55) 30 64 (.agg #[(.int .i64 0),(.int .i64 0),(.string ⟨#[]⟩),(.int .i64 0),(.slice none 0 0),(.slice none 0 0),(.int .i64 0),(.int .i64 0),(.string ⟨#[]⟩),(.int .i64 0)]) 128 rfl Try.underlying30 info64 rfl (by decide) (by omega) X ax (⟨wrap64 (A+1),(rd_T64 l0_1 a).f1,(rd_T64 l0_1 a).f2,(rd_T64 l0_1 a).f3,J,L,(⟨(rd_T62 l 0).f0,(rd_T62 l 0).f1,(rd_T62 l 0).f2,(rd_T62 l 0).f3⟩:S62)⟩:S64) [.int .i64 (wrap64 (A+1)),.int .i64 ((rd_T64 l0_1 a).f1),.string ((rd_T64 l0_1 a).f2),.int .i64 ((rd_T64 l0_1 a).f3),.slice Q J.length T,.slice V L.length W,.int .i64 ((rd_T62 l 0).f0),.int .i64 ((rd_T62 l 0).f1),.string ((rd_T62 l 0).f2),.int .i64 ((rd_T62 l 0).f3)] (fun m=>some m≠(.slice aG y477.length aH:Value).ownBlock∧some m≠(.slice (some aK) l.length aJ:Value).ownBlock∧m≠c) (fun m=>some m=(.slice Q J.length T:Value).ownBlock∨some m=(.slice V L.length W:Value).ownBlock) rfl rfl ?aP (fun m cS=>cS.elim (fun P=>((Kd.R_mono (ok':=fun m=>((fun m=>some m≠(.slice aG y477.length aH:Value).ownBlock∧some m≠(.slice (some aK) l.length aJ:Value).ownBlock∧m≠c)) m∧some m≠(X:Value).ownBlock) (Kd.R_types (Kd.R_apart' (ai.out) (Kd.S_typed y.out) (by decide)) d.out (by decide)) (fun m hk=>⟨⟨hk.1.1.2.1,⟨hk.1.1.2.2,hk.2⟩⟩,hk.1.2⟩))).1 m P.symm) (fun P=>((Kd.R_mono (ok':=fun m=>((fun m=>some m≠(.slice aG y477.length aH:Value).ownBlock∧some m≠(.slice (some aK) l.length aJ:Value).ownBlock∧m≠c)) m∧some m≠(X:Value).ownBlock) (Kd.R_types (Kd.R_apart' (aw.out) (Kd.S_typed y.out) (by decide)) d.out (by decide)) (fun m hk=>⟨⟨hk.1.1.2.1,⟨hk.1.1.2.2,hk.2⟩⟩,hk.1.2⟩))).1 m P.symm)) ?aF ?aO ?aB ?aS ?aL ?_;(case aP=>exact k64_mkM _ _ _ (⟨wrap64 (A+1),(rd_T64 l0_1 a).f1,(rd_T64 l0_1 a).f2,(rd_T64 l0_1 a).f3,J,L,(⟨(rd_T62 l 0).f0,(rd_T62 l 0).f1,(rd_T62 l 0).f2,(rd_T62 l 0).f3⟩:S62)⟩:S64) (Kd.R_mono (Kd.R_tight rfl (Kd.R_mono (ok':=fun m=>((fun m=>some m≠(.slice aG y477.length aH:Value).ownBlock∧some m≠(.slice (some aK) l.length aJ:Value).ownBlock∧m≠c)) m∧some m≠(X:Value).ownBlock) (Kd.R_types (Kd.R_apart' (ai.out) (Kd.S_typed y.out) (by decide)) d.out (by decide)) (fun m hk=>⟨⟨hk.1.1.2.1,⟨hk.1.1.2.2,hk.2⟩⟩,hk.1.2⟩))) (fun _ P=>Or.inl P)) (Kd.R_mono (Kd.R_tight rfl (Kd.R_mono (ok':=fun m=>((fun m=>some m≠(.slice aG y477.length aH:Value).ownBlock∧some m≠(.slice (some aK) l.length aJ:Value).ownBlock∧m≠c)) m∧some m≠(X:Value).ownBlock) (Kd.R_types (Kd.R_apart' (aw.out) (Kd.S_typed y.out) (by decide)) d.out (by decide)) (fun m hk=>⟨⟨hk.1.1.2.1,⟨hk.1.1.2.2,hk.2⟩⟩,hk.1.2⟩))) (fun _ P=>Or.inr (P))));(case aB=>exact zzR);(case aF=>exact(fun m hk=>⟨Kd.fresh' (Kd.R_lt (sE az.out)) m hk,Kd.fresh' (Kd.R_lt (sE a0.out)) m hk,Kd.freshB (g:=c) (o:= .cells #[.int .i64 (wrap64 (A+1)),.int .i64 ((rd_T64 l0_1 a).f1),.string ((rd_T64 l0_1 a).f2),.int .i64 ((rd_T64 l0_1 a).f3),.slice Q J.length T,.slice V L.length W,.int .i64 ((rd_T62 l 0).f0),.int .i64 ((rd_T62 l 0).f1),.string ((rd_T62 l 0).f2),.int .i64 ((rd_T62 l 0).f3)] 64 (0,0)) (sT d.out) m hk⟩));(case aO=>exact(by(with_reducible repeat(first|apply Kd.S_alloc|apply Kd.S_drewN|apply Kd.S_drew));exact Kd.S_mono y.out (fun m hk=>⟨⟨hk.2.2.1,⟨hk.2.2.2.1,hk.2.2.2.2⟩⟩,fun e_=>e_.elim (fun P=>hk.1 P) (fun P=>hk.2.1 P)⟩)));(case aS=>exact(below_size zzR));(case aL=>have:=cz.out;omega);intro gF gG ho hb hg hat;rw[←cA.out]at ho;replace z:=zM (Kd.R_over' (sE z.out) (Kd.S_typed (sI y.out)) (by decide) hg);replace D:=zM (Kd.R_over' (sE D.out) (Kd.S_typed (sI y.out)) (by decide) hg);replace r:=zM (blk_grown (g:=ae) (o:= .cells #[.int .i64 a0_0,.slice (some q) l0_1.length c0_1] 32 (0,0)) (sT r.out) hg (Kd.S_ne y.out r.out (by decide)));replace u:=zM (blk_grown (g:=ac) (o:= .cells #[.int .i64 0,.slice none 0 0] 32 (0,0)) (sT u.out) hg (Kd.S_ne y.out u.out (by decide)));replace x:=zM (blk_grown (g:=ad) (o:= .cells #[.int .i64 (s.length:Int),X] 32 (0,0)) (sT x.out) hg (Kd.S_ne y.out x.out (by decide)));replace d:=zM (blk_grown (g:=c) (o:= .cells #[.int .i64 (wrap64 (A+1)),.int .i64 ((rd_T64 l0_1 a).f1),.string ((rd_T64 l0_1 a).f2),.int .i64 ((rd_T64 l0_1 a).f3),.slice Q J.length T,.slice V L.length W,.int .i64 ((rd_T62 l 0).f0),.int .i64 ((rd_T62 l 0).f1),.string ((rd_T62 l 0).f2),.int .i64 ((rd_T62 l 0).f3)] 64 (0,0)) (sT d.out) hg (Kd.S_away y.out (fun _ hk=>hk.2.2.2.2)));replace az:=zM (Kd.R_over' (sE az.out) (Kd.S_typed (sI y.out)) (by decide) hg);replace a0:=zM (Kd.R_over' (sE a0.out) (Kd.S_typed (sI y.out)) (by decide) hg);replace HB:=zM (hb);have ci:=zM (ho);clear y ai aw;clear ho hb hg hat;obtain⟨bv,bw,cT⟩:=Kd.S_slice ci.out;subst cT;obtain⟨gH,gI,gJ,gK⟩:=cells2 x.out))
 go_roundg k1
 case measure=>have:=bP.out;omega
 case rel=>exact⟨(wrap64 (A+1)),(y484),(.slice bv y484.length bw),sr,H',⟨by have:=bP.out;omega⟩,⟨by(with_reducible repeat(first|apply Kd.R_alloc|apply Kd.R_drewN|apply Kd.R_drew));exact Kd.R_mono (Kd.R_far (p:=⟨ad,1,none⟩) (Kd.R_types z.out x.out (by decide)) (fun _ hk=>hk.2) (.slice bv y484.length bw)) (fun _ hk=>trivial)⟩,⟨by(with_reducible repeat(first|apply Kd.R_alloc|apply Kd.R_drewN|apply Kd.R_drew));exact Kd.R_mono (Kd.R_far (p:=⟨ad,1,none⟩) (Kd.R_types D.out x.out (by decide)) (fun _ hk=>hk.2) (.slice bv y484.length bw)) (fun _ hk=>trivial)⟩,⟨by(with_reducible repeat(first|apply Kd.S_alloc|apply Kd.S_drewN|apply Kd.S_drew));exact Kd.S_mono (Kd.S_far (p:=⟨ad,1,none⟩) (Kd.S_types ci.out x.out (by decide)) (fun _ hk=>hk.2) (.slice bv y484.length bw)) (fun _ hk=>trivial)⟩,⟨by(with_reducible repeat(first|refine blk_drewN ?_ _|refine blk_drew ?_|refine blk_alloc ?_ _));refine blk_far ?_ a7.out _;exact sT r.out⟩,⟨by(with_reducible repeat(first|refine blk_drewN ?_ _|refine blk_drew ?_|refine blk_alloc ?_ _));refine blk_far ?_ a1.out _;exact sT u.out⟩,⟨by(with_reducible repeat(first|refine blk_drewN ?_ _|refine blk_drew ?_|refine blk_alloc ?_ _));refine blk_put (cs:= #[.int .i64 (s.length:Int),X]) ?_ 1 _ rfl;exact sT x.out⟩,⟨sb⟩⟩)
 rw[if_neg bk]at H
 exact absurd H (by simp))
 rw[if_neg bj]at H
 exact absurd H (by simp))
 rw[if_neg bi]at H
 exact absurd H (by simp))
 rw[if_neg bh]at H
 exact absurd H (by simp))
 rw[if_neg bg]at H
 exact absurd H (by simp))
 rw[if_neg bf]at H
 exact absurd H (by simp))
 rw[if_neg a5]at H
 have c14b0:=zF a5
 clear a5
 obtain⟨cU,cV,H⟩:=sO H
 simp only[Option.some.injEq,Prod.mk.injEq]at H
 obtain⟨rfl,rfl,rfl⟩:=H
 try go_wp2
 replace z:=zM (Kd.R_drew z.out)
 replace D:=zM (Kd.R_drew D.out)
 replace y:=zM (Kd.S_drew y.out)
 replace r:=zM (blk_drew r.out)
 replace u:=zM (blk_drew u.out)
 replace x:=zM (blk_drew x.out)
 replace HB:=zM (below_drew1 HB.out)
 refine start_ (n:=6) (S:=fun w'=>w'.cell? ⟨ad,0,none⟩=some (.int .i64 (s.length:Int))∧w'.cell? ⟨ad,1,none⟩=some (X)) (ds:=[]) #[false,false,false,false,false,false] (by kernel_rfl) rfl rfl ⟨(blk_cell x.out 0).trans rfl,(blk_cell x.out 1).trans rfl⟩ (fun hHeld=>?_)
 generalize wr.drew=w67 at z D y r u x HB hHeld ⊢
 refine pure_ (i:=1) (N:=some 60) (v:=?_) (a':=?_) #[false,true,false,false,false,false] rfl rfl (by kernel_rfl) (fun _ _ _ h=>h) (Or.inl ⟨by rfl,?_⟩) ?_ ?_
 rotate_left
 ·(
 intro w'
 go_simp
 with_reducible rfl)
 rotate_left
 ·(
 simp only[zP,i64_w,i32_w]
 rfl)
 refine pure_ (i:=2) (N:=some 61) (v:=?_) (a':=?_) #[false,true,true,false,false,false] rfl rfl (by kernel_rfl) (fun _ _ _ h=>h) (Or.inl ⟨by rfl,?_⟩) ?_ ?_
 rotate_left
 ·(
 intro w'
 go_simp
 with_reducible rfl)
 rotate_left
 ·(
 simp only[zP,i64_w,i32_w]
 rfl)
 refine take_ (i:=0) (N:=some 59) (v:=?_) (a':=?_) #[true,true,true,false,false,false] rfl rfl (by kernel_rfl) (fun _ _ _ h=>h) (Or.inl ⟨by rfl,?_⟩) hHeld ?_ ?_
 rotate_left
 ·(
 rintro w' ⟨s0,s1⟩
 go_simp
 with_reducible rfl)
 rotate_left
 ·(
 simp only[zP,i64_w,i32_w]
 rfl)
 refine one_ (i:=3) (N:=some 62) #[true,true,true,true,false,false] rfl rfl (by kernel_rfl) (by decide) (fun K hK=>?_)
 refine goes_ Try.func81 (by kernel_rfl) rfl #[.slice A1 l1.length c1,.slice bB s.length aj] (by rfl) rfl rfl (by(try simp only[List.map_toArray,List.map_cons,List.map_nil]);first|done|rfl|(simp only[List.length_drop,List.length_take];rfl)) ?_
 with_reducible refine(impl_renumbered.calls k1 _ _ l1 _ _ s cU _ ?side1 ?side2 ?side3 ?side4 cV.out).mono ?_
 (case side1=>exact sD (zC bL.out HB.out))
 (case side2=>exact bM.out)
 (case side3=>exact sD ((Kd.R_reads' z.out).2.2))
 (case side4=>exact(Kd.R_reads' z.out).2.1)
 rintro e cj ⟨gL,rfl,U,hb⟩
 refine⟨_,rfl,?_⟩
 replace z:=zM (Kd.R_below (sE z.out) hb)
 replace D:=zM (Kd.R_below (sE D.out) hb)
 replace y:=zM (Kd.S_elder' (sI y.out) (Kd.R_base U) hb)
 have cW:=zM (Kd.R_lower U (below_size zzR))
 replace r:=sK r hb
 replace u:=sK u hb
 replace x:=sK x hb
 replace HB:=sB HB hb
 (try clear hb)
 (try clear hb2)
 (try clear hk)
 (try clear hi)
 (try clear U)
 obtain⟨cX,cY,ck⟩:=Kd.S_slice y.out
 (first|subst ck|(injection ck with aX a8 aY;have a9:=aX.symm;have ba:=aY.symm;clear aX a8 aY;subst a9;subst ba))
 refine hK.out _ _ ⟨(blk_cell x.out 0).trans rfl,(blk_cell x.out 1).trans rfl⟩ (fun hHeld=>?_)
 clear hK K
 refine norm_ (a':=?_) ?_ ?_
 rotate_left
 ·(
 show Act.put _ (some 62) _=_
 simp only[zP,i64_w,i32_w]
 rfl)
 refine one_ (i:=4) (N:=none) #[true,true,true,true,true,false] rfl rfl (by kernel_rfl) (by decide) (fun K hK=>?_)
 have gM:cj.cell? ⟨ac,0,none⟩=some (.int .i64 0):=(blk_cell u.out 0).trans rfl
 have gN:=blk_frozen u.out 0
 have gO:=bz.out
 have gP:=a4.out
 have gQ:=bA.out
 have gR:=a1.out
 have gS:cj.cell? ⟨ac,1,none⟩=some (.slice none 0 0):=(blk_cell u.out 1).trans rfl
 have gT:=blk_frozen u.out 1
 have gU:=bz.out
 have gV:=a4.out
 have gW:=bA.out
 have gX:=a1.out
 refine skip_ (w1:=?_) (by rfl) rfl ?_ ?_
 rotate_left
 ·(
 go_simp
 rfl)
 refine hK.out _ _ ⟨(sQ2 (g:=ac) a4.out (hHeld.1)),(sQ2 (g:=ac) a4.out (hHeld.2))⟩ (fun hHeld=>?_)
 clear hK K
 refine pure_ (i:=5) (N:=some 5) (v:=?_) (a':=?_) #[true,true,true,true,true,true] rfl rfl (by kernel_rfl) (fun _ _ _ h=>h) (Or.inl ⟨by rfl,?_⟩) ?_ ?_
 rotate_left
 ·(
 intro w'
 go_simp
 with_reducible rfl)
 rotate_left
 ·(
 simp only[zP,i64_w,i32_w]
 rfl)
 refine done_ (by kernel_rfl) ?_
 try go_wp2
 refine bodyPost_ret (results_ct rfl _ _ ac 32 #[.int .i64 (s.length:Int),.slice cX ax.length cY] (0,0) _ rfl (by exact sP2 (sT u.out)) Try.underlying32 rfl (by kernel_rfl)) rfl ?_
 exact⟨_,_,sq,by(with_reducible repeat(first|apply Kd.S_alloc|apply Kd.S_drewN|apply Kd.S_drew));exact Kd.S_mono (sSF2 (g:=ac) (Kd.S_types y.out u.out (by decide)) (fun _ hk=>hk.2)) (fun _ hk=>hk.1.2),by(with_reducible repeat(first|apply Kd.R_alloc|apply Kd.R_drewN|apply Kd.R_drew));exact Kd.R_mono (sRF2 (g:=ac) (Kd.R_types cW.out u.out (by decide)) (fun _ hk=>hk.2)) (fun _ hk=>trivial),sb⟩))
end Go.Proofs.Ytpdljgieaaicpaa.PFnExactLiveSize
