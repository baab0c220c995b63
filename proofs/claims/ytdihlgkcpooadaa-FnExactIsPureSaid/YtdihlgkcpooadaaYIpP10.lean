/- Printed functions: spec_l15Reached. -/
import Derived.Test.YtdihlgkcpooadaaYIpP0
import Derived.Test.YtdihlgkcpooadaaYIpP8
import Derived.Test.YtdihlgkcpooadaaYIpP9
namespace Go.Proofs.Ytdihlgkcpooadaa.PFnExactIsPure
open Go.RowKit Go.Proofs.YtdihlgkcpooadaaG Go.Proofs.YtdihlgkcpooadaaW.PrintWords Go.Proofs.YtdihlgkcpooadaaW.PrintLast Go.Proofs.YtdihlgkcpooadaaW.PrintMore
attribute [local go_sem] max2_int min2_int max_two min_two max_three min_three max_four min_four
set_option linter.unusedVariables false
set_option linter.unusedSimpArgs false
mutual
def spec_l15Reached.l0 : Nat → List (S52) → List Bool → List (S36) → Option ((List (S52)))
 |0,_,_,_=>none
 |k+1,x0,x5,x6=>if(x6.length:Int)>0 then(if 0<(x6.length:Int)then((spec_l11Names.f k ((rd_T36 x6 0).f0) ((rd_T36 x6 0).f1) ((rd_T36 x6 0).f2) ((rd_T36 x6 0).f3) (([]:List ByteArray))).bind fun t192=>(if 1≤(x6.length:Int)then(spec_l15Reached.l1 k x0 x5 (x6.drop (1:Int).toNat) t192 0)else(none)))else(none))else(spec_l15Reached.l2 k x0 x5 (([]:List (S52))) 0)
def spec_l15Reached.l1 : Nat → List (S52) → List Bool → List (S36) → List ByteArray → Int → Option ((List (S52)))
 |0,_,_,_,_,_=>none
 |k+1,x0,x5,x6,x7,x8=>if x8<(x7.length:Int)then(if 0≤x8 then((spec_l12Find.f k x0 (rdOf ByteArray.empty x7 x8)).bind fun t199=>(if t199≥0 then(if 0≤t199 then(if t199<(x5.length:Int)then(spec_l15Reached.j2 k x0 x5 x6 x7 x8 t199 (!(rdOf false x5 t199)))else(none))else(none))else(spec_l15Reached.j2 k x0 x5 x6 x7 x8 t199 false)))else(none))else(spec_l15Reached.l0 k x0 x5 x6)
def spec_l15Reached.j2 : Nat → List (S52) → List Bool → List (S36) → List ByteArray → Int → Int → Bool → Option ((List (S52)))
 |0,_,_,_,_,_,_,_=>none
 |k+1,x0,x5,x6,x7,x8,x9,x47=>if x47=true then(if 0≤x9 then(if x9<(x5.length:Int)then(if x9<(x0.length:Int)then(if x6.length<2513169434916 then(spec_l15Reached.l1 k x0 (x5.set (x9:Int).toNat true) (x6++[(⟨(rd_T52 x0 x9).f1.f0,(rd_T52 x0 x9).f1.f1,(rd_T52 x0 x9).f1.f2,(rd_T52 x0 x9).f1.f3⟩:S36)]) x7 (wrap64 (x8+1)))else(none))else(none))else(none))else(none))else(spec_l15Reached.l1 k x0 x5 x6 x7 (wrap64 (x8+1)))
def spec_l15Reached.l2 : Nat → List (S52) → List Bool → List (S52) → Int → Option ((List (S52)))
 |0,_,_,_,_=>none
 |k+1,x0,x5,x10,x11=>if x11<(x0.length:Int)then(if 0≤x11 then(if x11<(x5.length:Int)then(if rdOf false x5 x11=true then(if x10.length<1954687338268 then(spec_l15Reached.l2 k x0 x5 (x10++[(⟨(rd_T52 x0 x11).f0,(⟨(rd_T52 x0 x11).f1.f0,(rd_T52 x0 x11).f1.f1,(rd_T52 x0 x11).f1.f2,(rd_T52 x0 x11).f1.f3⟩:S36)⟩:S52)]) (wrap64 (x11+1)))else(none))else(spec_l15Reached.l2 k x0 x5 x10 (wrap64 (x11+1))))else(none))else(none))else(some x10)
end
def spec_l15Reached.f (k:Nat) (l0:List (S52)) (a1_0:Int) (a1_1:Int) (a1_2:ByteArray) (l1_3:List (S36)):Option ((List (S52))):=if 0≤(l0.length:Int)then(if((l0.length:Int):Int).toNat≤281474976710656 then(spec_l15Reached.l0 k l0 (List.replicate ((l0.length:Int):Int).toNat false) (([(⟨a1_0,a1_1,a1_2,l1_3⟩:S36)]:List (S36))))else(none))else(none)
set_option maxHeartbeats 8000000 in
set_option maxRecDepth 100000 in
theorem spec_l15Reached.calls (k:Nat) (P0_:Nat→Prop) (A0:Option Addr) (c0:Nat) (l0:List (S52)) (a1_0:Int) (a1_1:Int) (a1_2:ByteArray) (P1_3_:Nat→Prop) (A1_3:Option Addr) (c1_3:Nat) (l1_3:List (S36)) (r:List (S52)) (w:World) (hs0:Kd.V k52 52 w w.heap.size (fun a=>P0_ a) (.slice A0 l0.length c0) l0) (hs1_3:Kd.V k36 36 w w.heap.size (fun a=>P1_3_ a) (.slice A1_3 l1_3.length c1_3) l1_3) (h:spec_l15Reached.f k l0 a1_0 a1_1 a1_2 l1_3=some r):
  Calls Try.prog 56 #[.slice A0 l0.length c0,.agg #[.int .i64 a1_0,.int .i64 a1_1,.string a1_2,.slice A1_3 l1_3.length c1_3]] w fun e w'=>∃bS:Value,e= .returned (bS)∧Kd.V k52 52 w' w.heap.size (fun a=>((P0_ a∨P1_3_ a)∨w.heap.size≤a)) bS r∧Below w.heap.size w w':=by
 have c9:=Try.underlying36
 have da:=Try.underlying52
 have ac:=zM (show Kd.V k52 52 w w.heap.size (fun a=>((P0_ a∨P1_3_ a)∨w.heap.size≤a)) (.slice A0 l0.length c0) l0 from Kd.V_mono hs0 (fun a hk=> .inl (.inl hk)))
 have Z:=zM (show Kd.V k36 36 w w.heap.size (fun a=>((P0_ a∨P1_3_ a)∨w.heap.size≤a)) (.slice A1_3 l1_3.length c1_3) l1_3 from Kd.V_mono hs1_3 (fun a hk=> .inl (.inr hk)))
 have HB:=zM (Below.refl w.heap.size w)
 have H:(if 0≤(l0.length:Int)then(if((l0.length:Int):Int).toNat≤281474976710656 then(spec_l15Reached.l0 k l0 (List.replicate ((l0.length:Int):Int).toNat false) (([(⟨a1_0,a1_1,a1_2,l1_3⟩:S36)]:List (S36))))else(none))else(none))=some r:=h
 clear h
 by_cases c3:0≤(l0.length:Int)
 ·(
 rw[if_pos c3]at H
 have c3b0:=eq_true c3
 have c3b1:=zT c3
 clear c3
 by_cases c4:((l0.length:Int):Int).toNat≤281474976710656
 ·(
 rw[if_pos c4]at H
 have c4b0:=eq_true c4
 have c4b1:=zT c4
 clear c4
 obtain⟨y182,hy182⟩:∃O:List Bool,O=(List.replicate ((l0.length:Int):Int).toNat false):=⟨_,rfl⟩
 replace H:(spec_l15Reached.l0 k l0 y182 (([(⟨a1_0,a1_1,a1_2,l1_3⟩:S36)]:List (S36))))=some r:=by first|(rw[hy182];with_reducible exact H)|(have u:=(Option.bind_some _ _).symm.trans H;rw[hy182];with_reducible exact u)|(have u:=(Option.bind_some _ _).symm.trans H;with_reducible exact u)|with_reducible exact H|(rw[hy182];exact H)|exact H
 have bT:=zM hy182
 clear hy182
 obtain⟨y185,hy185⟩:∃O:List (S36),O=(([(⟨a1_0,a1_1,a1_2,l1_3⟩:S36)]:List (S36))):=⟨_,rfl⟩
 replace H:(spec_l15Reached.l0 k l0 y182 y185)=some r:=by first|(rw[hy185];with_reducible exact H)|(have u:=(Option.bind_some _ _).symm.trans H;rw[hy185];with_reducible exact u)|(have u:=(Option.bind_some _ _).symm.trans H;with_reducible exact u)|with_reducible exact H|(rw[hy185];exact H)|exact H
 have bU:=zM hy185
 clear hy185
 have H':=zM H
 clear H
 go_enter Try.func56,Try.ntmps56
 go_wp2_with (first|((with_reducible refine gate_dst (N:=3) rfl ?_);refine sV (N:=3) (cs:= #[.int .i64 a1_0,.int .i64 a1_1,.string a1_2,.slice A1_3 l1_3.length c1_3]) (t:=36) ?_;intro c hg w5 hbox hb;have B:=zM (Kd.V_below (Kd.V_elderB (by(with_reducible repeat(first|apply Kd.V_alloc|apply Kd.V_drewN|apply Kd.V_drew));exact ac.out) c (Nat.le_of_eq hg.symm)) hb);have C:=zM (Kd.V_below (Kd.V_elderB (by(with_reducible repeat(first|apply Kd.V_alloc|apply Kd.V_drewN|apply Kd.V_drew));exact Z.out) c (Nat.le_of_eq hg.symm)) hb);have D:=sB HB hb;have E:=zM (hbox);have F:=sG HB hg;have I:=sG HB hg;clear ac;clear Z;clear HB;have ac:=B;have Z:=C;have HB:=D;have j:=E;have db:=F;have L:=I;clear B C D E F I;clear hb hbox hg)|((with_reducible refine gate_dst (N:=14) rfl ?_);refine Kd.R_make Kd.bool _ 4 rfl (N:=14) rfl 113 _ _ rfl (l0.length:Int) rfl rfl Try.underlying113 (.bool false) 1 info4 rfl (by decide) (by omega) false (ok:=fun _=>True) (okp:=fun _=>True) rfl (fun _ hk=>hk) trivial (zzA) (Nat.le_trans (Nat.mul_le_mul_right _ (zzA:(l0.length:Int).toNat≤281474976710656)) (by omega)) (Below.refl _ _) (Nat.le_refl _) ?_;intro x w6 al hb am an;clear am an;(first|rw[←bT.out]at al|(simp only[Int.reduceToNat]at al;rw[←bT.out]at al));have B:=zM (Kd.V_elder' (by(with_reducible repeat(first|apply Kd.V_alloc|apply Kd.V_drewN|apply Kd.V_drew));exact ac.out) (Kd.R_base al) hb);have C:=zM (Kd.V_elder' (by(with_reducible repeat(first|apply Kd.V_alloc|apply Kd.V_drewN|apply Kd.V_drew));exact Z.out) (Kd.R_base al) hb);have D:=zM (Kd.R_lower (Kd.R_newM (M:=fun a=>(w.heap.size≤a)) al (below_size zzR) (fun a h_=>h_)) (below_size zzR));have E:=sK j hb;have F:=sB HB hb;clear ac;clear Z;clear j;clear HB;have ac:=B;have Z:=C;have aJ:=D;have j:=E;have HB:=F;clear B C D E F;clear hb al;obtain⟨aW,aX,aY,aZ,a0,a1,a2,a3⟩:=cells4 j.out)|((with_reducible refine gate_dst (N:=16) rfl ?_);refine Kq.N_lit k36 _ 36 ?hg (N':=16) ?hd (xs:=([(⟨a1_0,a1_1,a1_2,l1_3⟩:S36)]:List (S36))) (inner:=[.int .i64 a1_0,.int .i64 a1_1,.string a1_2,.slice A1_3 l1_3.length c1_3]) (ok:=(fun a=>((P0_ a∨P1_3_ a)∨w.heap.size≤a)∧some a≠(x:Value).ownBlock∧a≠c)) (okp:=(fun a=>((P0_ a∨P1_3_ a)∨w.heap.size≤a)∧some a≠(x:Value).ownBlock∧a≠c)) ?hr ?hp (fun _ hk=>hk) ((show ∀a,w6.heap.size≤a→(fun a=>((P0_ a∨P1_3_ a)∨w.heap.size≤a)∧some a≠(x:Value).ownBlock∧a≠c) a from fun a hk=>⟨(.inr (Nat.le_trans (below_size zzR) hk)),Kd.fresh' (Kd.R_lt (sE aJ.out)) a hk,Kd.freshB (g:=c) (o:= .cells #[.int .i64 a1_0,.int .i64 a1_1,.string a1_2,.slice A1_3 l1_3.length c1_3] 36 (0,0)) (sT j.out) a hk⟩) _ (Nat.le_refl _)) (Below.refl _ _) (Nat.le_refl _) (by simp) ?_;(case hd=>rfl);(case hg=>rfl);(case hr=>first|(go_simp;done)|(go_simp;rfl));(case hp=>exact(Reps.c4 (show Kd.FK k36 _ _ (⟨a1_0,a1_1,a1_2,l1_3⟩:S36) [.int .i64 a1_0,.int .i64 a1_1,.string a1_2,.slice A1_3 l1_3.length c1_3] from(k36_mkF _ _ (⟨a1_0,a1_1,a1_2,l1_3⟩:S36) (Kd.V_reads' (Kd.V_mono (ok':=(fun a=>((P0_ a∨P1_3_ a)∨w.heap.size≤a)∧some a≠(x:Value).ownBlock∧a≠c)) (Z.out) (fun a hk=>⟨hk.1.1,⟨hk.2,hk.1.2⟩⟩))).2.1 (Kd.V_F (Kd.V_mono (ok':=(fun a=>((P0_ a∨P1_3_ a)∨w.heap.size≤a)∧some a≠(x:Value).ownBlock∧a≠c)) (Z.out) (fun a hk=>⟨hk.1.1,⟨hk.2,hk.1.2⟩⟩))))) (Reps.none _ _)));intro dc w9 ao hb am an;clear am an;(first|rw[←bU.out]at ao|(simp only[Int.reduceToNat]at ao;rw[←bU.out]at ao));have B:=zM (Kd.V_elder' (by(with_reducible repeat(first|apply Kd.V_alloc|apply Kd.V_drewN|apply Kd.V_drew));exact ac.out) (Kq.N_base ao) hb);have C:=zM (Kd.V_elder' (by(with_reducible repeat(first|apply Kd.V_alloc|apply Kd.V_drewN|apply Kd.V_drew));exact Z.out) (Kq.N_base ao) hb);have D:=zM (Kd.R_below (sE aJ.out) hb);have E:=zM (Kq.N_lower ao (below_size zzR));have F:=sK j hb;have I:=sB HB hb;clear ac;clear Z;clear aJ;clear j;clear HB;have ac:=B;have Z:=C;have aJ:=D;have cg:=E;have j:=F;have HB:=I;clear B C D E F I;clear hb ao))
 go_loopg [6] k (fun kq v6 w'=>∃(G:List Bool) (n:List (S36)),Aside0 (spec_l15Reached.l0 kq l0 G n=some r)∧Aside0 (kq≤k)∧Aside0 (Kd.V k52 52 w' w.heap.size (fun a=>((P0_ a∨P1_3_ a)∨w.heap.size≤a)∧some a≠(x:Value).ownBlock∧some a≠(v6:Value).ownBlock∧a≠c) (.slice A0 l0.length c0) l0)∧Aside0 (Kd.R Kd.bool 4 w' w.heap.size (fun a=>(w.heap.size≤a)) x G)∧Aside0 (Kq.N k36 36 w' w.heap.size (fun a=>((P0_ a∨P1_3_ a)∨w.heap.size≤a)∧some a≠(x:Value).ownBlock∧a≠c) v6 n)∧Aside0 (Kd.V k36 36 w' w.heap.size (fun a=>((P0_ a∨P1_3_ a)∨w.heap.size≤a)∧some a≠(x:Value).ownBlock∧some a≠(v6:Value).ownBlock∧a≠c) (.slice A1_3 l1_3.length c1_3) l1_3)∧Aside0 (w'.heap[c]?=some (.cells #[.int .i64 a1_0,.int .i64 a1_1,.string a1_2,(.slice A1_3 l1_3.length c1_3)] 36 (0,0)))∧Aside0 (Below w.heap.size w w'))
 case atStart=>exact⟨(y182),(y185),H',⟨Nat.le_refl _⟩,⟨by(with_reducible repeat(first|apply Kd.V_alloc|apply Kd.V_drewN|apply Kd.V_drew));exact Kd.V_mono ac.out (fun _ hk=>⟨hk.1.1.1,⟨hk.1.2,⟨hk.2,hk.1.1.2⟩⟩⟩)⟩,⟨by(with_reducible repeat(first|apply Kd.R_alloc|apply Kd.R_drewN|apply Kd.R_drew));exact Kd.R_mono aJ.out (fun _ hk=>hk.1)⟩,⟨by(with_reducible repeat(first|apply Kq.N_alloc|apply Kq.N_drewN|apply Kq.N_drew));exact cg.out⟩,⟨by(with_reducible repeat(first|apply Kd.V_alloc|apply Kd.V_drewN|apply Kd.V_drew));exact Kd.V_mono Z.out (fun _ hk=>⟨hk.1.1.1,⟨hk.1.2,⟨hk.2,hk.1.1.2⟩⟩⟩)⟩,⟨by exact sT j.out⟩,⟨sb⟩⟩
 case round=>(
 clear H'
 try clear c3
 try clear c3b0
 try clear c3b1
 try clear c4
 try clear c4b0
 try clear c4b1
 try clear aW
 try clear aX
 try clear aY
 try clear aZ
 try clear a0
 try clear a1
 try clear a2
 try clear a3
 obtain⟨G,n,HA,aa,m,l,y,s,j,HB⟩:=hrel
 cases gk with
 |zero=>exact absurd HA.out (by simp[spec_l15Reached.l0])
 |succ k1=>(
 have H:=HA.out
 clear HA
 simp only[spec_l15Reached.l0]at H
 by_cases af:(n.length:Int)>0
 ·(
 rw[if_pos af]at H
 have c11b0:decide (0<(n.length:Int))=true:=zT af
 have c11b1:decide (0<n.length)=true:=zT (by omega)
 clear af
 by_cases az:0<(n.length:Int)
 ·(
 rw[if_pos az]at H
 have c12b0:=zT az
 have c12b1:decide (0<n.length)=true:=zT (by omega)
 clear az
 obtain⟨y189,hy189⟩:∃O:List ByteArray,O=(([]:List ByteArray)):=⟨_,rfl⟩
 replace H:((spec_l11Names.f k1 ((rd_T36 n 0).f0) ((rd_T36 n 0).f1) ((rd_T36 n 0).f2) ((rd_T36 n 0).f3) y189).bind fun z=>(if 1≤(n.length:Int)then(spec_l15Reached.l1 k1 l0 G (n.drop (1:Int).toNat) z 0)else(none)))=some r:=by first|(rw[hy189];with_reducible exact H)|(have u:=(Option.bind_some _ _).symm.trans H;rw[hy189];with_reducible exact u)|(have u:=(Option.bind_some _ _).symm.trans H;with_reducible exact u)|with_reducible exact H|(rw[hy189];exact H)|exact H
 have bV:=zM hy189
 clear hy189
 obtain⟨z,ch,H⟩:=sO H
 by_cases ap:1≤(n.length:Int)
 ·(
 rw[if_pos ap]at H
 have c14b0:=eq_true ap
 have c14b1:=zT ap
 clear ap
 obtain⟨y195,hy195⟩:∃O:List (S36),O=(n.drop (1:Int).toNat):=⟨_,rfl⟩
 replace H:(spec_l15Reached.l1 k1 l0 G y195 z 0)=some r:=by first|(rw[hy195];with_reducible exact H)|(have u:=(Option.bind_some _ _).symm.trans H;rw[hy195];with_reducible exact u)|(have u:=(Option.bind_some _ _).symm.trans H;with_reducible exact u)|with_reducible exact H|(rw[hy195];exact H)|exact H
 have bW:=zM hy195
 clear hy195
 have H':=zM H
 clear H
 obtain⟨dd,aA,ci⟩:=Kq.N_slice y.out
 subst ci
 have aC:0≤(0:Int):=(by omega)
 have aD:0<(n.length:Int):=zzA
 obtain⟨aq,cj,ck,cl,bt,bu,bv,a4,bX,bY⟩:=at_T36 (Kq.N_reads' y.out).2.2 0 aC aD
 cases cl
 obtain⟨de,cm,cn,bZ⟩:=Kq.N_get y.out z36 0 aC (by first|exact aD|exact zzA|(have e_:=(Kq.N_reads' y.out).1;omega))
 obtain⟨df,dg,rfl,bw,bx⟩:=k36_openF cn
 have a5:=bZ 3 _ rfl
 rw[add_field _ _ 3 (by omega)]at a5
 replace a5:=zI (a5.symm.trans a4)
 injection a5 with ah aK ai
 rw[ah]at bx
 rw[ai]at bw
 have aM:=zM (show Kd.V k36 36 _ w.heap.size _ _ ((rd_T36 n 0).f3) from Kd.V_mk bw bx)
 clear ah aK ai bx bw
 clear bZ cm
 have dh:(0<n.length)=True:=eq_true (by omega)
 (try rw[sZ]at bt)
 (try rw[sZ]at bu)
 (try rw[sZ]at bv)
 (try rw[sZ]at a4)
 have a6:=zM bY
 have co:=zM bX
 clear bY bX
 replace aC:=eq_true aC
 replace aD:=eq_true aD
 go_wp2_with (first|((with_reducible refine gate_dst (N:=23) rfl ?_);refine Kd.R_lit Kd.string _ 9 ?hg (N:=23) ?hd (xs:=([]:List ByteArray)) (inner:=[]) (ok:=fun _=>True) (okp:=fun _=>True) ?hr ?hp (fun _ hk=>hk) trivial (Below.refl _ _) (Nat.le_refl _) (by simp) ?_;(case hd=>rfl);(case hg=>rfl);(case hr=>first|(go_simp;done)|(go_simp;rfl));(case hp=>exact(Reps.none _ _));intro di dj ag hb am an;clear am an;(first|rw[←bV.out]at ag|(simp only[Int.reduceToNat]at ag;rw[←bV.out]at ag));have B:=zM (Kd.V_elder' (by(with_reducible repeat(first|apply Kd.V_alloc|apply Kd.V_drewN|apply Kd.V_drew));exact m.out) (Kd.R_base ag) hb);have C:=zM (Kd.R_below (sE l.out) hb);have D:=zM (Kq.N_elder' (by(with_reducible repeat(first|apply Kq.N_alloc|apply Kq.N_drewN|apply Kq.N_drew));exact y.out) (Kd.R_base ag) hb);have E:=zM (Kd.V_elder' (by(with_reducible repeat(first|apply Kd.V_alloc|apply Kd.V_drewN|apply Kd.V_drew));exact s.out) (Kd.R_base ag) hb);have F:=zM (Kd.V_elder' (by(with_reducible repeat(first|apply Kd.V_alloc|apply Kd.V_drewN|apply Kd.V_drew));exact aM.out) (Kd.R_base ag) hb);have I:=zM (Kd.R_lower (Kd.R_newM (M:=fun a=>(w.heap.size≤a)) ag (below_size zzR) (fun a h_=>h_)) (below_size zzR));have U:=sK j hb;have aN:=zM (zC (by repeat(first|(with_reducible exact a6.out)|(with_reducible refine Kd.C_alloc ?_ _)|(with_reducible refine Kd.C_drewN ?_ _)|(with_reducible refine Kd.C_drew ?_)|exact a6.out)) hb);have b0:=sB HB hb;clear m;clear l;clear y;clear s;clear aM;clear j;clear a6;clear HB;have m:=B;have l:=C;have y:=D;have s:=E;have aM:=F;have aE:=I;have j:=U;have a6:=aN;have HB:=b0;clear B C D E F I U aN b0;clear hb ag;obtain⟨bz,bA,cp⟩:=Kd.R_slice aE.out;subst cp)|((with_reducible refine gate_callee (f:=81) rfl ?_);refine sC (some 24) Try.func81 #[.agg #[.int .i64 ((rd_T36 n 0).f0),.int .i64 ((rd_T36 n 0).f1),.string ((rd_T36 n 0).f2),.slice cj ((rd_T36 n 0).f3).length ck],.slice bz y189.length bA] (spec_l11Names.calls k1 ((rd_T36 n 0).f0) ((rd_T36 n 0).f1) ((rd_T36 n 0).f2) _ _ ((rd_T36 n 0).f3) (fun a=>some a=(.slice bz y189.length bA:Value).ownBlock) (.slice bz y189.length bA) y189 z w _ ?side1 ?side2 ?side3 ?side4 ch.out) ?_;(case side1=>repeat(first|(with_reducible first|exact HB.out|apply below_alloc|apply pw_below_drewN|apply below_drew1|refine below_set ?_ L.out)|exact HB.out));(case side2=>exact Kd.C_kept_ownV (aM.out) (fun a q J=>(q.2) J));(case side3=>exact co.out);(case side4=>exact Kd.R_tight rfl aE.out);rintro e cq ⟨ad,rfl,aQ,hb,hkp⟩;refine⟨_,rfl,?_⟩;replace m:=zM (Kd.V_mono (ok':=fun a=>((P0_ a∨P1_3_ a)∨w.heap.size≤a)∧some a≠(x:Value).ownBlock∧some a≠(.slice (some aq) n.length aA:Value).ownBlock∧a≠c∧some a≠(ad:Value).ownBlock) (Kd.V_keptB (m.out) hkp (fun a q J=>(q.2) J)) (fun a q=>⟨q.1.1.1,q.1.1.2.1,q.1.1.2.2.1,q.1.1.2.2.2,fun e_=>Or.elim (aQ.1 a e_.symm) (fun J=>q.2.1 J) (fun ar=>Nat.not_le.2 q.2.2 ar)⟩));replace l:=zM (Kd.R_mono (ok':=fun a=>(w.heap.size≤a)) (Kd.R_keptB ((Kd.R_apart' l.out (Kd.R_typed aE.out) (by decide))) hkp (fun a q J=>(q.2) J)) (fun a q=>q.1.1));replace y:=zM (Kq.N_mono (ok':=fun a=>((P0_ a∨P1_3_ a)∨w.heap.size≤a)∧some a≠(x:Value).ownBlock∧a≠c∧some a≠(ad:Value).ownBlock) (Kq.N_keptB (y.out) hkp (fun a q J=>(q.2) J)) (fun a q=>⟨q.1.1.1,q.1.1.2.1,q.1.1.2.2,fun e_=>Or.elim (aQ.1 a e_.symm) (fun J=>q.2.1 J) (fun ar=>Nat.not_le.2 q.2.2 ar)⟩));replace s:=zM (Kd.V_mono (ok':=fun a=>((P0_ a∨P1_3_ a)∨w.heap.size≤a)∧some a≠(x:Value).ownBlock∧some a≠(.slice (some aq) n.length aA:Value).ownBlock∧a≠c∧some a≠(ad:Value).ownBlock) (Kd.V_keptB (s.out) hkp (fun a q J=>(q.2) J)) (fun a q=>⟨q.1.1.1,q.1.1.2.1,q.1.1.2.2.1,q.1.1.2.2.2,fun e_=>Or.elim (aQ.1 a e_.symm) (fun J=>q.2.1 J) (fun ar=>Nat.not_le.2 q.2.2 ar)⟩));replace j:=zM (blk_kept (sT j.out) hkp (fun J=>(fun e_=>(Kd.R_ne aE.out j.out (by decide)) e_) J));have cr:=zM (Kd.R_mono (ok':=fun a=>(w.heap.size≤a)) aQ (fun a q=>Or.elim q (fun J=>(aE.out.1 a (J).symm).1) (fun ar=>(Nat.le_trans (below_size zzR) ar))));replace HB:=zM (hb);clear aE aM;(try clear hb);(try clear hkp);(try clear aQ);have au:(1:Int)≤((n.length:Int):Int):=zzA;obtain⟨dk,b1,_,b2,_⟩:=info_parts info36;have ct:=cut_from (P:=Try.prog) 34 36 .i64 Try.underlying34 b1 4 b2 (some aq) n.length aA 1 (by omega) au;have aR:=Kq.NN_drop (k:=(1:Int).toNat) y.out (by omega);obtain⟨A20,hA20⟩:∃A1,A1=(if aA=(1:Int).toNat then(some aq)else((some aq):Option Addr).map (·.add ((1:Int).toNat*4))):=⟨_,rfl⟩;obtain⟨c20,hc20⟩:∃c1,c1=aA-(1:Int).toNat:=⟨_,rfl⟩;have bB:y195.length=n.length-(1:Int).toNat:=(by rw[bW.out,List.length_drop]);rw[←bW.out]at aR;rw[←bB, ←hA20, ←hc20]at ct;replace aR:Kq.N k36 36 cq w.heap.size (fun a=>((((P0_ a∨P1_3_ a)∨w.heap.size≤a))∧(some a≠(x:Value).ownBlock∧(a≠c∧some a≠(ad:Value).ownBlock)))) (.slice A20 y195.length c20) y195:=(by rw[hA20,hc20,bB];exact aR);have b3:Aside0 ((Value.slice A20 y195.length c20).ownBlock=(.slice (some aq) n.length aA:Value).ownBlock):=⟨by rw[hA20];split<;>(cases((some aq):Option Addr)<;>rfl)⟩;clear bB b1 b2 y hA20 hc20;have cu:=zM aR;clear aR;replace au:=eq_true au;have n_:=zM (Kd.V_mono (ok':=fun a=>((((P0_ a∨P1_3_ a)∨w.heap.size≤a))∧(some a≠(x:Value).ownBlock∧(some a≠(.slice A20 y195.length c20:Value).ownBlock∧(a≠c∧some a≠(ad:Value).ownBlock))))) m.out (fun a hk=>⟨hk.1,⟨hk.2.1,⟨(by rw[b3.out];exact hk.2.2.1),⟨hk.2.2.2.1,hk.2.2.2.2⟩⟩⟩⟩));clear m;have m:=n_;clear n_;have n_:=zM (Kd.V_mono (ok':=fun a=>((((P0_ a∨P1_3_ a)∨w.heap.size≤a))∧(some a≠(x:Value).ownBlock∧(some a≠(.slice A20 y195.length c20:Value).ownBlock∧(a≠c∧some a≠(ad:Value).ownBlock))))) s.out (fun a hk=>⟨hk.1,⟨hk.2.1,⟨(by rw[b3.out];exact hk.2.2.1),⟨hk.2.2.2.1,hk.2.2.2.2⟩⟩⟩⟩));clear s;have s:=n_;clear n_))
 go_loopg [6,8] k1 (fun kq v6 v8 w'=>∃(A:List Bool) (ab:List (S36)) (Q:Int),v8= .int .i64 Q∧Aside0 (spec_l15Reached.l1 kq l0 A ab z Q=some r)∧Aside0 (kq≤k1)∧Aside0 (Kd.V k52 52 w' w.heap.size (fun a=>((P0_ a∨P1_3_ a)∨w.heap.size≤a)∧some a≠(x:Value).ownBlock∧some a≠(v6:Value).ownBlock∧some a≠(ad:Value).ownBlock∧a≠c) (.slice A0 l0.length c0) l0)∧Aside0 (Kd.R Kd.bool 4 w' w.heap.size (fun a=>(w.heap.size≤a)) x A)∧Aside0 (Kq.N k36 36 w' w.heap.size (fun a=>((P0_ a∨P1_3_ a)∨w.heap.size≤a)∧some a≠(x:Value).ownBlock∧some a≠(ad:Value).ownBlock∧a≠c) v6 ab)∧Aside0 (Kd.R Kd.string 9 w' w.heap.size (fun a=>(w.heap.size≤a)) ad z)∧Aside0 (Kd.V k36 36 w' w.heap.size (fun a=>((P0_ a∨P1_3_ a)∨w.heap.size≤a)∧some a≠(x:Value).ownBlock∧some a≠(v6:Value).ownBlock∧some a≠(ad:Value).ownBlock∧a≠c) (.slice A1_3 l1_3.length c1_3) l1_3)∧Aside0 (w'.heap[c]?=some (.cells #[.int .i64 a1_0,.int .i64 a1_1,.string a1_2,(.slice A1_3 l1_3.length c1_3)] 36 (0,0)))∧Aside0 (Below w.heap.size w w'))
 case atStart=>exact⟨(G),(y195),(0),sr,H',⟨Nat.le_refl _⟩,⟨by(with_reducible repeat(first|apply Kd.V_alloc|apply Kd.V_drewN|apply Kd.V_drew));exact Kd.V_mono m.out (fun _ hk=>⟨hk.1,⟨hk.2.1,⟨hk.2.2.1,⟨hk.2.2.2.2,hk.2.2.2.1⟩⟩⟩⟩)⟩,⟨by exact sE l.out⟩,⟨by(with_reducible repeat(first|apply Kq.N_alloc|apply Kq.N_drewN|apply Kq.N_drew));exact Kq.N_mono cu.out (fun _ hk=>⟨hk.1,⟨hk.2.1,⟨hk.2.2.2,hk.2.2.1⟩⟩⟩)⟩,⟨by exact sE cr.out⟩,⟨by(with_reducible repeat(first|apply Kd.V_alloc|apply Kd.V_drewN|apply Kd.V_drew));exact Kd.V_mono s.out (fun _ hk=>⟨hk.1,⟨hk.2.1,⟨hk.2.2.1,⟨hk.2.2.2.2,hk.2.2.2.1⟩⟩⟩⟩)⟩,⟨by exact sT j.out⟩,⟨sb⟩⟩
 case round=>(
 clear H'
 try clear c1
 try clear c3
 try clear c3b0
 try clear c3b1
 try clear c4
 try clear c4b0
 try clear c4b1
 try clear af
 try clear c11b0
 try clear c11b1
 try clear az
 try clear c12b0
 try clear c12b1
 try clear ap
 try clear c14b0
 try clear c14b1
 try clear c20
 try clear au
 try clear aW
 try clear aX
 try clear aY
 try clear aZ
 try clear a0
 try clear a1
 try clear a2
 try clear a3
 try clear bt
 try clear bu
 try clear bv
 try clear a4
 try clear aC
 try clear aD
 try clear au
 obtain⟨A,ab,Q,rfl,HA,Y,m,l,y,S,s,j,HB⟩:=hrel
 cases gk with
 |zero=>exact absurd HA.out (by simp[spec_l15Reached.l1])
 |succ k2=>(
 have H:=HA.out
 clear HA
 simp only[spec_l15Reached.l1]at H
 by_cases av:Q<(z.length:Int)
 ·(
 rw[if_pos av]at H
 have c21b0:=zT av
 clear av
 by_cases aT:0≤Q
 ·(
 rw[if_pos aT]at H
 have c22b0:=zT aT
 clear aT
 obtain⟨i,cv,H⟩:=sO H
 have bC:=zM H
 clear H
 obtain⟨dl,W,cw⟩:=Kd.R_slice S.out
 subst cw
 have a7:0≤(Q:Int):=zzA
 have a8:Q<(z.length:Int):=zzA
 obtain⟨X,cx,cy⟩:=Kd.at_string (Kd.R_reads' S.out).2.2 Q a7 a8
 cases cx
 replace a7:=eq_true a7
 replace a8:=eq_true a8
 go_upto_region 10 with(first|((with_reducible refine gate_callee (f:=64) rfl ?_);refine sC (some 38) Try.func64 #[.slice A0 l0.length c0,.string (rdOf ByteArray.empty z Q)] (spec_l12Find.calls k2 _ _ l0 (rdOf ByteArray.empty z Q) i _ ?side1 ?side2 cv.out) ?_;(case side1=>exact sD ((Kd.V_reads' m.out).2.2));(case side2=>exact(Kd.V_reads' m.out).2.1);rintro e w' ⟨rfl,⟨nd,rfl⟩⟩;refine⟨_,rfl,?_⟩))
 (try simp only[zP])
 go_cut [47] (fun cz wc=>∃(kq:Nat) (a9:Bool),cz= .bool a9∧Aside0 (spec_l15Reached.j2 kq l0 A ab z Q i a9=some r)∧Aside0 (kq≤k2)∧Aside0 (Kd.V k52 52 wc w.heap.size (fun a=>((P0_ a∨P1_3_ a)∨w.heap.size≤a)∧some a≠(x:Value).ownBlock∧some a≠(u6:Value).ownBlock∧some a≠((.slice (some X) z.length W):Value).ownBlock∧a≠c) (.slice A0 l0.length c0) l0)∧Aside0 (Kd.R Kd.bool 4 wc w.heap.size (fun a=>(w.heap.size≤a)) x A)∧Aside0 (Kq.N k36 36 wc w.heap.size (fun a=>((P0_ a∨P1_3_ a)∨w.heap.size≤a)∧some a≠(x:Value).ownBlock∧some a≠((.slice (some X) z.length W):Value).ownBlock∧a≠c) u6 ab)∧Aside0 (Kd.R Kd.string 9 wc w.heap.size (fun a=>(w.heap.size≤a)) (.slice (some X) z.length W) z)∧Aside0 (Kd.V k36 36 wc w.heap.size (fun a=>((P0_ a∨P1_3_ a)∨w.heap.size≤a)∧some a≠(x:Value).ownBlock∧some a≠(u6:Value).ownBlock∧some a≠((.slice (some X) z.length W):Value).ownBlock∧a≠c) (.slice A1_3 l1_3.length c1_3) l1_3)∧Aside0 (wc.heap[c]?=some (.cells #[.int .i64 a1_0,.int .i64 a1_1,.string a1_2,(.slice A1_3 l1_3.length c1_3)] 36 (0,0)))∧Aside0 (Below w.heap.size w wc))
 case first=>(
 have H:=bC.out
 clear bC
 by_cases aG:i≥0
 ·(
 rw[if_pos aG]at H
 have c26b0:decide (0≤i)=true:=zT aG
 clear aG
 (first|rw[c26b0]|(simp only[i64_w,i32_w];rw[c26b0])|rw[c26b2]|skip)
 by_cases ba:0≤i
 ·(
 rw[if_pos ba]at H
 have c27b0:=zT ba
 clear ba
 by_cases bb:i<(A.length:Int)
 ·(
 rw[if_pos bb]at H
 have c28b0:=zT bb
 clear bb
 have H':=zM H
 clear H
 obtain⟨dm,dn,cA⟩:=Kd.R_slice l.out
 subst cA
 have bD:0≤(i:Int):=zzA
 have bE:i<(A.length:Int):=zzA
 obtain⟨dp,cB,dq⟩:=Kd.at_bool (Kd.R_reads' l.out).2.2 i bD bE
 cases cB
 replace bD:=eq_true bD
 replace bE:=eq_true bE
 go_wp2
 go_meet
 case rel=>exact⟨_,(!(rdOf false A i)),sr,H',⟨by have:=aa.out;have:=Y.out;first|omega|exact Nat.le_refl _⟩,⟨by(with_reducible repeat(first|apply Kd.V_alloc|apply Kd.V_drewN|apply Kd.V_drew));exact m.out⟩,⟨by exact sE l.out⟩,⟨by(with_reducible repeat(first|apply Kq.N_alloc|apply Kq.N_drewN|apply Kq.N_drew));exact y.out⟩,⟨by exact sE S.out⟩,⟨by(with_reducible repeat(first|apply Kd.V_alloc|apply Kd.V_drewN|apply Kd.V_drew));exact s.out⟩,⟨by exact sT j.out⟩,⟨sb⟩⟩)
 rw[if_neg bb]at H
 exact absurd H (by simp))
 rw[if_neg ba]at H
 exact absurd H (by simp))
 rw[if_neg aG]at H
 have c26b0:decide (0≤i)=false:=zF aG
 clear aG
 (first|rw[c26b0]|(simp only[i64_w,i32_w];rw[c26b0])|rw[c26b2]|skip)
 have H':=zM H
 clear H
 go_wp2
 go_meet
 case rel=>exact⟨_,(false),sr,H',⟨by have:=aa.out;have:=Y.out;first|omega|exact Nat.le_refl _⟩,⟨by(with_reducible repeat(first|apply Kd.V_alloc|apply Kd.V_drewN|apply Kd.V_drew));exact m.out⟩,⟨by exact sE l.out⟩,⟨by(with_reducible repeat(first|apply Kq.N_alloc|apply Kq.N_drewN|apply Kq.N_drew));exact y.out⟩,⟨by exact sE S.out⟩,⟨by(with_reducible repeat(first|apply Kd.V_alloc|apply Kd.V_drewN|apply Kd.V_drew));exact s.out⟩,⟨by exact sT j.out⟩,⟨sb⟩⟩)
 case rest=>(
 clear bC
 try clear c1
 try clear c3
 try clear c3b0
 try clear c3b1
 try clear c4
 try clear c4b0
 try clear c4b1
 try clear af
 try clear c11b0
 try clear c11b1
 try clear az
 try clear c12b0
 try clear c12b1
 try clear ap
 try clear c14b0
 try clear c14b1
 try clear c20
 try clear au
 try clear av
 try clear c21b0
 try clear aT
 try clear c22b0
 try clear aW
 try clear aX
 try clear aY
 try clear aZ
 try clear a0
 try clear a1
 try clear a2
 try clear a3
 try clear bt
 try clear bu
 try clear bv
 try clear a4
 try clear cy
 try clear aC
 try clear a7
 try clear aD
 try clear a8
 try clear au
 obtain⟨kq,a9,rfl,HA,bc,m,l,y,S,s,j,HB⟩:=hcut
 cases kq with
 |zero=>exact absurd HA.out (by simp[spec_l15Reached.j2])
 |succ kj23=>(
 have H:=HA.out
 clear HA
 simp only[spec_l15Reached.j2]at H
 by_cases bd:a9=true
 ·(
 subst bd
 rewrite[if_pos rfl]at H
 by_cases be:0≤i
 ·(
 rw[if_pos be]at H
 have c31b0:=zT be
 clear be
 by_cases bf:i<(A.length:Int)
 ·(
 rw[if_pos bf]at H
 have c32b0:=zT bf
 clear bf
 obtain⟨y201,hy201⟩:∃O:List Bool,O=(A.set (i:Int).toNat true):=⟨_,rfl⟩
 replace H:(if i<(l0.length:Int)then(if ab.length<2513169434916 then(spec_l15Reached.l1 kj23 l0 y201 (ab++[(⟨(rd_T52 l0 i).f1.f0,(rd_T52 l0 i).f1.f1,(rd_T52 l0 i).f1.f2,(rd_T52 l0 i).f1.f3⟩:S36)]) z (wrap64 (Q+1)))else(none))else(none))=some r:=by first|(rw[hy201];with_reducible exact H)|(have u:=(Option.bind_some _ _).symm.trans H;rw[hy201];with_reducible exact u)|(have u:=(Option.bind_some _ _).symm.trans H;with_reducible exact u)|with_reducible exact H|(rw[hy201];exact H)|exact H
 have cC:=zM hy201
 clear hy201
 by_cases bg:i<(l0.length:Int)
 ·(
 rw[if_pos bg]at H
 have c34b0:=zT bg
 clear bg
 by_cases bh:ab.length<2513169434916
 ·(
 rw[if_pos bh]at H
 have cD:=zM bh
 clear bh
 obtain⟨y203,hy203⟩:∃O:List (S36),O=(ab++[(⟨(rd_T52 l0 i).f1.f0,(rd_T52 l0 i).f1.f1,(rd_T52 l0 i).f1.f2,(rd_T52 l0 i).f1.f3⟩:S36)]):=⟨_,rfl⟩
 replace H:(spec_l15Reached.l1 kj23 l0 y201 y203 z (wrap64 (Q+1)))=some r:=by first|(rw[hy203];with_reducible exact H)|(have u:=(Option.bind_some _ _).symm.trans H;rw[hy203];with_reducible exact u)|(have u:=(Option.bind_some _ _).symm.trans H;with_reducible exact u)|with_reducible exact H|(rw[hy203];exact H)|exact H
 have cE:=zM hy203
 clear hy203
 have H':=zM H
 clear H
 have bF:0≤(i:Int):=zzA
 have bG:(i:Int)<((A.length:Int):Int):=zzA
 obtain⟨K,T,b4,b5,cF,dr,b6⟩:=Kd.R_form l.out (by omega)
 (first|cases b4|(injection b4 with bi cG cH;(first|subst bi|(injection bi with bi;subst bi));subst cH;clear cG))
 have cI:=zM b5
 have ds:=zM b6
 clear b5 cF b6
 obtain⟨dt,du⟩:=Kd.R_celln false l.out (i:Int) bF bG
 replace bF:=eq_true bF
 replace bG:=eq_true bG
 have bH:=Kd.R_putg l.out (i:Int) true
 go_wp2_with (first|((with_reducible refine gate_store (t:=4) (p:=50) rfl ?_);refine store_event (t:=4) (p:=50) (v:=?vo_w37) (w1:=(wc.setCell ⟨K,(i:Int).toNat,none⟩ (.bool true))) ?hg ?ho ?hn ?hr ?_;(case ho=>rfl);(case hg=>rfl);(case hn=>rfl);(case hr=>first|(go_simp;done)|(go_simp;rfl));intro bI hw;have hg:wc.grownBy bI (some K):=(by rw[hw];exact bH.2);have b7:Kd.R Kd.bool 4 bI w.heap.size (fun a=>(w.heap.size≤a)) (.slice (some ⟨K,0,none⟩) A.length T) y201:=(by rw[hw,cC.out];exact bH.1);clear bH;have B:=zM (Kd.V_afterv (v:=(.slice (some ⟨K,0,none⟩) A.length T)) (v1:=(.slice (some ⟨K,0,none⟩) A.length T)) (ok:=(fun a=>((P0_ a∨P1_3_ a)∨w.heap.size≤a)∧some a≠(u6:Value).ownBlock∧some a≠(.slice (some X) z.length W:Value).ownBlock∧a≠c)) (by(with_reducible repeat(first|apply Kd.V_alloc|apply Kd.V_drewN|apply Kd.V_drew));exact Kd.V_mono m.out (fun _ hk=>⟨⟨hk.1,⟨hk.2.2.1,⟨hk.2.2.2.1,hk.2.2.2.2⟩⟩⟩,hk.2.1⟩)) hg (.inl rfl));have C:=zM (b7);have D:=zM (Kq.N_afterv (v:=(.slice (some ⟨K,0,none⟩) A.length T)) (v1:=(.slice (some ⟨K,0,none⟩) A.length T)) (ok:=(fun a=>((P0_ a∨P1_3_ a)∨w.heap.size≤a)∧some a≠(.slice (some X) z.length W:Value).ownBlock∧a≠c)) (by(with_reducible repeat(first|apply Kq.N_alloc|apply Kq.N_drewN|apply Kq.N_drew));exact Kq.N_mono y.out (fun _ hk=>⟨⟨hk.1,⟨hk.2.2.1,hk.2.2.2⟩⟩,hk.2.1⟩)) hg (.inl rfl));have E:=zM (Kd.R_over' (v:=(.slice (some ⟨K,0,none⟩) A.length T)) (sE S.out) (Kd.R_typed l.out) (by decide) hg);have F:=zM (Kd.V_afterv (v:=(.slice (some ⟨K,0,none⟩) A.length T)) (v1:=(.slice (some ⟨K,0,none⟩) A.length T)) (ok:=(fun a=>((P0_ a∨P1_3_ a)∨w.heap.size≤a)∧some a≠(u6:Value).ownBlock∧some a≠(.slice (some X) z.length W:Value).ownBlock∧a≠c)) (by(with_reducible repeat(first|apply Kd.V_alloc|apply Kd.V_drewN|apply Kd.V_drew));exact Kd.V_mono s.out (fun _ hk=>⟨⟨hk.1,⟨hk.2.2.1,⟨hk.2.2.2.1,hk.2.2.2.2⟩⟩⟩,hk.2.1⟩)) hg (.inl rfl));have I:=zM (blk_grown (g:=c) (o:= .cells #[.int .i64 a1_0,.int .i64 a1_1,.string a1_2,.slice A1_3 l1_3.length c1_3] 36 (0,0)) (sT j.out) hg (Kd.R_ne l.out j.out (by decide)));have U:=zM ((by rw[hw];exact below_set (HB.out) cI.out:Below w.heap.size w bI));clear m;clear l;clear y;clear S;clear s;clear j;clear HB;have m:=B;have l:=C;have y:=D;have S:=E;have s:=F;have j:=I;have HB:=U;clear B C D E F I U;clear hg hw b7;have bj:0≤(i:Int):=zzA;have bk:i<(l0.length:Int):=zzA;obtain⟨dv,cJ,cK,cL,dw,dx,dy,dz,cM,b8,b9⟩:=at_T52 (Kd.V_reads' m.out).2.2 i bj bk;cases cL;obtain⟨dA,cN,cO,ca⟩:=Kd.V_get m.out z52 i bj (by first|exact bk|exact zzA|(have e_:=(Kd.V_reads' m.out).1;omega));obtain⟨dB,dC,rfl,bJ,bK⟩:=k52_openF cO;have bl:=ca 4 _ rfl;rw[add_field _ _ 4 (by omega)]at bl;replace bl:=zI (bl.symm.trans cM);injection bl with ah aK ai;rw[ah]at bK;rw[ai]at bJ;have aU:=zM (show Kd.V k36 36 _ w.heap.size _ _ ((rd_T52 l0 i).f1.f3) from Kd.V_mk bJ bK);clear ah aK ai bK bJ;clear ca cN;have dD:=zM b9;have dE:=zM b8;clear b9 b8;replace bj:=eq_true bj;replace bk:=eq_true bk)|((with_reducible refine gate_builtin (b:= .append) (xs:= #[.tmp 51,.tmp 57]) rfl ?_);at_builtin;refine Kq.N_append k36 (w0:=w) w.heap.size rfl (.tmp 51) (.tmp 57) 34 36 (.agg #[(.int .i64 0),(.int .i64 0),(.string ⟨#[]⟩),(.slice none 0 0)]) 56 rfl Try.underlying34 info36 rfl (by decide) (by omega) u6 ab (⟨(rd_T52 l0 i).f1.f0,(rd_T52 l0 i).f1.f1,(rd_T52 l0 i).f1.f2,(rd_T52 l0 i).f1.f3⟩:S36) [.int .i64 ((rd_T52 l0 i).f1.f0),.int .i64 ((rd_T52 l0 i).f1.f1),.string ((rd_T52 l0 i).f1.f2),.slice cJ ((rd_T52 l0 i).f1.f3).length cK] (fun a=>((P0_ a∨P1_3_ a)∨w.heap.size≤a)∧some a≠(.slice (some ⟨K,0,none⟩) A.length T:Value).ownBlock∧some a≠(.slice (some X) z.length W:Value).ownBlock∧a≠c) (fun a=>((fun a=>((P0_ a∨P1_3_ a)∨w.heap.size≤a)∧some a≠(.slice (some ⟨K,0,none⟩) A.length T:Value).ownBlock∧some a≠(.slice (some X) z.length W:Value).ownBlock∧a≠c)) a∧some a≠(u6:Value).ownBlock) rfl rfl ?aP (fun _ hk=>hk) ?aF ?aO ?aB ?aS ?aL ?_;(case aP=>exact(k36_mkF _ _ (⟨(rd_T52 l0 i).f1.f0,(rd_T52 l0 i).f1.f1,(rd_T52 l0 i).f1.f2,(rd_T52 l0 i).f1.f3⟩:S36) (Kd.V_reads' (Kd.V_mono (ok':=(fun a=>((fun a=>((P0_ a∨P1_3_ a)∨w.heap.size≤a)∧some a≠(.slice (some ⟨K,0,none⟩) A.length T:Value).ownBlock∧some a≠(.slice (some X) z.length W:Value).ownBlock∧a≠c)) a∧some a≠(u6:Value).ownBlock)) (aU.out) (fun a hk=>⟨⟨hk.1.1,⟨hk.2,⟨hk.1.2.2.1,hk.1.2.2.2⟩⟩⟩,hk.1.2.1⟩))).2.1 (Kd.V_F (Kd.V_mono (ok':=(fun a=>((fun a=>((P0_ a∨P1_3_ a)∨w.heap.size≤a)∧some a≠(.slice (some ⟨K,0,none⟩) A.length T:Value).ownBlock∧some a≠(.slice (some X) z.length W:Value).ownBlock∧a≠c)) a∧some a≠(u6:Value).ownBlock)) (aU.out) (fun a hk=>⟨⟨hk.1.1,⟨hk.2,⟨hk.1.2.2.1,hk.1.2.2.2⟩⟩⟩,hk.1.2.1⟩)))));(case aB=>exact zzR);(case aF=>exact(fun a hk=>⟨(.inr (Nat.le_trans (below_size zzR) hk)),Kd.fresh' (Kd.R_lt (sE l.out)) a hk,Kd.fresh' (Kd.R_lt (sE S.out)) a hk,Kd.freshB (g:=c) (o:= .cells #[.int .i64 a1_0,.int .i64 a1_1,.string a1_2,.slice A1_3 l1_3.length c1_3] 36 (0,0)) (sT j.out) a hk⟩));(case aO=>exact(by(with_reducible repeat(first|apply Kq.N_alloc|apply Kq.N_drewN|apply Kq.N_drew));exact Kq.N_mono y.out (fun _ hk=>⟨hk.1.1,⟨hk.2,⟨hk.1.2.1,hk.1.2.2⟩⟩⟩)));(case aS=>exact(below_size zzR));(case aL=>have:=cD.out;omega);intro dF dG ho hb hg hat;rw[←cE.out]at ho;have B:=zM (Kd.V_afterv (ok:=(fun a=>((P0_ a∨P1_3_ a)∨w.heap.size≤a)∧some a≠(.slice (some ⟨K,0,none⟩) A.length T:Value).ownBlock∧some a≠(.slice (some X) z.length W:Value).ownBlock∧a≠c)) (by(with_reducible repeat(first|apply Kd.V_alloc|apply Kd.V_drewN|apply Kd.V_drew));exact Kd.V_mono m.out (fun _ hk=>⟨⟨hk.1.1,⟨hk.2,⟨hk.1.2.2.1,hk.1.2.2.2⟩⟩⟩,hk.1.2.1⟩)) hg hat);have C:=zM (Kd.R_over' (sE l.out) (Kq.N_typed (by(with_reducible repeat(first|apply Kq.N_alloc|apply Kq.N_drewN|apply Kq.N_drew));exact y.out)) (by decide) hg);have D:=zM (Kd.R_over' (sE S.out) (Kq.N_typed (by(with_reducible repeat(first|apply Kq.N_alloc|apply Kq.N_drewN|apply Kq.N_drew));exact y.out)) (by decide) hg);have E:=zM (Kd.V_afterv (ok:=(fun a=>((P0_ a∨P1_3_ a)∨w.heap.size≤a)∧some a≠(.slice (some ⟨K,0,none⟩) A.length T:Value).ownBlock∧some a≠(.slice (some X) z.length W:Value).ownBlock∧a≠c)) (by(with_reducible repeat(first|apply Kd.V_alloc|apply Kd.V_drewN|apply Kd.V_drew));exact Kd.V_mono s.out (fun _ hk=>⟨⟨hk.1.1,⟨hk.2,⟨hk.1.2.2.1,hk.1.2.2.2⟩⟩⟩,hk.1.2.1⟩)) hg hat);have F:=zM (blk_grown (g:=c) (o:= .cells #[.int .i64 a1_0,.int .i64 a1_1,.string a1_2,.slice A1_3 l1_3.length c1_3] 36 (0,0)) (sT j.out) hg (Kq.N_away y.out (fun _ hk=>hk.1.2.2)));have I:=zM (Kd.V_afterv (ok:=(fun a=>((P0_ a∨P1_3_ a)∨w.heap.size≤a)∧some a≠(.slice (some ⟨K,0,none⟩) A.length T:Value).ownBlock∧some a≠(.slice (some X) z.length W:Value).ownBlock∧a≠c)) (by(with_reducible repeat(first|apply Kd.V_alloc|apply Kd.V_drewN|apply Kd.V_drew));exact Kd.V_mono aU.out (fun _ hk=>⟨⟨hk.1.1,⟨hk.2,⟨hk.1.2.2.1,hk.1.2.2.2⟩⟩⟩,hk.1.2.1⟩)) hg hat);have U:=zM (hb);have aN:=zM (ho);clear m;clear l;clear S;clear s;clear j;clear aU;clear HB;clear y;have m:=B;have l:=C;have S:=D;have s:=E;have j:=F;have aU:=I;have HB:=U;have cP:=aN;clear B C D E F I U aN;clear ho hb hg hat))
 go_roundg kj23
 case measure=>have:=aa.out;have:=Y.out;have:=bc.out;omega
 case rel=>exact⟨(y201),(y203),(wrap64 (Q+1)),sr,H',⟨by have:=aa.out;have:=Y.out;have:=bc.out;omega⟩,⟨by(with_reducible repeat(first|apply Kd.V_alloc|apply Kd.V_drewN|apply Kd.V_drew));exact Kd.V_mono m.out (fun _ hk=>⟨hk.1.1,⟨hk.1.2.1,⟨hk.2,⟨hk.1.2.2.1,hk.1.2.2.2⟩⟩⟩⟩)⟩,⟨by exact sE l.out⟩,⟨by(with_reducible repeat(first|apply Kq.N_alloc|apply Kq.N_drewN|apply Kq.N_drew));exact cP.out⟩,⟨by exact sE S.out⟩,⟨by(with_reducible repeat(first|apply Kd.V_alloc|apply Kd.V_drewN|apply Kd.V_drew));exact Kd.V_mono s.out (fun _ hk=>⟨hk.1.1,⟨hk.1.2.1,⟨hk.2,⟨hk.1.2.2.1,hk.1.2.2.2⟩⟩⟩⟩)⟩,⟨by exact sT j.out⟩,⟨sb⟩⟩)
 rw[if_neg bh]at H
 exact absurd H (by simp))
 rw[if_neg bg]at H
 exact absurd H (by simp))
 rw[if_neg bf]at H
 exact absurd H (by simp))
 rw[if_neg be]at H
 exact absurd H (by simp))
 replace bd:=zB bd
 subst bd
 rewrite[if_neg zQ]at H
 have H':=zM H
 clear H
 go_wp2
 go_roundg kj23
 case measure=>have:=aa.out;have:=Y.out;have:=bc.out;omega
 case rel=>exact⟨(A),(ab),(wrap64 (Q+1)),sr,H',⟨by have:=aa.out;have:=Y.out;have:=bc.out;omega⟩,⟨by(with_reducible repeat(first|apply Kd.V_alloc|apply Kd.V_drewN|apply Kd.V_drew));exact m.out⟩,⟨by exact sE l.out⟩,⟨by(with_reducible repeat(first|apply Kq.N_alloc|apply Kq.N_drewN|apply Kq.N_drew));exact y.out⟩,⟨by exact sE S.out⟩,⟨by(with_reducible repeat(first|apply Kd.V_alloc|apply Kd.V_drewN|apply Kd.V_drew));exact s.out⟩,⟨by exact sT j.out⟩,⟨sb⟩⟩)))
 rw[if_neg aT]at H
 exact absurd H (by simp))
 rw[if_neg av]at H
 have c21b0:=zF av
 clear av
 have H':=zM H
 clear H
 obtain⟨dH,dI,cQ⟩:=Kd.R_slice S.out
 subst cQ
 go_wp2
 go_roundg k2
 case measure=>have:=aa.out;have:=Y.out;omega
 case rel=>exact⟨(A),(ab),H',⟨by have:=aa.out;have:=Y.out;omega⟩,⟨by(with_reducible repeat(first|apply Kd.V_alloc|apply Kd.V_drewN|apply Kd.V_drew));exact Kd.V_mono m.out (fun _ hk=>⟨hk.1,⟨hk.2.1,⟨hk.2.2.1,hk.2.2.2.2⟩⟩⟩)⟩,⟨by exact sE l.out⟩,⟨by(with_reducible repeat(first|apply Kq.N_alloc|apply Kq.N_drewN|apply Kq.N_drew));exact Kq.N_mono y.out (fun _ hk=>⟨hk.1,⟨hk.2.1,hk.2.2.2⟩⟩)⟩,⟨by(with_reducible repeat(first|apply Kd.V_alloc|apply Kd.V_drewN|apply Kd.V_drew));exact Kd.V_mono s.out (fun _ hk=>⟨hk.1,⟨hk.2.1,⟨hk.2.2.1,hk.2.2.2.2⟩⟩⟩)⟩,⟨by exact sT j.out⟩,⟨sb⟩⟩)))
 rw[if_neg ap]at H
 exact absurd H (by simp))
 rw[if_neg az]at H
 exact absurd H (by simp))
 rw[if_neg af]at H
 have c11b0:decide (0<(n.length:Int))=false:=zF af
 have c11b1:decide (0<n.length)=false:=zF (by omega)
 clear af
 obtain⟨y206,hy206⟩:∃O:List (S52),O=(([]:List (S52))):=⟨_,rfl⟩
 replace H:(spec_l15Reached.l2 k1 l0 G y206 0)=some r:=by first|(rw[hy206];with_reducible exact H)|(have u:=(Option.bind_some _ _).symm.trans H;rw[hy206];with_reducible exact u)|(have u:=(Option.bind_some _ _).symm.trans H;with_reducible exact u)|with_reducible exact H|(rw[hy206];exact H)|exact H
 have cb:=zM hy206
 clear hy206
 have H':=zM H
 clear H
 obtain⟨bL,bM,cR⟩:=Kq.N_slice y.out
 subst cR
 go_wp2_with (first|((with_reducible refine gate_dst (N:=59) rfl ?_);refine Kq.N_lit k52 _ 52 ?hg (N':=59) ?hd (xs:=([]:List (S52))) (inner:=[]) (ok:=(fun a=>((P0_ a∨P1_3_ a)∨w.heap.size≤a)∧some a≠(x:Value).ownBlock∧some a≠(.slice bL n.length bM:Value).ownBlock∧a≠c)) (okp:=(fun a=>((P0_ a∨P1_3_ a)∨w.heap.size≤a)∧some a≠(x:Value).ownBlock∧some a≠(.slice bL n.length bM:Value).ownBlock∧a≠c)) ?hr ?hp (fun _ hk=>hk) ((show ∀a,wr.heap.size≤a→(fun a=>((P0_ a∨P1_3_ a)∨w.heap.size≤a)∧some a≠(x:Value).ownBlock∧some a≠(.slice bL n.length bM:Value).ownBlock∧a≠c) a from fun a hk=>⟨(.inr (Nat.le_trans (below_size zzR) hk)),Kd.fresh' (Kd.R_lt (sE l.out)) a hk,Kd.fresh' (Kq.N_lt (by(with_reducible repeat(first|apply Kq.N_alloc|apply Kq.N_drewN|apply Kq.N_drew));exact y.out)) a hk,Kd.freshB (g:=c) (o:= .cells #[.int .i64 a1_0,.int .i64 a1_1,.string a1_2,.slice A1_3 l1_3.length c1_3] 36 (0,0)) (sT j.out) a hk⟩) _ (Nat.le_refl _)) (Below.refl _ _) (Nat.le_refl _) (by simp) ?_;(case hd=>rfl);(case hg=>rfl);(case hr=>first|(go_simp;done)|(go_simp;rfl));(case hp=>exact(Reps.none _ _));intro dJ dK aj hb am an;clear am an;(first|rw[←cb.out]at aj|(simp only[Int.reduceToNat]at aj;rw[←cb.out]at aj));have B:=zM (Kd.V_elder' (by(with_reducible repeat(first|apply Kd.V_alloc|apply Kd.V_drewN|apply Kd.V_drew));exact m.out) (Kq.N_base aj) hb);have C:=zM (Kd.R_below (sE l.out) hb);have D:=zM (Kq.N_elder' (by(with_reducible repeat(first|apply Kq.N_alloc|apply Kq.N_drewN|apply Kq.N_drew));exact y.out) (Kq.N_base aj) hb);have E:=zM (Kd.V_elder' (by(with_reducible repeat(first|apply Kd.V_alloc|apply Kd.V_drewN|apply Kd.V_drew));exact s.out) (Kq.N_base aj) hb);have F:=zM (Kq.N_lower aj (below_size zzR));have I:=sK j hb;have U:=sB HB hb;clear m;clear l;clear y;clear s;clear j;clear HB;have m:=B;have l:=C;have y:=D;have s:=E;have cS:=F;have j:=I;have HB:=U;clear B C D E F I U;clear hb aj))
 go_loopg [10,11] k1 (fun kq bN cT w'=>∃(ae:List (S52)) (d:Int),cT= .int .i64 d∧Aside0 (spec_l15Reached.l2 kq l0 G ae d=some r)∧Aside0 (kq≤k1)∧Aside0 (Kd.V k52 52 w' w.heap.size (fun a=>((P0_ a∨P1_3_ a)∨w.heap.size≤a)∧some a≠(x:Value).ownBlock∧some a≠(bN:Value).ownBlock∧a≠c) (.slice A0 l0.length c0) l0)∧Aside0 (Kd.R Kd.bool 4 w' w.heap.size (fun a=>(w.heap.size≤a)) x G)∧Aside0 (Kq.N k52 52 w' w.heap.size (fun a=>((P0_ a∨P1_3_ a)∨w.heap.size≤a)∧some a≠(x:Value).ownBlock∧a≠c) bN ae)∧Aside0 (Kd.V k36 36 w' w.heap.size (fun a=>((P0_ a∨P1_3_ a)∨w.heap.size≤a)∧some a≠(x:Value).ownBlock∧some a≠(bN:Value).ownBlock∧a≠c) (.slice A1_3 l1_3.length c1_3) l1_3)∧Aside0 (w'.heap[c]?=some (.cells #[.int .i64 a1_0,.int .i64 a1_1,.string a1_2,(.slice A1_3 l1_3.length c1_3)] 36 (0,0)))∧Aside0 (Below w.heap.size w w'))
 case atStart=>exact⟨(y206),(0),sr,H',⟨Nat.le_refl _⟩,⟨by(with_reducible repeat(first|apply Kd.V_alloc|apply Kd.V_drewN|apply Kd.V_drew));exact Kd.V_mono m.out (fun _ hk=>⟨hk.1.1,⟨hk.1.2.1,⟨hk.2,hk.1.2.2.2⟩⟩⟩)⟩,⟨by exact sE l.out⟩,⟨by(with_reducible repeat(first|apply Kq.N_alloc|apply Kq.N_drewN|apply Kq.N_drew));exact Kq.N_mono cS.out (fun _ hk=>⟨hk.1,⟨hk.2.1,hk.2.2.2⟩⟩)⟩,⟨by(with_reducible repeat(first|apply Kd.V_alloc|apply Kd.V_drewN|apply Kd.V_drew));exact Kd.V_mono s.out (fun _ hk=>⟨hk.1.1,⟨hk.1.2.1,⟨hk.2,hk.1.2.2.2⟩⟩⟩)⟩,⟨by exact sT j.out⟩,⟨sb⟩⟩
 case round=>(
 clear H'
 try clear c3
 try clear c3b0
 try clear c3b1
 try clear c4
 try clear c4b0
 try clear c4b1
 try clear af
 try clear c11b0
 try clear c11b1
 try clear aW
 try clear aX
 try clear aY
 try clear aZ
 try clear a0
 try clear a1
 try clear a2
 try clear a3
 obtain⟨ae,d,rfl,HA,Y,m,l,aH,s,j,HB⟩:=hrel
 cases gk with
 |zero=>exact absurd HA.out (by simp[spec_l15Reached.l2])
 |succ k2=>(
 have H:=HA.out
 clear HA
 simp only[spec_l15Reached.l2]at H
 by_cases aI:d<(l0.length:Int)
 ·(
 rw[if_pos aI]at H
 have c43b0:=zT aI
 clear aI
 by_cases bm:0≤d
 ·(
 rw[if_pos bm]at H
 have c44b0:=zT bm
 clear bm
 by_cases bn:d<(G.length:Int)
 ·(
 rw[if_pos bn]at H
 have c45b0:=zT bn
 clear bn
 obtain⟨bq46,hbq46⟩:∃b_:Bool,b_=(rdOf false G d):=⟨_,rfl⟩
 replace H:(if bq46=true then(if ae.length<1954687338268 then(spec_l15Reached.l2 k2 l0 G (ae++[(⟨(rd_T52 l0 d).f0,(⟨(rd_T52 l0 d).f1.f0,(rd_T52 l0 d).f1.f1,(rd_T52 l0 d).f1.f2,(rd_T52 l0 d).f1.f3⟩:S36)⟩:S52)]) (wrap64 (d+1)))else(none))else(spec_l15Reached.l2 k2 l0 G ae (wrap64 (d+1))))=some r:=by rw[←hbq46]at H;exact H
 have cc:=zM hbq46
 clear hbq46
 by_cases bo:bq46=true
 ·(
 subst bo
 rewrite[if_pos rfl]at H
 by_cases bp:ae.length<1954687338268
 ·(
 rw[if_pos bp]at H
 have cU:=zM bp
 clear bp
 obtain⟨y211,hy211⟩:∃O:List (S52),O=(ae++[(⟨(rd_T52 l0 d).f0,(⟨(rd_T52 l0 d).f1.f0,(rd_T52 l0 d).f1.f1,(rd_T52 l0 d).f1.f2,(rd_T52 l0 d).f1.f3⟩:S36)⟩:S52)]):=⟨_,rfl⟩
 replace H:(spec_l15Reached.l2 k2 l0 G y211 (wrap64 (d+1)))=some r:=by first|(rw[hy211];with_reducible exact H)|(have u:=(Option.bind_some _ _).symm.trans H;rw[hy211];with_reducible exact u)|(have u:=(Option.bind_some _ _).symm.trans H;with_reducible exact u)|with_reducible exact H|(rw[hy211];exact H)|exact H
 have cV:=zM hy211
 clear hy211
 have H':=zM H
 clear H
 obtain⟨dL,aw,cW⟩:=Kd.R_slice l.out
 subst cW
 have ax:0≤(d:Int):=zzA
 have ay:d<(G.length:Int):=zzA
 obtain⟨ak,bO,bP⟩:=Kd.at_bool (Kd.R_reads' l.out).2.2 d ax ay
 (try rw[←cc.out]at bP)
 cases bO
 replace ax:=eq_true ax
 replace ay:=eq_true ay
 have bq:0≤(d:Int):=zzA
 have br:d<(l0.length:Int):=zzA
 obtain⟨dM,cX,cY,cZ,dN,dO,dP,dQ,c2,cd,ce⟩:=at_T52 (Kd.V_reads' m.out).2.2 d bq br
 cases cZ
 obtain⟨dR,c5,c6,cf⟩:=Kd.V_get m.out z52 d bq (by first|exact br|exact zzA|(have e_:=(Kd.V_reads' m.out).1;omega))
 obtain⟨dS,dT,rfl,bQ,bR⟩:=k52_openF c6
 have bs:=cf 4 _ rfl
 rw[add_field _ _ 4 (by omega)]at bs
 replace bs:=zI (bs.symm.trans c2)
 injection bs with ah aK ai
 rw[ah]at bR
 rw[ai]at bQ
 have aV:=zM (show Kd.V k36 36 _ w.heap.size _ _ ((rd_T52 l0 d).f1.f3) from Kd.V_mk bQ bR)
 clear ah aK ai bR bQ
 clear cf c5
 have dU:=zM ce
 have dV:=zM cd
 clear ce cd
 replace bq:=eq_true bq
 replace br:=eq_true br
 go_wp2_with (first|((with_reducible refine gate_builtin (b:= .append) (xs:= #[.tmp 70,.tmp 75]) rfl ?_);at_builtin;refine Kq.N_append k52 (w0:=w) w.heap.size rfl (.tmp 70) (.tmp 75) 25 52 (.agg #[(.string ⟨#[]⟩),(.int .i64 0),(.int .i64 0),(.string ⟨#[]⟩),(.slice none 0 0)]) 72 rfl Try.underlying25 info52 rfl (by decide) (by omega) u10 ae (⟨(rd_T52 l0 d).f0,(⟨(rd_T52 l0 d).f1.f0,(rd_T52 l0 d).f1.f1,(rd_T52 l0 d).f1.f2,(rd_T52 l0 d).f1.f3⟩:S36)⟩:S52) [.string ((rd_T52 l0 d).f0),.int .i64 ((rd_T52 l0 d).f1.f0),.int .i64 ((rd_T52 l0 d).f1.f1),.string ((rd_T52 l0 d).f1.f2),.slice cX ((rd_T52 l0 d).f1.f3).length cY] (fun a=>((P0_ a∨P1_3_ a)∨w.heap.size≤a)∧some a≠(.slice (some ak) G.length aw:Value).ownBlock∧a≠c) (fun a=>((fun a=>((P0_ a∨P1_3_ a)∨w.heap.size≤a)∧some a≠(.slice (some ak) G.length aw:Value).ownBlock∧a≠c)) a∧some a≠(u10:Value).ownBlock) rfl rfl ?aP (fun _ hk=>hk) ?aF ?aO ?aB ?aS ?aL ?_;(case aP=>exact(k52_mkF _ _ (⟨(rd_T52 l0 d).f0,(⟨(rd_T52 l0 d).f1.f0,(rd_T52 l0 d).f1.f1,(rd_T52 l0 d).f1.f2,(rd_T52 l0 d).f1.f3⟩:S36)⟩:S52) (Kd.V_reads' (Kd.V_mono (ok':=(fun a=>((fun a=>((P0_ a∨P1_3_ a)∨w.heap.size≤a)∧some a≠(.slice (some ak) G.length aw:Value).ownBlock∧a≠c)) a∧some a≠(u10:Value).ownBlock)) (aV.out) (fun a hk=>⟨⟨hk.1,⟨hk.2.1,hk.2.2.2⟩⟩,hk.2.2.1⟩))).2.1 (Kd.V_F (Kd.V_mono (ok':=(fun a=>((fun a=>((P0_ a∨P1_3_ a)∨w.heap.size≤a)∧some a≠(.slice (some ak) G.length aw:Value).ownBlock∧a≠c)) a∧some a≠(u10:Value).ownBlock)) (aV.out) (fun a hk=>⟨⟨hk.1,⟨hk.2.1,hk.2.2.2⟩⟩,hk.2.2.1⟩)))));(case aB=>exact zzR);(case aF=>exact(fun a hk=>⟨(.inr (Nat.le_trans (below_size zzR) hk)),Kd.fresh' (Kd.R_lt (sE l.out)) a hk,Kd.freshB (g:=c) (o:= .cells #[.int .i64 a1_0,.int .i64 a1_1,.string a1_2,.slice A1_3 l1_3.length c1_3] 36 (0,0)) (sT j.out) a hk⟩));(case aO=>exact(by(with_reducible repeat(first|apply Kq.N_alloc|apply Kq.N_drewN|apply Kq.N_drew));exact aH.out));(case aS=>exact(below_size zzR));(case aL=>have:=cU.out;omega);intro dW dX ho hb hg hat;rw[←cV.out]at ho;have B:=zM (Kd.V_afterv (ok:=(fun a=>((P0_ a∨P1_3_ a)∨w.heap.size≤a)∧some a≠(.slice (some ak) G.length aw:Value).ownBlock∧a≠c)) (by(with_reducible repeat(first|apply Kd.V_alloc|apply Kd.V_drewN|apply Kd.V_drew));exact Kd.V_mono m.out (fun _ hk=>⟨⟨hk.1,⟨hk.2.1,hk.2.2.2⟩⟩,hk.2.2.1⟩)) hg hat);have C:=zM (Kd.R_over' (sE l.out) (Kq.N_typed (by(with_reducible repeat(first|apply Kq.N_alloc|apply Kq.N_drewN|apply Kq.N_drew));exact aH.out)) (by decide) hg);have D:=zM (Kd.V_afterv (ok:=(fun a=>((P0_ a∨P1_3_ a)∨w.heap.size≤a)∧some a≠(.slice (some ak) G.length aw:Value).ownBlock∧a≠c)) (by(with_reducible repeat(first|apply Kd.V_alloc|apply Kd.V_drewN|apply Kd.V_drew));exact Kd.V_mono s.out (fun _ hk=>⟨⟨hk.1,⟨hk.2.1,hk.2.2.2⟩⟩,hk.2.2.1⟩)) hg hat);have E:=zM (blk_grown (g:=c) (o:= .cells #[.int .i64 a1_0,.int .i64 a1_1,.string a1_2,.slice A1_3 l1_3.length c1_3] 36 (0,0)) (sT j.out) hg (Kq.N_ne aH.out j.out (by decide)));have F:=zM (Kd.V_afterv (ok:=(fun a=>((P0_ a∨P1_3_ a)∨w.heap.size≤a)∧some a≠(.slice (some ak) G.length aw:Value).ownBlock∧a≠c)) (by(with_reducible repeat(first|apply Kd.V_alloc|apply Kd.V_drewN|apply Kd.V_drew));exact Kd.V_mono aV.out (fun _ hk=>⟨⟨hk.1,⟨hk.2.1,hk.2.2.2⟩⟩,hk.2.2.1⟩)) hg hat);have I:=zM (hb);have U:=zM (ho);clear m;clear l;clear s;clear j;clear aV;clear HB;clear aH;have m:=B;have l:=C;have s:=D;have j:=E;have aV:=F;have HB:=I;have c7:=U;clear B C D E F I U;clear ho hb hg hat))
 go_roundg k2
 case measure=>have:=aa.out;have:=Y.out;omega
 case rel=>exact⟨(y211),(wrap64 (d+1)),sr,H',⟨by have:=aa.out;have:=Y.out;omega⟩,⟨by(with_reducible repeat(first|apply Kd.V_alloc|apply Kd.V_drewN|apply Kd.V_drew));exact Kd.V_mono m.out (fun _ hk=>⟨hk.1.1,⟨hk.1.2.1,⟨hk.2,hk.1.2.2⟩⟩⟩)⟩,⟨by exact sE l.out⟩,⟨by(with_reducible repeat(first|apply Kq.N_alloc|apply Kq.N_drewN|apply Kq.N_drew));exact c7.out⟩,⟨by(with_reducible repeat(first|apply Kd.V_alloc|apply Kd.V_drewN|apply Kd.V_drew));exact Kd.V_mono s.out (fun _ hk=>⟨hk.1.1,⟨hk.1.2.1,⟨hk.2,hk.1.2.2⟩⟩⟩)⟩,⟨by exact sT j.out⟩,⟨sb⟩⟩)
 rw[if_neg bp]at H
 exact absurd H (by simp))
 replace bo:=zB bo
 subst bo
 rewrite[if_neg zQ]at H
 have H':=zM H
 clear H
 obtain⟨dY,dZ,c8⟩:=Kd.R_slice l.out
 subst c8
 have ax:0≤(d:Int):=zzA
 have ay:d<(G.length:Int):=zzA
 obtain⟨ak,bO,bP⟩:=Kd.at_bool (Kd.R_reads' l.out).2.2 d ax ay
 (try rw[←cc.out]at bP)
 cases bO
 replace ax:=eq_true ax
 replace ay:=eq_true ay
 go_wp2
 go_roundg k2
 case measure=>have:=aa.out;have:=Y.out;omega
 case rel=>exact⟨(ae),(wrap64 (d+1)),sr,H',⟨by have:=aa.out;have:=Y.out;omega⟩,⟨by(with_reducible repeat(first|apply Kd.V_alloc|apply Kd.V_drewN|apply Kd.V_drew));exact m.out⟩,⟨by exact sE l.out⟩,⟨by(with_reducible repeat(first|apply Kq.N_alloc|apply Kq.N_drewN|apply Kq.N_drew));exact aH.out⟩,⟨by(with_reducible repeat(first|apply Kd.V_alloc|apply Kd.V_drewN|apply Kd.V_drew));exact s.out⟩,⟨by exact sT j.out⟩,⟨sb⟩⟩)
 rw[if_neg bn]at H
 exact absurd H (by simp))
 rw[if_neg bm]at H
 exact absurd H (by simp))
 rw[if_neg aI]at H
 have c43b0:=zF aI
 clear aI
 obtain rfl:=zI H
 go_wp2
 go_ret
 exact⟨_,sq,Kq.N_V (by(with_reducible repeat(first|apply Kq.N_alloc|apply Kq.N_drewN|apply Kq.N_drew));exact Kq.N_mono aH.out (fun _ hk=>hk.1)),sb⟩)))))
 rw[if_neg c4]at H
 exact absurd H (by simp))
 rw[if_neg c3]at H
 exact absurd H (by simp)
end Go.Proofs.Ytdihlgkcpooadaa.PFnExactIsPure
