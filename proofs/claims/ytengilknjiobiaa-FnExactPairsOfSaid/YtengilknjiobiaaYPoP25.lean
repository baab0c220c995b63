/- Printed functions: impl_PairsOf. -/
import Derived.Test.YtengilknjiobiaaYPoP0
import Derived.Test.YtengilknjiobiaaYPoP14
import Derived.Test.YtengilknjiobiaaYPoP19
import Derived.Test.YtengilknjiobiaaYPoP23
import Derived.Test.YtengilknjiobiaaYPoP24
namespace Go.Proofs.Ytengilknjiobiaa.PFnExactPairsOf
open Go.RowKit Go.Proofs.YtengilknjiobiaaG Go.Proofs.YtengilknjiobiaaW.PrintWords Go.Proofs.YtengilknjiobiaaW.PrintLast Go.Proofs.YtengilknjiobiaaW.PrintMore
attribute [local go_sem] max2_int min2_int max_two min_two max_three min_three max_four min_four
set_option linter.unusedVariables false
set_option linter.unusedSimpArgs false
mutual
def impl_PairsOf.j0 : Nat → Bool → Int → List (S56) → Int → Int → ByteArray → Int → Option ((List (S29)))
 |0,_,_,_,_,_,_,_=>none
 |k+1,x19,x388000,x388001,x389000,x389001,x389002,x389003=>if x19=true then(some ([]:List (S29)))else((impl_Heap_object.f k x388000 x388001 x389000 x389001 x389002 x389003).bind fun t391=>(if 0≤t391 then(if t391<(x388001.length:Int)then(impl_PairsOf.l0 k (([]:List (S29))) ((rd_T56 x388001 t391).f5) (((rd_T56 x388001 t391).f5).length:Int) 0 ((rd_T56 x388001 t391).f0) ((rd_T56 x388001 t391).f1) ((rd_T56 x388001 t391).f2) ((rd_T56 x388001 t391).f3) ((rd_T56 x388001 t391).f4) ((rd_T56 x388001 t391).f5) ((rd_T56 x388001 t391).f6.f0) ((rd_T56 x388001 t391).f6.f1) ((rd_T56 x388001 t391).f6.f2) ((rd_T56 x388001 t391).f6.f3))else(none))else(none)))
def impl_PairsOf.l0 : Nat → List (S29) → List (S29) → Int → Int → Int → Int → ByteArray → Int → List (S29) → List (S29) → Int → Int → ByteArray → Int → Option ((List (S29)))
 |0,_,_,_,_,_,_,_,_,_,_,_,_,_,_=>none
 |k+1,x6,x29,x30,x31,x397000,x397001,x397002,x397003,x397004,x397005,x397006,x397007,x397008,x397009=>if x31<x30 then(if 0≤x31 then(if x31<(x29.length:Int)then((impl_numberOf.f (wrap64 (x397003+x31))).bind fun bt399=>(if x397001=1 then((some (([(⟨bt399.1,bt399.2.1,bt399.2.2.1,bt399.2.2.2⟩:S29),(⟨(rd_T29 x29 x31).f0,(rd_T29 x29 x31).f1,(rd_T29 x29 x31).f2,(rd_T29 x29 x31).f3⟩:S29)]:List (S29)):List (S29))).bind fun y404=>(if x6.length+y404.length<3518437208883 then(impl_PairsOf.l0 k (x6++y404) x29 x30 (wrap64 (x31+1)) x397000 x397001 x397002 x397003 x397004 x397005 x397006 x397007 x397008 x397009)else(none)))else(if x31<(x397004.length:Int)then((some (([(⟨(rd_T29 x397004 x31).f0,(rd_T29 x397004 x31).f1,(rd_T29 x397004 x31).f2,(rd_T29 x397004 x31).f3⟩:S29),(⟨(rd_T29 x29 x31).f0,(rd_T29 x29 x31).f1,(rd_T29 x29 x31).f2,(rd_T29 x29 x31).f3⟩:S29)]:List (S29)):List (S29))).bind fun y411=>(if x6.length+y411.length<3518437208883 then(impl_PairsOf.l0 k (x6++y411) x29 x30 (wrap64 (x31+1)) x397000 x397001 x397002 x397003 x397004 x397005 x397006 x397007 x397008 x397009)else(none)))else(none))))else(none))else(none))else(some x6)
end
def impl_PairsOf.f (k:Nat) (a0_0:Int) (l0_1:List (S56)) (a1_0:Int) (a1_1:Int) (a1_2:ByteArray) (a1_3:Int):Option ((List (S29))):=(impl_FitsHeap.f k a0_0 l0_1 a1_0 a1_1 a1_2 a1_3).bind fun t389=>(if t389=true then((impl_refers.f a1_0).bind fun t390=>(impl_PairsOf.j0 k (!t390) a0_0 l0_1 a1_0 a1_1 a1_2 a1_3))else(impl_PairsOf.j0 k true a0_0 l0_1 a1_0 a1_1 a1_2 a1_3))
def impl_PairsOf.T3:Bool×List (List Nat×List Nat):=(true,[([],[]),([0],[0]),([],[]),([],[]),([2,3],[2,3]),([1,4],[1,4]),([5],[5]),([],[]),([],[]),([8,6,4,0,1,2,3,4,5,6,8],[6,8]),([7,9,0,1,2,3,4,5,6,7,8,9],[7])])
def impl_PairsOf.B3:List Nat:=[0,1,0,0,12,31,63,0,0,383,1023]
theorem impl_PairsOf.tab3:rtab .any (opsOf Try.f20 3)=impl_PairsOf.T3:=by kernel_rfl
theorem impl_PairsOf.bits3:waitsOk impl_PairsOf.T3.2 impl_PairsOf.B3=true:=by kernel_rfl
set_option maxHeartbeats 8000000 in
set_option maxRecDepth 100000 in
theorem impl_PairsOf.calls (k:Nat) (a0_0:Int) (A0_1:Option Addr) (c0_1:Nat) (l0_1:List (S56)) (a1_0:Int) (a1_1:Int) (a1_2:ByteArray) (a1_3:Int) (r:List (S29)) (w:World) (hr0_1:Kd.C k56 w A0_1 l0_1.length l0_1) (hc0_1:l0_1.length≤c0_1) (h:impl_PairsOf.f k a0_0 l0_1 a1_0 a1_1 a1_2 a1_3=some r):
  Calls Try.prog 20 #[.agg #[.int .i64 a0_0,.slice A0_1 l0_1.length c0_1],.agg #[.int .i64 a1_0,.int .i64 a1_1,.string a1_2,.int .i64 a1_3]] w fun e w'=>∃cr:Value,e= .returned (cr)∧Kd.R k29 29 w' w.heap.size (fun _=>True) cr r∧Below w.heap.size w w':=by
 have ee:=Try.underlying34
 have ef:=Try.underlying29
 have eg:=Try.underlying56
 have bj:=zM hr0_1
 have br:=zM hc0_1
 clear hr0_1 hc0_1
 have HB:=zM (Below.refl w.heap.size w)
 have H:((impl_FitsHeap.f k a0_0 l0_1 a1_0 a1_1 a1_2 a1_3).bind fun cb=>(if cb=true then((impl_refers.f a1_0).bind fun bO=>(impl_PairsOf.j0 k (!bO) a0_0 l0_1 a1_0 a1_1 a1_2 a1_3))else(impl_PairsOf.j0 k true a0_0 l0_1 a1_0 a1_1 a1_2 a1_3)))=some r:=h
 clear h
 have cc:=zM H
 clear H
 go_enter Try.func20,Try.ntmps20
 go_upto_region 1 with(first|((with_reducible refine gate_dst (N:=2) rfl ?_);refine sV (N:=2) (cs:= #[.int .i64 a0_0,.slice A0_1 l0_1.length c0_1]) (t:=34) ?_;intro y hg w4 hbox hb;have q:=zM (hbox);have eh:=sG HB hg;have ak:=sG HB hg;replace HB:=sB HB hb;clear hb hbox hg)|((with_reducible refine gate_dst (N:=3) rfl ?_);refine sV (N:=3) (cs:= #[.int .i64 a1_0,.int .i64 a1_1,.string a1_2,.int .i64 a1_3]) (t:=29) ?_;intro m hg w5 hbox hb;have l:=zM (hbox);have ei:=sG HB hg;have al:=sG HB hg;replace HB:=sB HB hb;have ct:=sN q hg;have cu:=sM q hg;replace q:=sK q hb;clear hb hbox hg))
 (try simp only[zP])
 go_cut [19] (fun cJ wc=>∃(kq:Nat) (bP:Bool),cJ= .bool bP∧Aside0 (impl_PairsOf.j0 kq bP a0_0 l0_1 a1_0 a1_1 a1_2 a1_3=some r)∧Aside0 (kq≤k)∧Aside0 (wc.heap[y]?=some (.cells #[.int .i64 a0_0,(.slice A0_1 l0_1.length c0_1)] 34 (0,0)))∧Aside0 (wc.heap[m]?=some (.cells #[.int .i64 a1_0,.int .i64 a1_1,.string a1_2,.int .i64 a1_3] 29 (0,0)))∧Aside0 (Below w.heap.size w wc))
 case first=>(
 have H:=cc.out
 clear cc
 obtain⟨cb,A6,H⟩:=sO H
 by_cases c7:cb=true
 ·(
 subst c7
 rewrite[if_pos rfl]at H
 obtain⟨bO,A8,H⟩:=sO H
 have H':=zM H
 clear H
 have ej:=ct.out
 have ek:=cu.out
 obtain⟨el,em,en,eo⟩:=cells2 q.out
 obtain⟨ep,er,es,et,eu,ev,ew,ex⟩:=cells4 l.out
 go_wp2_with (first|((with_reducible refine gate_callee (f:=56) rfl ?_);refine sC (some 12) Try.func56 #[.agg #[.int .i64 a0_0,.slice A0_1 l0_1.length c0_1],.agg #[.int .i64 a1_0,.int .i64 a1_1,.string a1_2,.int .i64 a1_3]] (impl_FitsHeap.calls k a0_0 _ _ l0_1 a1_0 a1_1 a1_2 a1_3 true _ ?side1 ?side2 A6.out) ?_;(case side1=>exact sD (zC bj.out HB.out));(case side2=>exact br.out);rintro e ey ⟨rfl,hb⟩;refine⟨_,rfl,?_⟩;replace q:=sK q hb;replace l:=sK l hb;replace HB:=sB HB hb;(try clear hb);obtain⟨ez,eA,eB,eC,eD,eE,eF,eG⟩:=cells4 l.out)|(go_at_call 57;(with_reducible refine(impl_refers.calls a1_0 bO _ A8.out).mono ?_);rintro e w' ⟨rfl,⟨nd,rfl⟩⟩))
 go_meet
 case rel=>exact⟨_,(!bO),sr,H',⟨by first|omega|exact Nat.le_refl _⟩,⟨by exact sT q.out⟩,⟨by exact sT l.out⟩,⟨sb⟩⟩)
 replace c7:=zB c7
 subst c7
 rewrite[if_neg zQ]at H
 have H':=zM H
 clear H
 have eH:=ct.out
 have eI:=cu.out
 obtain⟨eJ,eK,eL,eM⟩:=cells2 q.out
 obtain⟨eN,eO,eP,eQ,eR,eS,eT,eU⟩:=cells4 l.out
 go_wp2_with (first|((with_reducible refine gate_callee (f:=56) rfl ?_);refine sC (some 12) Try.func56 #[.agg #[.int .i64 a0_0,.slice A0_1 l0_1.length c0_1],.agg #[.int .i64 a1_0,.int .i64 a1_1,.string a1_2,.int .i64 a1_3]] (impl_FitsHeap.calls k a0_0 _ _ l0_1 a1_0 a1_1 a1_2 a1_3 false _ ?side1 ?side2 A6.out) ?_;(case side1=>exact sD (zC bj.out HB.out));(case side2=>exact br.out);rintro e eV ⟨rfl,hb⟩;refine⟨_,rfl,?_⟩;replace q:=sK q hb;replace l:=sK l hb;replace HB:=sB HB hb;(try clear hb)))
 go_meet
 case rel=>exact⟨_,(true),sr,H',⟨by first|omega|exact Nat.le_refl _⟩,⟨by exact sT q.out⟩,⟨by exact sT l.out⟩,⟨sb⟩⟩)
 case rest=>(
 clear cc
 obtain⟨kq,bP,rfl,HA,bQ,q,l,HB⟩:=hcut
 cases kq with
 |zero=>exact absurd HA.out (by simp[impl_PairsOf.j0])
 |succ kj2=>(
 have H:=HA.out
 clear HA
 simp only[impl_PairsOf.j0]at H
 by_cases bR:bP=true
 ·(
 subst bR
 rewrite[if_pos rfl]at H
 obtain rfl:=zI H
 go_wp2
 go_ret
 exact⟨_,sq,by first|exact Kd.R_nil _ _ _ _ _|exact Kd.N_nil _ _ _ _ _|exact Kd.V_nil _ _ _ _ _|exact Kd.Q_nil _ _ _ _ _|exact Kd.S_nil _ _ _ _ _,sb⟩)
 replace bR:=zB bR
 subst bR
 rewrite[if_neg zQ]at H
 obtain⟨a,bS,H⟩:=sO H
 by_cases bT:0≤a
 ·(
 rw[if_pos bT]at H
 have c20b0:=zT bT
 clear bT
 by_cases bU:a<(l0_1.length:Int)
 ·(
 rw[if_pos bU]at H
 have c21b0:=zT bU
 clear bU
 obtain⟨y393,hy393⟩:∃y_:List (S29),y_=(([]:List (S29))):=⟨_,rfl⟩
 replace H:(impl_PairsOf.l0 kj2 y393 ((rd_T56 l0_1 a).f5) (((rd_T56 l0_1 a).f5).length:Int) 0 ((rd_T56 l0_1 a).f0) ((rd_T56 l0_1 a).f1) ((rd_T56 l0_1 a).f2) ((rd_T56 l0_1 a).f3) ((rd_T56 l0_1 a).f4) ((rd_T56 l0_1 a).f5) ((rd_T56 l0_1 a).f6.f0) ((rd_T56 l0_1 a).f6.f1) ((rd_T56 l0_1 a).f6.f2) ((rd_T56 l0_1 a).f6.f3))=some r:=by first|(rw[hy393];with_reducible exact H)|(have aA:=(Option.bind_some _ _).symm.trans H;rw[hy393];with_reducible exact aA)|(have aA:=(Option.bind_some _ _).symm.trans H;with_reducible exact aA)|with_reducible exact H|(rw[hy393];exact H)|exact H
 have bc:=zM hy393
 clear hy393
 have H':=zM H
 clear H
 try go_wp2
 replace q:=zM (blk_drew q.out)
 replace l:=zM (blk_drew l.out)
 replace HB:=zM (below_drew1 HB.out)
 have cd:0≤(a:Int):=zzA
 have ce:a<(l0_1.length:Int):=zzA
 obtain⟨c,ae,P,ag,Q,cK,bV,bW,bX,bY,bZ,b0,b1,b2,b3,b4,cv,cw,cx,cy⟩:=at_T56 bj.out a cd ce
 have T:=b4
 have U:=b3
 have V:=b2
 have W:=b1
 have X:=b0
 have Y:=bZ
 have Z:=bY
 have aa:=bX
 have ab:=bW
 have ac:=bV
 cases cK
 replace bV:=sX HB bV
 replace bW:=sX HB bW
 replace bX:=sX HB bX
 replace bY:=sX HB bY
 replace bZ:=sX HB bZ
 replace b0:=sX HB b0
 replace b1:=sX HB b1
 replace b2:=sX HB b2
 replace b3:=sX HB b3
 replace b4:=sX HB b4
 have cz:=zM cw
 have eW:=zM cv
 clear cw cv
 have cf:=zM cy
 have eX:=zM cx
 clear cy cx
 replace cd:=eq_true cd
 replace ce:=eq_true ce
 refine start_ (n:=11) (S:=fun w'=>w'.cell? ⟨y,0,none⟩=some (.int .i64 a0_0)∧w'.cell? ⟨y,1,none⟩=some (.slice (some c) l0_1.length c0_1)∧w'.cell? ⟨m,0,none⟩=some (.int .i64 a1_0)∧w'.cell? ⟨m,1,none⟩=some (.int .i64 a1_1)∧w'.cell? ⟨m,2,none⟩=some (.string a1_2)∧w'.cell? ⟨m,3,none⟩=some (.int .i64 a1_3)∧w'.cell? (c.add ((a).toNat*10))=some (.int .i64 ((rd_T56 l0_1 a).f0))∧w'.cell? ⟨(c.add ((a).toNat*10)).block,(c.add ((a).toNat*10)).off+1,none⟩=some (.int .i64 ((rd_T56 l0_1 a).f1))∧w'.cell? ⟨(c.add ((a).toNat*10)).block,(c.add ((a).toNat*10)).off+2,none⟩=some (.string ((rd_T56 l0_1 a).f2))∧w'.cell? ⟨(c.add ((a).toNat*10)).block,(c.add ((a).toNat*10)).off+3,none⟩=some (.int .i64 ((rd_T56 l0_1 a).f3))∧w'.cell? ⟨(c.add ((a).toNat*10)).block,(c.add ((a).toNat*10)).off+4,none⟩=some (.slice ae ((rd_T56 l0_1 a).f4).length P)∧w'.cell? ⟨(c.add ((a).toNat*10)).block,(c.add ((a).toNat*10)).off+5,none⟩=some (.slice ag ((rd_T56 l0_1 a).f5).length Q)∧w'.cell? ⟨(c.add ((a).toNat*10)).block,(c.add ((a).toNat*10)).off+6,none⟩=some (.int .i64 ((rd_T56 l0_1 a).f6.f0))∧w'.cell? ⟨(c.add ((a).toNat*10)).block,(c.add ((a).toNat*10)).off+7,none⟩=some (.int .i64 ((rd_T56 l0_1 a).f6.f1))∧w'.cell? ⟨(c.add ((a).toNat*10)).block,(c.add ((a).toNat*10)).off+8,none⟩=some (.string ((rd_T56 l0_1 a).f6.f2))∧w'.cell? ⟨(c.add ((a).toNat*10)).block,(c.add ((a).toNat*10)).off+9,none⟩=some (.int .i64 ((rd_T56 l0_1 a).f6.f3))) (ds:=[]) #[false,false,false,false,false,false,false,false,false,false,false] (by kernel_rfl) rfl rfl ⟨(blk_cell q.out 0).trans rfl,(blk_cell q.out 1).trans rfl,(blk_cell l.out 0).trans rfl,(blk_cell l.out 1).trans rfl,(blk_cell l.out 2).trans rfl,(blk_cell l.out 3).trans rfl,((HB.out.cell (zL w _ ac)).trans ac),((HB.out.cell (zL w _ ab)).trans ab),((HB.out.cell (zL w _ aa)).trans aa),((HB.out.cell (zL w _ Z)).trans Z),((HB.out.cell (zL w _ Y)).trans Y),((HB.out.cell (zL w _ X)).trans X),((HB.out.cell (zL w _ W)).trans W),((HB.out.cell (zL w _ V)).trans V),((HB.out.cell (zL w _ U)).trans U),((HB.out.cell (zL w _ T)).trans T)⟩ (fun hHeld=>?_);refine with_tabW impl_PairsOf.tab3 impl_PairsOf.bits3 (fun ar bk=>?_)
 generalize wc.drew=w22 at q l HB cz cf bV bW bX bY bZ b0 b1 b2 b3 b4 hHeld ⊢
 refine pure_ (i:=0) (N:=some 20) (v:=?_) (a':=?_) (bN 11 1) rfl rfl (any_of ar.out (by kernel_rfl)) (fun _ _ _ h=>h) (Or.inl ⟨by rfl,?_⟩) ?_ ?_
 rotate_left
 ·(
 intro w'
 go_simp
 with_reducible rfl)
 rotate_left
 ·(
 simp only[zP,i64_w,i32_w]
 rfl)
 refine take_ (i:=1) (N:=some 21) (v:=?_) (a':=?_) (bN 11 3) rfl rfl (take_ofW ar.out bk.out (by kernel_rfl)) (fun _ _ _ h=>h) (Or.inl ⟨by rfl,?_⟩) hHeld ?_ ?_
 rotate_left
 ·(
 rintro w' ⟨s0,s1,s2,s3,s4,s5,s6,s7,s8,s9,bs,bt,bu,bv,bw,bx⟩
 go_simp
 with_reducible rfl)
 rotate_left
 ·(
 simp only[zP,i64_w,i32_w]
 rfl)
 refine take_ (i:=2) (N:=some 22) (v:=?_) (a':=?_) (bN 11 7) rfl rfl (take_ofW ar.out bk.out (by kernel_rfl)) (fun _ _ _ h=>h) (Or.inl ⟨by rfl,?_⟩) hHeld ?_ ?_
 rotate_left
 ·(
 rintro w' ⟨s0,s1,s2,s3,s4,s5,s6,s7,s8,s9,bs,bt,bu,bv,bw,bx⟩
 go_simp
 with_reducible rfl)
 rotate_left
 ·(
 simp only[zP,i64_w,i32_w]
 rfl)
 refine take_ (i:=3) (N:=some 23) (v:=?_) (a':=?_) (bN 11 15) rfl rfl (take_ofW ar.out bk.out (by kernel_rfl)) (fun _ _ _ h=>h) (Or.inl ⟨by rfl,?_⟩) hHeld ?_ ?_
 rotate_left
 ·(
 rintro w' ⟨s0,s1,s2,s3,s4,s5,s6,s7,s8,s9,bs,bt,bu,bv,bw,bx⟩
 go_simp
 with_reducible rfl)
 rotate_left
 ·(
 simp only[zP,i64_w,i32_w]
 rfl)
 refine join_ (σ:=Value×Nat) 1 (bN 11 1023) (fun z=>[(24,.int .i64 a),(27,z.1),(5,.pointer (some ⟨z.2,0,none⟩)),(25,.pointer (some (c.add ((a).toNat*10)))),(26,.agg #[.int .i64 ((rd_T56 l0_1 a).f0),.int .i64 ((rd_T56 l0_1 a).f1),.string ((rd_T56 l0_1 a).f2),.int .i64 ((rd_T56 l0_1 a).f3),.slice ae ((rd_T56 l0_1 a).f4).length P,.slice ag ((rd_T56 l0_1 a).f5).length Q,.int .i64 ((rd_T56 l0_1 a).f6.f0),.int .i64 ((rd_T56 l0_1 a).f6.f1),.string ((rd_T56 l0_1 a).f6.f2),.int .i64 ((rd_T56 l0_1 a).f6.f3)])]) (fun z w'=>(w'.cell? ⟨y,0,none⟩=some (.int .i64 a0_0)∧w'.cell? ⟨y,1,none⟩=some (.slice (some c) l0_1.length c0_1)∧w'.cell? ⟨m,0,none⟩=some (.int .i64 a1_0)∧w'.cell? ⟨m,1,none⟩=some (.int .i64 a1_1)∧w'.cell? ⟨m,2,none⟩=some (.string a1_2)∧w'.cell? ⟨m,3,none⟩=some (.int .i64 a1_3)∧w'.cell? (c.add ((a).toNat*10))=some (.int .i64 ((rd_T56 l0_1 a).f0))∧w'.cell? ⟨(c.add ((a).toNat*10)).block,(c.add ((a).toNat*10)).off+1,none⟩=some (.int .i64 ((rd_T56 l0_1 a).f1))∧w'.cell? ⟨(c.add ((a).toNat*10)).block,(c.add ((a).toNat*10)).off+2,none⟩=some (.string ((rd_T56 l0_1 a).f2))∧w'.cell? ⟨(c.add ((a).toNat*10)).block,(c.add ((a).toNat*10)).off+3,none⟩=some (.int .i64 ((rd_T56 l0_1 a).f3))∧w'.cell? ⟨(c.add ((a).toNat*10)).block,(c.add ((a).toNat*10)).off+4,none⟩=some (.slice ae ((rd_T56 l0_1 a).f4).length P)∧w'.cell? ⟨(c.add ((a).toNat*10)).block,(c.add ((a).toNat*10)).off+5,none⟩=some (.slice ag ((rd_T56 l0_1 a).f5).length Q)∧w'.cell? ⟨(c.add ((a).toNat*10)).block,(c.add ((a).toNat*10)).off+6,none⟩=some (.int .i64 ((rd_T56 l0_1 a).f6.f0))∧w'.cell? ⟨(c.add ((a).toNat*10)).block,(c.add ((a).toNat*10)).off+7,none⟩=some (.int .i64 ((rd_T56 l0_1 a).f6.f1))∧w'.cell? ⟨(c.add ((a).toNat*10)).block,(c.add ((a).toNat*10)).off+8,none⟩=some (.string ((rd_T56 l0_1 a).f6.f2))∧w'.cell? ⟨(c.add ((a).toNat*10)).block,(c.add ((a).toNat*10)).off+9,none⟩=some (.int .i64 ((rd_T56 l0_1 a).f6.f3)))∧(Kd.R k29 29 w' w.heap.size (fun D=>D≠m) z.1 y393)∧(w'.heap[y]?=some (.cells #[.int .i64 a0_0,.slice (some c) l0_1.length c0_1] 34 (0,0)))∧(w'.heap[m]?=some (.cells #[.int .i64 a1_0,.int .i64 a1_1,.string a1_2,.int .i64 a1_3] 29 (0,0)))∧(w'.heap[z.2]?=some (.cells #[.int .i64 ((rd_T56 l0_1 a).f0),.int .i64 ((rd_T56 l0_1 a).f1),.string ((rd_T56 l0_1 a).f2),.int .i64 ((rd_T56 l0_1 a).f3),.slice ae ((rd_T56 l0_1 a).f4).length P,.slice ag ((rd_T56 l0_1 a).f5).length Q,.int .i64 ((rd_T56 l0_1 a).f6.f0),.int .i64 ((rd_T56 l0_1 a).f6.f1),.string ((rd_T56 l0_1 a).f6.f2),.int .i64 ((rd_T56 l0_1 a).f6.f3)] 56 (0,0)))∧(w.heap.size≤z.2)∧(w.heap.size≤z.2)∧(y≠z.2)∧(z.2≠y)∧(m≠z.2)∧(z.2≠m)∧(Below w.heap.size w w')) ?_ ?_
 rotate_left
 ·(
 intro cA
 refine join_ (σ:=Value×Nat) 2 (bN 11 511) (fun z=>[(24,.int .i64 a),(27,z.1),(5,.pointer (some ⟨z.2,0,none⟩)),(25,.pointer (some (c.add ((a).toNat*10)))),(26,.agg #[.int .i64 ((rd_T56 l0_1 a).f0),.int .i64 ((rd_T56 l0_1 a).f1),.string ((rd_T56 l0_1 a).f2),.int .i64 ((rd_T56 l0_1 a).f3),.slice ae ((rd_T56 l0_1 a).f4).length P,.slice ag ((rd_T56 l0_1 a).f5).length Q,.int .i64 ((rd_T56 l0_1 a).f6.f0),.int .i64 ((rd_T56 l0_1 a).f6.f1),.string ((rd_T56 l0_1 a).f6.f2),.int .i64 ((rd_T56 l0_1 a).f6.f3)])]) (fun z w'=>(w'.cell? ⟨y,0,none⟩=some (.int .i64 a0_0)∧w'.cell? ⟨y,1,none⟩=some (.slice (some c) l0_1.length c0_1)∧w'.cell? ⟨m,0,none⟩=some (.int .i64 a1_0)∧w'.cell? ⟨m,1,none⟩=some (.int .i64 a1_1)∧w'.cell? ⟨m,2,none⟩=some (.string a1_2)∧w'.cell? ⟨m,3,none⟩=some (.int .i64 a1_3)∧w'.cell? (c.add ((a).toNat*10))=some (.int .i64 ((rd_T56 l0_1 a).f0))∧w'.cell? ⟨(c.add ((a).toNat*10)).block,(c.add ((a).toNat*10)).off+1,none⟩=some (.int .i64 ((rd_T56 l0_1 a).f1))∧w'.cell? ⟨(c.add ((a).toNat*10)).block,(c.add ((a).toNat*10)).off+2,none⟩=some (.string ((rd_T56 l0_1 a).f2))∧w'.cell? ⟨(c.add ((a).toNat*10)).block,(c.add ((a).toNat*10)).off+3,none⟩=some (.int .i64 ((rd_T56 l0_1 a).f3))∧w'.cell? ⟨(c.add ((a).toNat*10)).block,(c.add ((a).toNat*10)).off+4,none⟩=some (.slice ae ((rd_T56 l0_1 a).f4).length P)∧w'.cell? ⟨(c.add ((a).toNat*10)).block,(c.add ((a).toNat*10)).off+5,none⟩=some (.slice ag ((rd_T56 l0_1 a).f5).length Q)∧w'.cell? ⟨(c.add ((a).toNat*10)).block,(c.add ((a).toNat*10)).off+6,none⟩=some (.int .i64 ((rd_T56 l0_1 a).f6.f0))∧w'.cell? ⟨(c.add ((a).toNat*10)).block,(c.add ((a).toNat*10)).off+7,none⟩=some (.int .i64 ((rd_T56 l0_1 a).f6.f1))∧w'.cell? ⟨(c.add ((a).toNat*10)).block,(c.add ((a).toNat*10)).off+8,none⟩=some (.string ((rd_T56 l0_1 a).f6.f2))∧w'.cell? ⟨(c.add ((a).toNat*10)).block,(c.add ((a).toNat*10)).off+9,none⟩=some (.int .i64 ((rd_T56 l0_1 a).f6.f3)))∧(Kd.R k29 29 w' w.heap.size (fun D=>D≠m) z.1 y393)∧(w'.heap[y]?=some (.cells #[.int .i64 a0_0,.slice (some c) l0_1.length c0_1] 34 (0,0)))∧(w'.heap[m]?=some (.cells #[.int .i64 a1_0,.int .i64 a1_1,.string a1_2,.int .i64 a1_3] 29 (0,0)))∧(w'.heap[z.2]?=some (.cells #[.int .i64 0,.int .i64 0,.string (⟨#[]⟩:ByteArray),.int .i64 0,.slice none 0 0,.slice none 0 0,.int .i64 0,.int .i64 0,.string (⟨#[]⟩:ByteArray),.int .i64 0] 56 (0,0)))∧(w.heap.size≤z.2)∧(w.heap.size≤z.2)∧(y≠z.2)∧(z.2≠y)∧(m≠z.2)∧(z.2≠m)∧(Below w.heap.size w w')) ?_ ?_
 rotate_left
 ·(
 intro cg
 refine join_ (σ:=Nat) 2 (bN 11 895) (fun z=>[(24,.int .i64 a),(5,.pointer (some ⟨z,0,none⟩)),(25,.pointer (some (c.add ((a).toNat*10)))),(26,.agg #[.int .i64 ((rd_T56 l0_1 a).f0),.int .i64 ((rd_T56 l0_1 a).f1),.string ((rd_T56 l0_1 a).f2),.int .i64 ((rd_T56 l0_1 a).f3),.slice ae ((rd_T56 l0_1 a).f4).length P,.slice ag ((rd_T56 l0_1 a).f5).length Q,.int .i64 ((rd_T56 l0_1 a).f6.f0),.int .i64 ((rd_T56 l0_1 a).f6.f1),.string ((rd_T56 l0_1 a).f6.f2),.int .i64 ((rd_T56 l0_1 a).f6.f3)])]) (fun z w'=>(w'.cell? ⟨y,0,none⟩=some (.int .i64 a0_0)∧w'.cell? ⟨y,1,none⟩=some (.slice (some c) l0_1.length c0_1)∧w'.cell? ⟨m,0,none⟩=some (.int .i64 a1_0)∧w'.cell? ⟨m,1,none⟩=some (.int .i64 a1_1)∧w'.cell? ⟨m,2,none⟩=some (.string a1_2)∧w'.cell? ⟨m,3,none⟩=some (.int .i64 a1_3)∧w'.cell? (c.add ((a).toNat*10))=some (.int .i64 ((rd_T56 l0_1 a).f0))∧w'.cell? ⟨(c.add ((a).toNat*10)).block,(c.add ((a).toNat*10)).off+1,none⟩=some (.int .i64 ((rd_T56 l0_1 a).f1))∧w'.cell? ⟨(c.add ((a).toNat*10)).block,(c.add ((a).toNat*10)).off+2,none⟩=some (.string ((rd_T56 l0_1 a).f2))∧w'.cell? ⟨(c.add ((a).toNat*10)).block,(c.add ((a).toNat*10)).off+3,none⟩=some (.int .i64 ((rd_T56 l0_1 a).f3))∧w'.cell? ⟨(c.add ((a).toNat*10)).block,(c.add ((a).toNat*10)).off+4,none⟩=some (.slice ae ((rd_T56 l0_1 a).f4).length P)∧w'.cell? ⟨(c.add ((a).toNat*10)).block,(c.add ((a).toNat*10)).off+5,none⟩=some (.slice ag ((rd_T56 l0_1 a).f5).length Q)∧w'.cell? ⟨(c.add ((a).toNat*10)).block,(c.add ((a).toNat*10)).off+6,none⟩=some (.int .i64 ((rd_T56 l0_1 a).f6.f0))∧w'.cell? ⟨(c.add ((a).toNat*10)).block,(c.add ((a).toNat*10)).off+7,none⟩=some (.int .i64 ((rd_T56 l0_1 a).f6.f1))∧w'.cell? ⟨(c.add ((a).toNat*10)).block,(c.add ((a).toNat*10)).off+8,none⟩=some (.string ((rd_T56 l0_1 a).f6.f2))∧w'.cell? ⟨(c.add ((a).toNat*10)).block,(c.add ((a).toNat*10)).off+9,none⟩=some (.int .i64 ((rd_T56 l0_1 a).f6.f3)))∧(w'.heap[y]?=some (.cells #[.int .i64 a0_0,.slice (some c) l0_1.length c0_1] 34 (0,0)))∧(w'.heap[m]?=some (.cells #[.int .i64 a1_0,.int .i64 a1_1,.string a1_2,.int .i64 a1_3] 29 (0,0)))∧(w'.heap[z]?=some (.cells #[.int .i64 ((rd_T56 l0_1 a).f0),.int .i64 ((rd_T56 l0_1 a).f1),.string ((rd_T56 l0_1 a).f2),.int .i64 ((rd_T56 l0_1 a).f3),.slice ae ((rd_T56 l0_1 a).f4).length P,.slice ag ((rd_T56 l0_1 a).f5).length Q,.int .i64 ((rd_T56 l0_1 a).f6.f0),.int .i64 ((rd_T56 l0_1 a).f6.f1),.string ((rd_T56 l0_1 a).f6.f2),.int .i64 ((rd_T56 l0_1 a).f6.f3)] 56 (0,0)))∧(w.heap.size≤z)∧(w.heap.size≤z)∧(y≠z)∧(z≠y)∧(m≠z)∧(z≠m)∧(Below w.heap.size w w')) ?_ ?_
 rotate_left
 ·(
 intro cL
 refine join_ (σ:=Value) 3 (bN 11 255) (fun z=>[(24,.int .i64 a),(27,z),(25,.pointer (some (c.add ((a).toNat*10)))),(26,.agg #[.int .i64 ((rd_T56 l0_1 a).f0),.int .i64 ((rd_T56 l0_1 a).f1),.string ((rd_T56 l0_1 a).f2),.int .i64 ((rd_T56 l0_1 a).f3),.slice ae ((rd_T56 l0_1 a).f4).length P,.slice ag ((rd_T56 l0_1 a).f5).length Q,.int .i64 ((rd_T56 l0_1 a).f6.f0),.int .i64 ((rd_T56 l0_1 a).f6.f1),.string ((rd_T56 l0_1 a).f6.f2),.int .i64 ((rd_T56 l0_1 a).f6.f3)])]) (fun z w'=>(w'.cell? ⟨y,0,none⟩=some (.int .i64 a0_0)∧w'.cell? ⟨y,1,none⟩=some (.slice (some c) l0_1.length c0_1)∧w'.cell? ⟨m,0,none⟩=some (.int .i64 a1_0)∧w'.cell? ⟨m,1,none⟩=some (.int .i64 a1_1)∧w'.cell? ⟨m,2,none⟩=some (.string a1_2)∧w'.cell? ⟨m,3,none⟩=some (.int .i64 a1_3)∧w'.cell? (c.add ((a).toNat*10))=some (.int .i64 ((rd_T56 l0_1 a).f0))∧w'.cell? ⟨(c.add ((a).toNat*10)).block,(c.add ((a).toNat*10)).off+1,none⟩=some (.int .i64 ((rd_T56 l0_1 a).f1))∧w'.cell? ⟨(c.add ((a).toNat*10)).block,(c.add ((a).toNat*10)).off+2,none⟩=some (.string ((rd_T56 l0_1 a).f2))∧w'.cell? ⟨(c.add ((a).toNat*10)).block,(c.add ((a).toNat*10)).off+3,none⟩=some (.int .i64 ((rd_T56 l0_1 a).f3))∧w'.cell? ⟨(c.add ((a).toNat*10)).block,(c.add ((a).toNat*10)).off+4,none⟩=some (.slice ae ((rd_T56 l0_1 a).f4).length P)∧w'.cell? ⟨(c.add ((a).toNat*10)).block,(c.add ((a).toNat*10)).off+5,none⟩=some (.slice ag ((rd_T56 l0_1 a).f5).length Q)∧w'.cell? ⟨(c.add ((a).toNat*10)).block,(c.add ((a).toNat*10)).off+6,none⟩=some (.int .i64 ((rd_T56 l0_1 a).f6.f0))∧w'.cell? ⟨(c.add ((a).toNat*10)).block,(c.add ((a).toNat*10)).off+7,none⟩=some (.int .i64 ((rd_T56 l0_1 a).f6.f1))∧w'.cell? ⟨(c.add ((a).toNat*10)).block,(c.add ((a).toNat*10)).off+8,none⟩=some (.string ((rd_T56 l0_1 a).f6.f2))∧w'.cell? ⟨(c.add ((a).toNat*10)).block,(c.add ((a).toNat*10)).off+9,none⟩=some (.int .i64 ((rd_T56 l0_1 a).f6.f3)))∧(Kd.R k29 29 w' w.heap.size (fun D=>D≠m) z y393)∧(w'.heap[y]?=some (.cells #[.int .i64 a0_0,.slice (some c) l0_1.length c0_1] 34 (0,0)))∧(w'.heap[m]?=some (.cells #[.int .i64 a1_0,.int .i64 a1_1,.string a1_2,.int .i64 a1_3] 29 (0,0)))∧(Below w.heap.size w w')) ?_ ?_
 rotate_left
 ·(
 intro cB
 refine join_ (σ:=Nat) 3 (bN 11 383) (fun z=>[(24,.int .i64 a),(5,.pointer (some ⟨z,0,none⟩)),(25,.pointer (some (c.add ((a).toNat*10)))),(26,.agg #[.int .i64 ((rd_T56 l0_1 a).f0),.int .i64 ((rd_T56 l0_1 a).f1),.string ((rd_T56 l0_1 a).f2),.int .i64 ((rd_T56 l0_1 a).f3),.slice ae ((rd_T56 l0_1 a).f4).length P,.slice ag ((rd_T56 l0_1 a).f5).length Q,.int .i64 ((rd_T56 l0_1 a).f6.f0),.int .i64 ((rd_T56 l0_1 a).f6.f1),.string ((rd_T56 l0_1 a).f6.f2),.int .i64 ((rd_T56 l0_1 a).f6.f3)])]) (fun z w'=>(w'.cell? ⟨y,0,none⟩=some (.int .i64 a0_0)∧w'.cell? ⟨y,1,none⟩=some (.slice (some c) l0_1.length c0_1)∧w'.cell? ⟨m,0,none⟩=some (.int .i64 a1_0)∧w'.cell? ⟨m,1,none⟩=some (.int .i64 a1_1)∧w'.cell? ⟨m,2,none⟩=some (.string a1_2)∧w'.cell? ⟨m,3,none⟩=some (.int .i64 a1_3)∧w'.cell? (c.add ((a).toNat*10))=some (.int .i64 ((rd_T56 l0_1 a).f0))∧w'.cell? ⟨(c.add ((a).toNat*10)).block,(c.add ((a).toNat*10)).off+1,none⟩=some (.int .i64 ((rd_T56 l0_1 a).f1))∧w'.cell? ⟨(c.add ((a).toNat*10)).block,(c.add ((a).toNat*10)).off+2,none⟩=some (.string ((rd_T56 l0_1 a).f2))∧w'.cell? ⟨(c.add ((a).toNat*10)).block,(c.add ((a).toNat*10)).off+3,none⟩=some (.int .i64 ((rd_T56 l0_1 a).f3))∧w'.cell? ⟨(c.add ((a).toNat*10)).block,(c.add ((a).toNat*10)).off+4,none⟩=some (.slice ae ((rd_T56 l0_1 a).f4).length P)∧w'.cell? ⟨(c.add ((a).toNat*10)).block,(c.add ((a).toNat*10)).off+5,none⟩=some (.slice ag ((rd_T56 l0_1 a).f5).length Q)∧w'.cell? ⟨(c.add ((a).toNat*10)).block,(c.add ((a).toNat*10)).off+6,none⟩=some (.int .i64 ((rd_T56 l0_1 a).f6.f0))∧w'.cell? ⟨(c.add ((a).toNat*10)).block,(c.add ((a).toNat*10)).off+7,none⟩=some (.int .i64 ((rd_T56 l0_1 a).f6.f1))∧w'.cell? ⟨(c.add ((a).toNat*10)).block,(c.add ((a).toNat*10)).off+8,none⟩=some (.string ((rd_T56 l0_1 a).f6.f2))∧w'.cell? ⟨(c.add ((a).toNat*10)).block,(c.add ((a).toNat*10)).off+9,none⟩=some (.int .i64 ((rd_T56 l0_1 a).f6.f3)))∧(w'.heap[y]?=some (.cells #[.int .i64 a0_0,.slice (some c) l0_1.length c0_1] 34 (0,0)))∧(w'.heap[m]?=some (.cells #[.int .i64 a1_0,.int .i64 a1_1,.string a1_2,.int .i64 a1_3] 29 (0,0)))∧(w'.heap[z]?=some (.cells #[.int .i64 0,.int .i64 0,.string (⟨#[]⟩:ByteArray),.int .i64 0,.slice none 0 0,.slice none 0 0,.int .i64 0,.int .i64 0,.string (⟨#[]⟩:ByteArray),.int .i64 0] 56 (0,0)))∧(w.heap.size≤z)∧(w.heap.size≤z)∧(y≠z)∧(z≠y)∧(m≠z)∧(z≠m)∧(Below w.heap.size w w')) ?_ ?_
 rotate_left
 ·(
 intro cC
 refine join_ (σ:=Value×Nat) 5 (bN 11 399) (fun z=>[(27,z.1),(5,.pointer (some ⟨z.2,0,none⟩))]) (fun z w'=>(w'.cell? ⟨y,0,none⟩=some (.int .i64 a0_0)∧w'.cell? ⟨y,1,none⟩=some (.slice (some c) l0_1.length c0_1)∧w'.cell? ⟨m,0,none⟩=some (.int .i64 a1_0)∧w'.cell? ⟨m,1,none⟩=some (.int .i64 a1_1)∧w'.cell? ⟨m,2,none⟩=some (.string a1_2)∧w'.cell? ⟨m,3,none⟩=some (.int .i64 a1_3)∧w'.cell? (c.add ((a).toNat*10))=some (.int .i64 ((rd_T56 l0_1 a).f0))∧w'.cell? ⟨(c.add ((a).toNat*10)).block,(c.add ((a).toNat*10)).off+1,none⟩=some (.int .i64 ((rd_T56 l0_1 a).f1))∧w'.cell? ⟨(c.add ((a).toNat*10)).block,(c.add ((a).toNat*10)).off+2,none⟩=some (.string ((rd_T56 l0_1 a).f2))∧w'.cell? ⟨(c.add ((a).toNat*10)).block,(c.add ((a).toNat*10)).off+3,none⟩=some (.int .i64 ((rd_T56 l0_1 a).f3))∧w'.cell? ⟨(c.add ((a).toNat*10)).block,(c.add ((a).toNat*10)).off+4,none⟩=some (.slice ae ((rd_T56 l0_1 a).f4).length P)∧w'.cell? ⟨(c.add ((a).toNat*10)).block,(c.add ((a).toNat*10)).off+5,none⟩=some (.slice ag ((rd_T56 l0_1 a).f5).length Q)∧w'.cell? ⟨(c.add ((a).toNat*10)).block,(c.add ((a).toNat*10)).off+6,none⟩=some (.int .i64 ((rd_T56 l0_1 a).f6.f0))∧w'.cell? ⟨(c.add ((a).toNat*10)).block,(c.add ((a).toNat*10)).off+7,none⟩=some (.int .i64 ((rd_T56 l0_1 a).f6.f1))∧w'.cell? ⟨(c.add ((a).toNat*10)).block,(c.add ((a).toNat*10)).off+8,none⟩=some (.string ((rd_T56 l0_1 a).f6.f2))∧w'.cell? ⟨(c.add ((a).toNat*10)).block,(c.add ((a).toNat*10)).off+9,none⟩=some (.int .i64 ((rd_T56 l0_1 a).f6.f3)))∧(Kd.R k29 29 w' w.heap.size (fun D=>D≠m) z.1 y393)∧(w'.heap[y]?=some (.cells #[.int .i64 a0_0,.slice (some c) l0_1.length c0_1] 34 (0,0)))∧(w'.heap[m]?=some (.cells #[.int .i64 a1_0,.int .i64 a1_1,.string a1_2,.int .i64 a1_3] 29 (0,0)))∧(w'.heap[z.2]?=some (.cells #[.int .i64 0,.int .i64 0,.string (⟨#[]⟩:ByteArray),.int .i64 0,.slice none 0 0,.slice none 0 0,.int .i64 0,.int .i64 0,.string (⟨#[]⟩:ByteArray),.int .i64 0] 56 (0,0)))∧(w.heap.size≤z.2)∧(w.heap.size≤z.2)∧(y≠z.2)∧(z.2≠y)∧(m≠z.2)∧(z.2≠m)∧(Below w.heap.size w w')) ?_ ?_
 rotate_left
 ·(
 intro cD
 refine join_ (σ:=Unit) 4 (bN 11 127) (fun z=>[(24,.int .i64 a),(25,.pointer (some (c.add ((a).toNat*10)))),(26,.agg #[.int .i64 ((rd_T56 l0_1 a).f0),.int .i64 ((rd_T56 l0_1 a).f1),.string ((rd_T56 l0_1 a).f2),.int .i64 ((rd_T56 l0_1 a).f3),.slice ae ((rd_T56 l0_1 a).f4).length P,.slice ag ((rd_T56 l0_1 a).f5).length Q,.int .i64 ((rd_T56 l0_1 a).f6.f0),.int .i64 ((rd_T56 l0_1 a).f6.f1),.string ((rd_T56 l0_1 a).f6.f2),.int .i64 ((rd_T56 l0_1 a).f6.f3)])]) (fun z w'=>(w'.cell? ⟨y,0,none⟩=some (.int .i64 a0_0)∧w'.cell? ⟨y,1,none⟩=some (.slice (some c) l0_1.length c0_1)∧w'.cell? ⟨m,0,none⟩=some (.int .i64 a1_0)∧w'.cell? ⟨m,1,none⟩=some (.int .i64 a1_1)∧w'.cell? ⟨m,2,none⟩=some (.string a1_2)∧w'.cell? ⟨m,3,none⟩=some (.int .i64 a1_3)∧w'.cell? (c.add ((a).toNat*10))=some (.int .i64 ((rd_T56 l0_1 a).f0))∧w'.cell? ⟨(c.add ((a).toNat*10)).block,(c.add ((a).toNat*10)).off+1,none⟩=some (.int .i64 ((rd_T56 l0_1 a).f1))∧w'.cell? ⟨(c.add ((a).toNat*10)).block,(c.add ((a).toNat*10)).off+2,none⟩=some (.string ((rd_T56 l0_1 a).f2))∧w'.cell? ⟨(c.add ((a).toNat*10)).block,(c.add ((a).toNat*10)).off+3,none⟩=some (.int .i64 ((rd_T56 l0_1 a).f3))∧w'.cell? ⟨(c.add ((a).toNat*10)).block,(c.add ((a).toNat*10)).off+4,none⟩=some (.slice ae ((rd_T56 l0_1 a).f4).length P)∧w'.cell? ⟨(c.add ((a).toNat*10)).block,(c.add ((a).toNat*10)).off+5,none⟩=some (.slice ag ((rd_T56 l0_1 a).f5).length Q)∧w'.cell? ⟨(c.add ((a).toNat*10)).block,(c.add ((a).toNat*10)).off+6,none⟩=some (.int .i64 ((rd_T56 l0_1 a).f6.f0))∧w'.cell? ⟨(c.add ((a).toNat*10)).block,(c.add ((a).toNat*10)).off+7,none⟩=some (.int .i64 ((rd_T56 l0_1 a).f6.f1))∧w'.cell? ⟨(c.add ((a).toNat*10)).block,(c.add ((a).toNat*10)).off+8,none⟩=some (.string ((rd_T56 l0_1 a).f6.f2))∧w'.cell? ⟨(c.add ((a).toNat*10)).block,(c.add ((a).toNat*10)).off+9,none⟩=some (.int .i64 ((rd_T56 l0_1 a).f6.f3)))∧(w'.heap[y]?=some (.cells #[.int .i64 a0_0,.slice (some c) l0_1.length c0_1] 34 (0,0)))∧(w'.heap[m]?=some (.cells #[.int .i64 a1_0,.int .i64 a1_1,.string a1_2,.int .i64 a1_3] 29 (0,0)))∧(Below w.heap.size w w')) ?_ ?_
 rotate_left
 ·(
 intro cM
 refine join_ (σ:=Value) 6 (bN 11 143) (fun z=>[(27,z)]) (fun z w'=>(w'.cell? ⟨y,0,none⟩=some (.int .i64 a0_0)∧w'.cell? ⟨y,1,none⟩=some (.slice (some c) l0_1.length c0_1)∧w'.cell? ⟨m,0,none⟩=some (.int .i64 a1_0)∧w'.cell? ⟨m,1,none⟩=some (.int .i64 a1_1)∧w'.cell? ⟨m,2,none⟩=some (.string a1_2)∧w'.cell? ⟨m,3,none⟩=some (.int .i64 a1_3)∧w'.cell? (c.add ((a).toNat*10))=some (.int .i64 ((rd_T56 l0_1 a).f0))∧w'.cell? ⟨(c.add ((a).toNat*10)).block,(c.add ((a).toNat*10)).off+1,none⟩=some (.int .i64 ((rd_T56 l0_1 a).f1))∧w'.cell? ⟨(c.add ((a).toNat*10)).block,(c.add ((a).toNat*10)).off+2,none⟩=some (.string ((rd_T56 l0_1 a).f2))∧w'.cell? ⟨(c.add ((a).toNat*10)).block,(c.add ((a).toNat*10)).off+3,none⟩=some (.int .i64 ((rd_T56 l0_1 a).f3))∧w'.cell? ⟨(c.add ((a).toNat*10)).block,(c.add ((a).toNat*10)).off+4,none⟩=some (.slice ae ((rd_T56 l0_1 a).f4).length P)∧w'.cell? ⟨(c.add ((a).toNat*10)).block,(c.add ((a).toNat*10)).off+5,none⟩=some (.slice ag ((rd_T56 l0_1 a).f5).length Q)∧w'.cell? ⟨(c.add ((a).toNat*10)).block,(c.add ((a).toNat*10)).off+6,none⟩=some (.int .i64 ((rd_T56 l0_1 a).f6.f0))∧w'.cell? ⟨(c.add ((a).toNat*10)).block,(c.add ((a).toNat*10)).off+7,none⟩=some (.int .i64 ((rd_T56 l0_1 a).f6.f1))∧w'.cell? ⟨(c.add ((a).toNat*10)).block,(c.add ((a).toNat*10)).off+8,none⟩=some (.string ((rd_T56 l0_1 a).f6.f2))∧w'.cell? ⟨(c.add ((a).toNat*10)).block,(c.add ((a).toNat*10)).off+9,none⟩=some (.int .i64 ((rd_T56 l0_1 a).f6.f3)))∧(Kd.R k29 29 w' w.heap.size (fun D=>D≠m) z y393)∧(w'.heap[y]?=some (.cells #[.int .i64 a0_0,.slice (some c) l0_1.length c0_1] 34 (0,0)))∧(w'.heap[m]?=some (.cells #[.int .i64 a1_0,.int .i64 a1_1,.string a1_2,.int .i64 a1_3] 29 (0,0)))∧(Below w.heap.size w w')) ?_ ?_
 rotate_left
 ·(
 intro cN
 refine join_ (σ:=Nat) 6 (bN 11 271) (fun z=>[(5,.pointer (some ⟨z,0,none⟩))]) (fun z w'=>(w'.cell? ⟨y,0,none⟩=some (.int .i64 a0_0)∧w'.cell? ⟨y,1,none⟩=some (.slice (some c) l0_1.length c0_1)∧w'.cell? ⟨m,0,none⟩=some (.int .i64 a1_0)∧w'.cell? ⟨m,1,none⟩=some (.int .i64 a1_1)∧w'.cell? ⟨m,2,none⟩=some (.string a1_2)∧w'.cell? ⟨m,3,none⟩=some (.int .i64 a1_3)∧w'.cell? (c.add ((a).toNat*10))=some (.int .i64 ((rd_T56 l0_1 a).f0))∧w'.cell? ⟨(c.add ((a).toNat*10)).block,(c.add ((a).toNat*10)).off+1,none⟩=some (.int .i64 ((rd_T56 l0_1 a).f1))∧w'.cell? ⟨(c.add ((a).toNat*10)).block,(c.add ((a).toNat*10)).off+2,none⟩=some (.string ((rd_T56 l0_1 a).f2))∧w'.cell? ⟨(c.add ((a).toNat*10)).block,(c.add ((a).toNat*10)).off+3,none⟩=some (.int .i64 ((rd_T56 l0_1 a).f3))∧w'.cell? ⟨(c.add ((a).toNat*10)).block,(c.add ((a).toNat*10)).off+4,none⟩=some (.slice ae ((rd_T56 l0_1 a).f4).length P)∧w'.cell? ⟨(c.add ((a).toNat*10)).block,(c.add ((a).toNat*10)).off+5,none⟩=some (.slice ag ((rd_T56 l0_1 a).f5).length Q)∧w'.cell? ⟨(c.add ((a).toNat*10)).block,(c.add ((a).toNat*10)).off+6,none⟩=some (.int .i64 ((rd_T56 l0_1 a).f6.f0))∧w'.cell? ⟨(c.add ((a).toNat*10)).block,(c.add ((a).toNat*10)).off+7,none⟩=some (.int .i64 ((rd_T56 l0_1 a).f6.f1))∧w'.cell? ⟨(c.add ((a).toNat*10)).block,(c.add ((a).toNat*10)).off+8,none⟩=some (.string ((rd_T56 l0_1 a).f6.f2))∧w'.cell? ⟨(c.add ((a).toNat*10)).block,(c.add ((a).toNat*10)).off+9,none⟩=some (.int .i64 ((rd_T56 l0_1 a).f6.f3)))∧(w'.heap[y]?=some (.cells #[.int .i64 a0_0,.slice (some c) l0_1.length c0_1] 34 (0,0)))∧(w'.heap[m]?=some (.cells #[.int .i64 a1_0,.int .i64 a1_1,.string a1_2,.int .i64 a1_3] 29 (0,0)))∧(w'.heap[z]?=some (.cells #[.int .i64 0,.int .i64 0,.string (⟨#[]⟩:ByteArray),.int .i64 0,.slice none 0 0,.slice none 0 0,.int .i64 0,.int .i64 0,.string (⟨#[]⟩:ByteArray),.int .i64 0] 56 (0,0)))∧(w.heap.size≤z)∧(w.heap.size≤z)∧(y≠z)∧(z≠y)∧(m≠z)∧(z≠m)∧(Below w.heap.size w w')) ?_ ?_
 rotate_left
 ·(
 intro cO
 refine three_ (i:=4) (j:=7) (k:=8) (Ni:=some 24) (Nj:=some 27) (Nk:=some 5) (bN 11 31) (bN 11 143) (bN 11 271) rfl rfl rfl rfl rfl rfl (three_of ar.out (by kernel_rfl)) (by decide) (by decide) (by decide) (fun K hK=>?_) (fun K hK=>?_) (fun K hK=>?_)
 ·(
 skip
 refine goes_ Try.func53 (by kernel_rfl) rfl #[.agg #[.int .i64 a0_0,.slice (some c) l0_1.length c0_1],.agg #[.int .i64 a1_0,.int .i64 a1_1,.string a1_2,.int .i64 a1_3]] (by rfl) rfl rfl (by(try simp only[List.map_toArray,List.map_cons,List.map_nil]);first|done|rfl|(simp only[List.length_drop,List.length_take];rfl)) ?_
 with_reducible refine(impl_Heap_object.calls kj2 a0_0 _ _ l0_1 a1_0 a1_1 a1_2 a1_3 a _ ?side1 ?side2 bS.out).mono ?_
 (case side1=>exact sD (zC bj.out HB.out))
 (case side2=>exact br.out)
 rintro e cE ⟨rfl,hb⟩
 refine⟨_,rfl,?_⟩
 replace q:=sK q hb
 replace l:=sK l hb
 replace HB:=sB HB hb
 (try clear hb)
 (try clear hb2)
 (try clear hk)
 (try clear hi)
 refine hK.out _ _ ⟨(blk_cell q.out 0).trans rfl,(blk_cell q.out 1).trans rfl,(blk_cell l.out 0).trans rfl,(blk_cell l.out 1).trans rfl,(blk_cell l.out 2).trans rfl,(blk_cell l.out 3).trans rfl,((HB.out.cell (zL w _ ac)).trans ac),((HB.out.cell (zL w _ ab)).trans ab),((HB.out.cell (zL w _ aa)).trans aa),((HB.out.cell (zL w _ Z)).trans Z),((HB.out.cell (zL w _ Y)).trans Y),((HB.out.cell (zL w _ X)).trans X),((HB.out.cell (zL w _ W)).trans W),((HB.out.cell (zL w _ V)).trans V),((HB.out.cell (zL w _ U)).trans U),((HB.out.cell (zL w _ T)).trans T)⟩ (fun hHeld=>?_)
 clear hK K
 refine norm_ (a':=?_) ?_ ?_
 rotate_left
 ·(
 show Act.put _ (some 24) _=_
 simp only[zP,i64_w,i32_w]
 rfl)
 refine pure_ (i:=5) (N:=some 25) (v:=?_) (a':=?_) (bN 11 63) rfl rfl (any_of ar.out (by kernel_rfl)) (fun _ _ _ h=>h) (Or.inl ⟨by rfl,?_⟩) ?_ ?_
 rotate_left
 ·(
 intro w'
 go_simp
 with_reducible rfl)
 rotate_left
 ·(
 simp only[zP,i64_w,i32_w]
 rfl)
 refine take_ (i:=6) (N:=some 26) (v:=?_) (a':=?_) (bN 11 127) rfl rfl (take_ofW ar.out bk.out (by kernel_rfl)) (fun _ _ _ h=>h) (Or.inl ⟨by rfl,?_⟩) hHeld ?_ ?_
 rotate_left
 ·(
 rintro w' ⟨s0,s1,s2,s3,s4,s5,s6,s7,s8,s9,bs,bt,bu,bv,bw,bx⟩
 go_simp
 with_reducible rfl)
 rotate_left
 ·(
 simp only[zP,i64_w,i32_w]
 rfl)
 exact norm_ (by first|(simp only[putAll,Act.put,List.setIfInBounds_toArray,List.set_cons_zero,List.set_cons_succ];done)|(simp only[putAll,Act.put,List.setIfInBounds_toArray,List.set_cons_zero,List.set_cons_succ];rfl)) (cM () _ ⟨hHeld,(sT q.out),(sT l.out),zzR⟩))
 ·(
 skip
 refine Kd.R_lit_step k29 _ 29 ?hg (N:=27) ?hd (xs:=([]:List (S29))) (inner:=[]) (ok:=fun _=>True) (okp:=fun _=>True) ?hr ?hp (fun _ hk=>hk) trivial (Below.refl _ _) (Nat.le_refl _) (by simp) ?_;(case hd=>rfl);(case hg=>rfl);(case hr=>first|(go_simp;done)|(go_simp;rfl));(case hp=>exact(Reps.none _ _))
 intro aq cE bF hb a0 a1
 clear a0 a1
 (first|rw[←bc.out]at bF|(simp only[Int.reduceToNat]at bF;rw[←bc.out]at bF))
 have ah:=zM (Kd.R_lower (Kd.R_newB bF (g:=m) (o:= .cells #[.int .i64 a1_0,.int .i64 a1_1,.string a1_2,.int .i64 a1_3] 29 (0,0)) (sT l.out)) (below_size zzR))
 replace q:=sK q hb
 replace l:=sK l hb
 replace HB:=sB HB hb
 clear hb bF
 refine hK.out _ _ ⟨(blk_cell q.out 0).trans rfl,(blk_cell q.out 1).trans rfl,(blk_cell l.out 0).trans rfl,(blk_cell l.out 1).trans rfl,(blk_cell l.out 2).trans rfl,(blk_cell l.out 3).trans rfl,((HB.out.cell (zL w _ ac)).trans ac),((HB.out.cell (zL w _ ab)).trans ab),((HB.out.cell (zL w _ aa)).trans aa),((HB.out.cell (zL w _ Z)).trans Z),((HB.out.cell (zL w _ Y)).trans Y),((HB.out.cell (zL w _ X)).trans X),((HB.out.cell (zL w _ W)).trans W),((HB.out.cell (zL w _ V)).trans V),((HB.out.cell (zL w _ U)).trans U),((HB.out.cell (zL w _ T)).trans T)⟩ (fun hHeld=>?_)
 clear hK K
 refine norm_ (a':=?_) ?_ ?_
 rotate_left
 ·(
 show Act.put _ (some 27) _=_
 simp only[zP,i64_w,i32_w]
 rfl)
 exact norm_ (by first|(simp only[putAll,Act.put,List.setIfInBounds_toArray,List.set_cons_zero,List.set_cons_succ];done)|(simp only[putAll,Act.put,List.setIfInBounds_toArray,List.set_cons_zero,List.set_cons_succ];rfl)) (cN (aq) _ ⟨hHeld,(by(with_reducible repeat(first|apply Kd.R_alloc|apply Kd.R_drewN|apply Kd.R_drew));exact Kd.R_mono ah.out (fun _ hk=>hk.2)),(sT q.out),(sT l.out),zzR⟩))
 ·(
 skip
 refine box_step ?hg (N:=5) ?hd (cs:= #[.int .i64 0,.int .i64 0,.string (⟨#[]⟩:ByteArray),.int .i64 0,.slice none 0 0,.slice none 0 0,.int .i64 0,.int .i64 0,.string (⟨#[]⟩:ByteArray),.int .i64 0]) (t:=56) ?hr ?_;(case hd=>rfl);(case hg=>rfl);(case hr=>first|(go_simp;done)|(go_simp;rfl))
 intro s hg cE hbox hb
 have u:=zM (hbox)
 have x:=sG HB hg
 have J:=sG HB hg
 replace HB:=sB HB hb
 have B:=sN q hg
 have G:=sM q hg
 replace q:=sK q hb
 have A:=sN l hg
 have I:=sM l hg
 replace l:=sK l hb
 clear hb hbox hg
 refine hK.out _ _ ⟨(blk_cell q.out 0).trans rfl,(blk_cell q.out 1).trans rfl,(blk_cell l.out 0).trans rfl,(blk_cell l.out 1).trans rfl,(blk_cell l.out 2).trans rfl,(blk_cell l.out 3).trans rfl,((HB.out.cell (zL w _ ac)).trans ac),((HB.out.cell (zL w _ ab)).trans ab),((HB.out.cell (zL w _ aa)).trans aa),((HB.out.cell (zL w _ Z)).trans Z),((HB.out.cell (zL w _ Y)).trans Y),((HB.out.cell (zL w _ X)).trans X),((HB.out.cell (zL w _ W)).trans W),((HB.out.cell (zL w _ V)).trans V),((HB.out.cell (zL w _ U)).trans U),((HB.out.cell (zL w _ T)).trans T)⟩ (fun hHeld=>?_)
 clear hK K
 refine norm_ (a':=?_) ?_ ?_
 rotate_left
 ·(
 show Act.put _ (some 5) _=_
 simp only[zP,i64_w,i32_w]
 rfl)
 exact norm_ (by first|(simp only[putAll,Act.put,List.setIfInBounds_toArray,List.set_cons_zero,List.set_cons_succ];done)|(simp only[putAll,Act.put,List.setIfInBounds_toArray,List.set_cons_zero,List.set_cons_succ];rfl)) (cO (s) _ ⟨hHeld,(sT q.out),(sT l.out),(sT u.out),x.out,J.out,B.out,G.out,A.out,I.out,zzR⟩)))
 ·(
 skip
 rintro s L ⟨aE,am,an,ao,au,aG,aH,aI,aJ,aK,aM⟩
 replace q:Aside0 (L.heap[y]?=some (.cells #[.int .i64 a0_0,.slice (some c) l0_1.length c0_1] 34 (0,0))):=⟨am⟩
 replace l:Aside0 (L.heap[m]?=some (.cells #[.int .i64 a1_0,.int .i64 a1_1,.string a1_2,.int .i64 a1_3] 29 (0,0))):=⟨an⟩
 have u:Aside0 (L.heap[s]?=some (.cells #[.int .i64 0,.int .i64 0,.string (⟨#[]⟩:ByteArray),.int .i64 0,.slice none 0 0,.slice none 0 0,.int .i64 0,.int .i64 0,.string (⟨#[]⟩:ByteArray),.int .i64 0] 56 (0,0))):=⟨ao⟩
 have x:Aside0 (w.heap.size≤s):=⟨au⟩
 have J:Aside0 (w.heap.size≤s):=⟨aG⟩
 have B:Aside0 (y≠s):=⟨aH⟩
 have G:Aside0 (s≠y):=⟨aI⟩
 have A:Aside0 (m≠s):=⟨aJ⟩
 have I:Aside0 (s≠m):=⟨aK⟩
 replace HB:Aside0 (Below w.heap.size w L):=⟨aM⟩
 clear am an ao au aG aH aI aJ aK aM
 have hHeld:L.cell? ⟨y,0,none⟩=some (.int .i64 a0_0)∧L.cell? ⟨y,1,none⟩=some (.slice (some c) l0_1.length c0_1)∧L.cell? ⟨m,0,none⟩=some (.int .i64 a1_0)∧L.cell? ⟨m,1,none⟩=some (.int .i64 a1_1)∧L.cell? ⟨m,2,none⟩=some (.string a1_2)∧L.cell? ⟨m,3,none⟩=some (.int .i64 a1_3)∧L.cell? (c.add ((a).toNat*10))=some (.int .i64 ((rd_T56 l0_1 a).f0))∧L.cell? ⟨(c.add ((a).toNat*10)).block,(c.add ((a).toNat*10)).off+1,none⟩=some (.int .i64 ((rd_T56 l0_1 a).f1))∧L.cell? ⟨(c.add ((a).toNat*10)).block,(c.add ((a).toNat*10)).off+2,none⟩=some (.string ((rd_T56 l0_1 a).f2))∧L.cell? ⟨(c.add ((a).toNat*10)).block,(c.add ((a).toNat*10)).off+3,none⟩=some (.int .i64 ((rd_T56 l0_1 a).f3))∧L.cell? ⟨(c.add ((a).toNat*10)).block,(c.add ((a).toNat*10)).off+4,none⟩=some (.slice ae ((rd_T56 l0_1 a).f4).length P)∧L.cell? ⟨(c.add ((a).toNat*10)).block,(c.add ((a).toNat*10)).off+5,none⟩=some (.slice ag ((rd_T56 l0_1 a).f5).length Q)∧L.cell? ⟨(c.add ((a).toNat*10)).block,(c.add ((a).toNat*10)).off+6,none⟩=some (.int .i64 ((rd_T56 l0_1 a).f6.f0))∧L.cell? ⟨(c.add ((a).toNat*10)).block,(c.add ((a).toNat*10)).off+7,none⟩=some (.int .i64 ((rd_T56 l0_1 a).f6.f1))∧L.cell? ⟨(c.add ((a).toNat*10)).block,(c.add ((a).toNat*10)).off+8,none⟩=some (.string ((rd_T56 l0_1 a).f6.f2))∧L.cell? ⟨(c.add ((a).toNat*10)).block,(c.add ((a).toNat*10)).off+9,none⟩=some (.int .i64 ((rd_T56 l0_1 a).f6.f3)):=aE
 refine norm_ (a':=?_) ?_ ?_
 rotate_left
 ·(
 simp only[putAll,Act.put,List.setIfInBounds_toArray,List.set_cons_zero,List.set_cons_succ]
 rfl)
 refine two_ (i:=4) (j:=7) (Ni:=some 24) (Nj:=some 27) (bN 11 287) (bN 11 399) rfl rfl rfl rfl (two_of ar.out (by kernel_rfl)) (by decide) (by decide) (fun K hK=>?_) (fun K hK=>?_)
 ·(
 skip
 refine goes_ Try.func53 (by kernel_rfl) rfl #[.agg #[.int .i64 a0_0,.slice (some c) l0_1.length c0_1],.agg #[.int .i64 a1_0,.int .i64 a1_1,.string a1_2,.int .i64 a1_3]] (by rfl) rfl rfl (by(try simp only[List.map_toArray,List.map_cons,List.map_nil]);first|done|rfl|(simp only[List.length_drop,List.length_take];rfl)) ?_
 with_reducible refine(impl_Heap_object.calls kj2 a0_0 _ _ l0_1 a1_0 a1_1 a1_2 a1_3 a _ ?side1 ?side2 bS.out).mono ?_
 (case side1=>exact sD (zC bj.out HB.out))
 (case side2=>exact br.out)
 rintro e E ⟨rfl,hb⟩
 refine⟨_,rfl,?_⟩
 replace q:=sK q hb
 replace l:=sK l hb
 replace u:=sK u hb
 replace HB:=sB HB hb
 (try clear hb)
 (try clear hb2)
 (try clear hk)
 (try clear hi)
 refine hK.out _ _ ⟨(blk_cell q.out 0).trans rfl,(blk_cell q.out 1).trans rfl,(blk_cell l.out 0).trans rfl,(blk_cell l.out 1).trans rfl,(blk_cell l.out 2).trans rfl,(blk_cell l.out 3).trans rfl,((HB.out.cell (zL w _ ac)).trans ac),((HB.out.cell (zL w _ ab)).trans ab),((HB.out.cell (zL w _ aa)).trans aa),((HB.out.cell (zL w _ Z)).trans Z),((HB.out.cell (zL w _ Y)).trans Y),((HB.out.cell (zL w _ X)).trans X),((HB.out.cell (zL w _ W)).trans W),((HB.out.cell (zL w _ V)).trans V),((HB.out.cell (zL w _ U)).trans U),((HB.out.cell (zL w _ T)).trans T)⟩ (fun hHeld=>?_)
 clear hK K
 refine norm_ (a':=?_) ?_ ?_
 rotate_left
 ·(
 show Act.put _ (some 24) _=_
 simp only[zP,i64_w,i32_w]
 rfl)
 refine pure_ (i:=5) (N:=some 25) (v:=?_) (a':=?_) (bN 11 319) rfl rfl (any_of ar.out (by kernel_rfl)) (fun _ _ _ h=>h) (Or.inl ⟨by rfl,?_⟩) ?_ ?_
 rotate_left
 ·(
 intro w'
 go_simp
 with_reducible rfl)
 rotate_left
 ·(
 simp only[zP,i64_w,i32_w]
 rfl)
 refine take_ (i:=6) (N:=some 26) (v:=?_) (a':=?_) (bN 11 383) rfl rfl (take_ofW ar.out bk.out (by kernel_rfl)) (fun _ _ _ h=>h) (Or.inl ⟨by rfl,?_⟩) hHeld ?_ ?_
 rotate_left
 ·(
 rintro w' ⟨s0,s1,s2,s3,s4,s5,s6,s7,s8,s9,bs,bt,bu,bv,bw,bx⟩
 go_simp
 with_reducible rfl)
 rotate_left
 ·(
 simp only[zP,i64_w,i32_w]
 rfl)
 exact norm_ (by first|(simp only[putAll,Act.put,List.setIfInBounds_toArray,List.set_cons_zero,List.set_cons_succ];done)|(simp only[putAll,Act.put,List.setIfInBounds_toArray,List.set_cons_zero,List.set_cons_succ];rfl)) (cC (s) _ ⟨hHeld,(sT q.out),(sT l.out),(sT u.out),x.out,J.out,B.out,G.out,A.out,I.out,zzR⟩))
 ·(
 skip
 refine Kd.R_lit_step k29 _ 29 ?hg (N:=27) ?hd (xs:=([]:List (S29))) (inner:=[]) (ok:=fun _=>True) (okp:=fun _=>True) ?hr ?hp (fun _ hk=>hk) trivial (Below.refl _ _) (Nat.le_refl _) (by simp) ?_;(case hd=>rfl);(case hg=>rfl);(case hr=>first|(go_simp;done)|(go_simp;rfl));(case hp=>exact(Reps.none _ _))
 intro aq E a6 hb a0 a1
 clear a0 a1
 (first|rw[←bc.out]at a6|(simp only[Int.reduceToNat]at a6;rw[←bc.out]at a6))
 have ah:=zM (Kd.R_lower (Kd.R_newB a6 (g:=m) (o:= .cells #[.int .i64 a1_0,.int .i64 a1_1,.string a1_2,.int .i64 a1_3] 29 (0,0)) (sT l.out)) (below_size zzR))
 replace q:=sK q hb
 replace l:=sK l hb
 replace u:=sK u hb
 replace HB:=sB HB hb
 clear hb a6
 refine hK.out _ _ ⟨(blk_cell q.out 0).trans rfl,(blk_cell q.out 1).trans rfl,(blk_cell l.out 0).trans rfl,(blk_cell l.out 1).trans rfl,(blk_cell l.out 2).trans rfl,(blk_cell l.out 3).trans rfl,((HB.out.cell (zL w _ ac)).trans ac),((HB.out.cell (zL w _ ab)).trans ab),((HB.out.cell (zL w _ aa)).trans aa),((HB.out.cell (zL w _ Z)).trans Z),((HB.out.cell (zL w _ Y)).trans Y),((HB.out.cell (zL w _ X)).trans X),((HB.out.cell (zL w _ W)).trans W),((HB.out.cell (zL w _ V)).trans V),((HB.out.cell (zL w _ U)).trans U),((HB.out.cell (zL w _ T)).trans T)⟩ (fun hHeld=>?_)
 clear hK K
 refine norm_ (a':=?_) ?_ ?_
 rotate_left
 ·(
 show Act.put _ (some 27) _=_
 simp only[zP,i64_w,i32_w]
 rfl)
 exact norm_ (by first|(simp only[putAll,Act.put,List.setIfInBounds_toArray,List.set_cons_zero,List.set_cons_succ];done)|(simp only[putAll,Act.put,List.setIfInBounds_toArray,List.set_cons_zero,List.set_cons_succ];rfl)) (cD (aq,s) _ ⟨hHeld,(by(with_reducible repeat(first|apply Kd.R_alloc|apply Kd.R_drewN|apply Kd.R_drew));exact Kd.R_mono ah.out (fun _ hk=>hk.2)),(sT q.out),(sT l.out),(sT u.out),x.out,J.out,B.out,G.out,A.out,I.out,zzR⟩))))
 ·(
 skip
 rintro aq E ⟨aE,am,an,ao,au⟩
 have ah:Aside0 (Kd.R k29 29 E w.heap.size (fun D=>D≠m) aq y393):=⟨am⟩
 replace q:Aside0 (E.heap[y]?=some (.cells #[.int .i64 a0_0,.slice (some c) l0_1.length c0_1] 34 (0,0))):=⟨an⟩
 replace l:Aside0 (E.heap[m]?=some (.cells #[.int .i64 a1_0,.int .i64 a1_1,.string a1_2,.int .i64 a1_3] 29 (0,0))):=⟨ao⟩
 replace HB:Aside0 (Below w.heap.size w E):=⟨au⟩
 clear am an ao au
 have hHeld:E.cell? ⟨y,0,none⟩=some (.int .i64 a0_0)∧E.cell? ⟨y,1,none⟩=some (.slice (some c) l0_1.length c0_1)∧E.cell? ⟨m,0,none⟩=some (.int .i64 a1_0)∧E.cell? ⟨m,1,none⟩=some (.int .i64 a1_1)∧E.cell? ⟨m,2,none⟩=some (.string a1_2)∧E.cell? ⟨m,3,none⟩=some (.int .i64 a1_3)∧E.cell? (c.add ((a).toNat*10))=some (.int .i64 ((rd_T56 l0_1 a).f0))∧E.cell? ⟨(c.add ((a).toNat*10)).block,(c.add ((a).toNat*10)).off+1,none⟩=some (.int .i64 ((rd_T56 l0_1 a).f1))∧E.cell? ⟨(c.add ((a).toNat*10)).block,(c.add ((a).toNat*10)).off+2,none⟩=some (.string ((rd_T56 l0_1 a).f2))∧E.cell? ⟨(c.add ((a).toNat*10)).block,(c.add ((a).toNat*10)).off+3,none⟩=some (.int .i64 ((rd_T56 l0_1 a).f3))∧E.cell? ⟨(c.add ((a).toNat*10)).block,(c.add ((a).toNat*10)).off+4,none⟩=some (.slice ae ((rd_T56 l0_1 a).f4).length P)∧E.cell? ⟨(c.add ((a).toNat*10)).block,(c.add ((a).toNat*10)).off+5,none⟩=some (.slice ag ((rd_T56 l0_1 a).f5).length Q)∧E.cell? ⟨(c.add ((a).toNat*10)).block,(c.add ((a).toNat*10)).off+6,none⟩=some (.int .i64 ((rd_T56 l0_1 a).f6.f0))∧E.cell? ⟨(c.add ((a).toNat*10)).block,(c.add ((a).toNat*10)).off+7,none⟩=some (.int .i64 ((rd_T56 l0_1 a).f6.f1))∧E.cell? ⟨(c.add ((a).toNat*10)).block,(c.add ((a).toNat*10)).off+8,none⟩=some (.string ((rd_T56 l0_1 a).f6.f2))∧E.cell? ⟨(c.add ((a).toNat*10)).block,(c.add ((a).toNat*10)).off+9,none⟩=some (.int .i64 ((rd_T56 l0_1 a).f6.f3)):=aE
 refine norm_ (a':=?_) ?_ ?_
 rotate_left
 ·(
 simp only[putAll,Act.put,List.setIfInBounds_toArray,List.set_cons_zero,List.set_cons_succ]
 rfl)
 refine two_ (i:=4) (j:=8) (Ni:=some 24) (Nj:=some 5) (bN 11 159) (bN 11 399) rfl rfl rfl rfl (two_of ar.out (by kernel_rfl)) (by decide) (by decide) (fun K hK=>?_) (fun K hK=>?_)
 ·(
 skip
 refine goes_ Try.func53 (by kernel_rfl) rfl #[.agg #[.int .i64 a0_0,.slice (some c) l0_1.length c0_1],.agg #[.int .i64 a1_0,.int .i64 a1_1,.string a1_2,.int .i64 a1_3]] (by rfl) rfl rfl (by(try simp only[List.map_toArray,List.map_cons,List.map_nil]);first|done|rfl|(simp only[List.length_drop,List.length_take];rfl)) ?_
 with_reducible refine(impl_Heap_object.calls kj2 a0_0 _ _ l0_1 a1_0 a1_1 a1_2 a1_3 a _ ?side1 ?side2 bS.out).mono ?_
 (case side1=>exact sD (zC bj.out HB.out))
 (case side2=>exact br.out)
 rintro e F ⟨rfl,hb⟩
 refine⟨_,rfl,?_⟩
 replace ah:=zM (Kd.R_below (sE ah.out) hb)
 replace q:=sK q hb
 replace l:=sK l hb
 replace HB:=sB HB hb
 (try clear hb)
 (try clear hb2)
 (try clear hk)
 (try clear hi)
 refine hK.out _ _ ⟨(blk_cell q.out 0).trans rfl,(blk_cell q.out 1).trans rfl,(blk_cell l.out 0).trans rfl,(blk_cell l.out 1).trans rfl,(blk_cell l.out 2).trans rfl,(blk_cell l.out 3).trans rfl,((HB.out.cell (zL w _ ac)).trans ac),((HB.out.cell (zL w _ ab)).trans ab),((HB.out.cell (zL w _ aa)).trans aa),((HB.out.cell (zL w _ Z)).trans Z),((HB.out.cell (zL w _ Y)).trans Y),((HB.out.cell (zL w _ X)).trans X),((HB.out.cell (zL w _ W)).trans W),((HB.out.cell (zL w _ V)).trans V),((HB.out.cell (zL w _ U)).trans U),((HB.out.cell (zL w _ T)).trans T)⟩ (fun hHeld=>?_)
 clear hK K
 refine norm_ (a':=?_) ?_ ?_
 rotate_left
 ·(
 show Act.put _ (some 24) _=_
 simp only[zP,i64_w,i32_w]
 rfl)
 refine pure_ (i:=5) (N:=some 25) (v:=?_) (a':=?_) (bN 11 191) rfl rfl (any_of ar.out (by kernel_rfl)) (fun _ _ _ h=>h) (Or.inl ⟨by rfl,?_⟩) ?_ ?_
 rotate_left
 ·(
 intro w'
 go_simp
 with_reducible rfl)
 rotate_left
 ·(
 simp only[zP,i64_w,i32_w]
 rfl)
 refine take_ (i:=6) (N:=some 26) (v:=?_) (a':=?_) (bN 11 255) rfl rfl (take_ofW ar.out bk.out (by kernel_rfl)) (fun _ _ _ h=>h) (Or.inl ⟨by rfl,?_⟩) hHeld ?_ ?_
 rotate_left
 ·(
 rintro w' ⟨s0,s1,s2,s3,s4,s5,s6,s7,s8,s9,bs,bt,bu,bv,bw,bx⟩
 go_simp
 with_reducible rfl)
 rotate_left
 ·(
 simp only[zP,i64_w,i32_w]
 rfl)
 exact norm_ (by first|(simp only[putAll,Act.put,List.setIfInBounds_toArray,List.set_cons_zero,List.set_cons_succ];done)|(simp only[putAll,Act.put,List.setIfInBounds_toArray,List.set_cons_zero,List.set_cons_succ];rfl)) (cB (aq) _ ⟨hHeld,(sE ah.out),(sT q.out),(sT l.out),zzR⟩))
 ·(
 skip
 refine box_step ?hg (N:=5) ?hd (cs:= #[.int .i64 0,.int .i64 0,.string (⟨#[]⟩:ByteArray),.int .i64 0,.slice none 0 0,.slice none 0 0,.int .i64 0,.int .i64 0,.string (⟨#[]⟩:ByteArray),.int .i64 0]) (t:=56) ?hr ?_;(case hd=>rfl);(case hg=>rfl);(case hr=>first|(go_simp;done)|(go_simp;rfl))
 intro s hg F hbox hb
 replace ah:=zM (Kd.R_below (sE ah.out) hb)
 have u:=zM (hbox)
 have x:=sG HB hg
 have J:=sG HB hg
 replace HB:=sB HB hb
 have B:=sN q hg
 have G:=sM q hg
 replace q:=sK q hb
 have A:=sN l hg
 have I:=sM l hg
 replace l:=sK l hb
 clear hb hbox hg
 refine hK.out _ _ ⟨(blk_cell q.out 0).trans rfl,(blk_cell q.out 1).trans rfl,(blk_cell l.out 0).trans rfl,(blk_cell l.out 1).trans rfl,(blk_cell l.out 2).trans rfl,(blk_cell l.out 3).trans rfl,((HB.out.cell (zL w _ ac)).trans ac),((HB.out.cell (zL w _ ab)).trans ab),((HB.out.cell (zL w _ aa)).trans aa),((HB.out.cell (zL w _ Z)).trans Z),((HB.out.cell (zL w _ Y)).trans Y),((HB.out.cell (zL w _ X)).trans X),((HB.out.cell (zL w _ W)).trans W),((HB.out.cell (zL w _ V)).trans V),((HB.out.cell (zL w _ U)).trans U),((HB.out.cell (zL w _ T)).trans T)⟩ (fun hHeld=>?_)
 clear hK K
 refine norm_ (a':=?_) ?_ ?_
 rotate_left
 ·(
 show Act.put _ (some 5) _=_
 simp only[zP,i64_w,i32_w]
 rfl)
 exact norm_ (by first|(simp only[putAll,Act.put,List.setIfInBounds_toArray,List.set_cons_zero,List.set_cons_succ];done)|(simp only[putAll,Act.put,List.setIfInBounds_toArray,List.set_cons_zero,List.set_cons_succ];rfl)) (cD (aq,s) _ ⟨hHeld,(sE ah.out),(sT q.out),(sT l.out),(sT u.out),x.out,J.out,B.out,G.out,A.out,I.out,zzR⟩))))
 ·(
 skip
 rintro _ L ⟨aE,am,an,ao⟩
 replace q:Aside0 (L.heap[y]?=some (.cells #[.int .i64 a0_0,.slice (some c) l0_1.length c0_1] 34 (0,0))):=⟨am⟩
 replace l:Aside0 (L.heap[m]?=some (.cells #[.int .i64 a1_0,.int .i64 a1_1,.string a1_2,.int .i64 a1_3] 29 (0,0))):=⟨an⟩
 replace HB:Aside0 (Below w.heap.size w L):=⟨ao⟩
 clear am an ao
 have hHeld:L.cell? ⟨y,0,none⟩=some (.int .i64 a0_0)∧L.cell? ⟨y,1,none⟩=some (.slice (some c) l0_1.length c0_1)∧L.cell? ⟨m,0,none⟩=some (.int .i64 a1_0)∧L.cell? ⟨m,1,none⟩=some (.int .i64 a1_1)∧L.cell? ⟨m,2,none⟩=some (.string a1_2)∧L.cell? ⟨m,3,none⟩=some (.int .i64 a1_3)∧L.cell? (c.add ((a).toNat*10))=some (.int .i64 ((rd_T56 l0_1 a).f0))∧L.cell? ⟨(c.add ((a).toNat*10)).block,(c.add ((a).toNat*10)).off+1,none⟩=some (.int .i64 ((rd_T56 l0_1 a).f1))∧L.cell? ⟨(c.add ((a).toNat*10)).block,(c.add ((a).toNat*10)).off+2,none⟩=some (.string ((rd_T56 l0_1 a).f2))∧L.cell? ⟨(c.add ((a).toNat*10)).block,(c.add ((a).toNat*10)).off+3,none⟩=some (.int .i64 ((rd_T56 l0_1 a).f3))∧L.cell? ⟨(c.add ((a).toNat*10)).block,(c.add ((a).toNat*10)).off+4,none⟩=some (.slice ae ((rd_T56 l0_1 a).f4).length P)∧L.cell? ⟨(c.add ((a).toNat*10)).block,(c.add ((a).toNat*10)).off+5,none⟩=some (.slice ag ((rd_T56 l0_1 a).f5).length Q)∧L.cell? ⟨(c.add ((a).toNat*10)).block,(c.add ((a).toNat*10)).off+6,none⟩=some (.int .i64 ((rd_T56 l0_1 a).f6.f0))∧L.cell? ⟨(c.add ((a).toNat*10)).block,(c.add ((a).toNat*10)).off+7,none⟩=some (.int .i64 ((rd_T56 l0_1 a).f6.f1))∧L.cell? ⟨(c.add ((a).toNat*10)).block,(c.add ((a).toNat*10)).off+8,none⟩=some (.string ((rd_T56 l0_1 a).f6.f2))∧L.cell? ⟨(c.add ((a).toNat*10)).block,(c.add ((a).toNat*10)).off+9,none⟩=some (.int .i64 ((rd_T56 l0_1 a).f6.f3)):=aE
 refine norm_ (a':=?_) ?_ ?_
 rotate_left
 ·(
 simp only[putAll,Act.put,List.setIfInBounds_toArray,List.set_cons_zero,List.set_cons_succ]
 rfl)
 refine two_ (i:=7) (j:=8) (Ni:=some 27) (Nj:=some 5) (bN 11 255) (bN 11 383) rfl rfl rfl rfl (two_of ar.out (by kernel_rfl)) (by decide) (by decide) (fun K hK=>?_) (fun K hK=>?_)
 ·(
 skip
 refine Kd.R_lit_step k29 _ 29 ?hg (N:=27) ?hd (xs:=([]:List (S29))) (inner:=[]) (ok:=fun _=>True) (okp:=fun _=>True) ?hr ?hp (fun _ hk=>hk) trivial (Below.refl _ _) (Nat.le_refl _) (by simp) ?_;(case hd=>rfl);(case hg=>rfl);(case hr=>first|(go_simp;done)|(go_simp;rfl));(case hp=>exact(Reps.none _ _))
 intro aq E a6 hb a0 a1
 clear a0 a1
 (first|rw[←bc.out]at a6|(simp only[Int.reduceToNat]at a6;rw[←bc.out]at a6))
 have ah:=zM (Kd.R_lower (Kd.R_newB a6 (g:=m) (o:= .cells #[.int .i64 a1_0,.int .i64 a1_1,.string a1_2,.int .i64 a1_3] 29 (0,0)) (sT l.out)) (below_size zzR))
 replace q:=sK q hb
 replace l:=sK l hb
 replace HB:=sB HB hb
 clear hb a6
 refine hK.out _ _ ⟨(blk_cell q.out 0).trans rfl,(blk_cell q.out 1).trans rfl,(blk_cell l.out 0).trans rfl,(blk_cell l.out 1).trans rfl,(blk_cell l.out 2).trans rfl,(blk_cell l.out 3).trans rfl,((HB.out.cell (zL w _ ac)).trans ac),((HB.out.cell (zL w _ ab)).trans ab),((HB.out.cell (zL w _ aa)).trans aa),((HB.out.cell (zL w _ Z)).trans Z),((HB.out.cell (zL w _ Y)).trans Y),((HB.out.cell (zL w _ X)).trans X),((HB.out.cell (zL w _ W)).trans W),((HB.out.cell (zL w _ V)).trans V),((HB.out.cell (zL w _ U)).trans U),((HB.out.cell (zL w _ T)).trans T)⟩ (fun hHeld=>?_)
 clear hK K
 refine norm_ (a':=?_) ?_ ?_
 rotate_left
 ·(
 show Act.put _ (some 27) _=_
 simp only[zP,i64_w,i32_w]
 rfl)
 exact norm_ (by first|(simp only[putAll,Act.put,List.setIfInBounds_toArray,List.set_cons_zero,List.set_cons_succ];done)|(simp only[putAll,Act.put,List.setIfInBounds_toArray,List.set_cons_zero,List.set_cons_succ];rfl)) (cB (aq) _ ⟨hHeld,(by(with_reducible repeat(first|apply Kd.R_alloc|apply Kd.R_drewN|apply Kd.R_drew));exact Kd.R_mono ah.out (fun _ hk=>hk.2)),(sT q.out),(sT l.out),zzR⟩))
 ·(
 skip
 refine box_step ?hg (N:=5) ?hd (cs:= #[.int .i64 0,.int .i64 0,.string (⟨#[]⟩:ByteArray),.int .i64 0,.slice none 0 0,.slice none 0 0,.int .i64 0,.int .i64 0,.string (⟨#[]⟩:ByteArray),.int .i64 0]) (t:=56) ?hr ?_;(case hd=>rfl);(case hg=>rfl);(case hr=>first|(go_simp;done)|(go_simp;rfl))
 intro s hg E hbox hb
 have u:=zM (hbox)
 have x:=sG HB hg
 have J:=sG HB hg
 replace HB:=sB HB hb
 have B:=sN q hg
 have G:=sM q hg
 replace q:=sK q hb
 have A:=sN l hg
 have I:=sM l hg
 replace l:=sK l hb
 clear hb hbox hg
 refine hK.out _ _ ⟨(blk_cell q.out 0).trans rfl,(blk_cell q.out 1).trans rfl,(blk_cell l.out 0).trans rfl,(blk_cell l.out 1).trans rfl,(blk_cell l.out 2).trans rfl,(blk_cell l.out 3).trans rfl,((HB.out.cell (zL w _ ac)).trans ac),((HB.out.cell (zL w _ ab)).trans ab),((HB.out.cell (zL w _ aa)).trans aa),((HB.out.cell (zL w _ Z)).trans Z),((HB.out.cell (zL w _ Y)).trans Y),((HB.out.cell (zL w _ X)).trans X),((HB.out.cell (zL w _ W)).trans W),((HB.out.cell (zL w _ V)).trans V),((HB.out.cell (zL w _ U)).trans U),((HB.out.cell (zL w _ T)).trans T)⟩ (fun hHeld=>?_)
 clear hK K
 refine norm_ (a':=?_) ?_ ?_
 rotate_left
 ·(
 show Act.put _ (some 5) _=_
 simp only[zP,i64_w,i32_w]
 rfl)
 exact norm_ (by first|(simp only[putAll,Act.put,List.setIfInBounds_toArray,List.set_cons_zero,List.set_cons_succ];done)|(simp only[putAll,Act.put,List.setIfInBounds_toArray,List.set_cons_zero,List.set_cons_succ];rfl)) (cC (s) _ ⟨hHeld,(sT q.out),(sT l.out),(sT u.out),x.out,J.out,B.out,G.out,A.out,I.out,zzR⟩))))
 ·(
 skip
 rintro⟨aq,s⟩ F ⟨aE,am,an,ao,au,aG,aH,aI,aJ,aK,aM,bi⟩
 have ah:Aside0 (Kd.R k29 29 F w.heap.size (fun D=>D≠m) aq y393):=⟨am⟩
 replace q:Aside0 (F.heap[y]?=some (.cells #[.int .i64 a0_0,.slice (some c) l0_1.length c0_1] 34 (0,0))):=⟨an⟩
 replace l:Aside0 (F.heap[m]?=some (.cells #[.int .i64 a1_0,.int .i64 a1_1,.string a1_2,.int .i64 a1_3] 29 (0,0))):=⟨ao⟩
 have u:Aside0 (F.heap[s]?=some (.cells #[.int .i64 0,.int .i64 0,.string (⟨#[]⟩:ByteArray),.int .i64 0,.slice none 0 0,.slice none 0 0,.int .i64 0,.int .i64 0,.string (⟨#[]⟩:ByteArray),.int .i64 0] 56 (0,0))):=⟨au⟩
 have x:Aside0 (w.heap.size≤s):=⟨aG⟩
 have J:Aside0 (w.heap.size≤s):=⟨aH⟩
 have B:Aside0 (y≠s):=⟨aI⟩
 have G:Aside0 (s≠y):=⟨aJ⟩
 have A:Aside0 (m≠s):=⟨aK⟩
 have I:Aside0 (s≠m):=⟨aM⟩
 replace HB:Aside0 (Below w.heap.size w F):=⟨bi⟩
 clear am an ao au aG aH aI aJ aK aM bi
 have hHeld:F.cell? ⟨y,0,none⟩=some (.int .i64 a0_0)∧F.cell? ⟨y,1,none⟩=some (.slice (some c) l0_1.length c0_1)∧F.cell? ⟨m,0,none⟩=some (.int .i64 a1_0)∧F.cell? ⟨m,1,none⟩=some (.int .i64 a1_1)∧F.cell? ⟨m,2,none⟩=some (.string a1_2)∧F.cell? ⟨m,3,none⟩=some (.int .i64 a1_3)∧F.cell? (c.add ((a).toNat*10))=some (.int .i64 ((rd_T56 l0_1 a).f0))∧F.cell? ⟨(c.add ((a).toNat*10)).block,(c.add ((a).toNat*10)).off+1,none⟩=some (.int .i64 ((rd_T56 l0_1 a).f1))∧F.cell? ⟨(c.add ((a).toNat*10)).block,(c.add ((a).toNat*10)).off+2,none⟩=some (.string ((rd_T56 l0_1 a).f2))∧F.cell? ⟨(c.add ((a).toNat*10)).block,(c.add ((a).toNat*10)).off+3,none⟩=some (.int .i64 ((rd_T56 l0_1 a).f3))∧F.cell? ⟨(c.add ((a).toNat*10)).block,(c.add ((a).toNat*10)).off+4,none⟩=some (.slice ae ((rd_T56 l0_1 a).f4).length P)∧F.cell? ⟨(c.add ((a).toNat*10)).block,(c.add ((a).toNat*10)).off+5,none⟩=some (.slice ag ((rd_T56 l0_1 a).f5).length Q)∧F.cell? ⟨(c.add ((a).toNat*10)).block,(c.add ((a).toNat*10)).off+6,none⟩=some (.int .i64 ((rd_T56 l0_1 a).f6.f0))∧F.cell? ⟨(c.add ((a).toNat*10)).block,(c.add ((a).toNat*10)).off+7,none⟩=some (.int .i64 ((rd_T56 l0_1 a).f6.f1))∧F.cell? ⟨(c.add ((a).toNat*10)).block,(c.add ((a).toNat*10)).off+8,none⟩=some (.string ((rd_T56 l0_1 a).f6.f2))∧F.cell? ⟨(c.add ((a).toNat*10)).block,(c.add ((a).toNat*10)).off+9,none⟩=some (.int .i64 ((rd_T56 l0_1 a).f6.f3)):=aE
 refine norm_ (a':=?_) ?_ ?_
 rotate_left
 ·(
 simp only[putAll,Act.put,List.setIfInBounds_toArray,List.set_cons_zero,List.set_cons_succ]
 rfl)
 refine one_ (i:=4) (N:=some 24) (bN 11 415) rfl rfl (one_of ar.out (by kernel_rfl)) (by decide) (fun K hK=>?_)
 refine goes_ Try.func53 (by kernel_rfl) rfl #[.agg #[.int .i64 a0_0,.slice (some c) l0_1.length c0_1],.agg #[.int .i64 a1_0,.int .i64 a1_1,.string a1_2,.int .i64 a1_3]] (by rfl) rfl rfl (by(try simp only[List.map_toArray,List.map_cons,List.map_nil]);first|done|rfl|(simp only[List.length_drop,List.length_take];rfl)) ?_
 with_reducible refine(impl_Heap_object.calls kj2 a0_0 _ _ l0_1 a1_0 a1_1 a1_2 a1_3 a _ ?side1 ?side2 bS.out).mono ?_
 (case side1=>exact sD (zC bj.out HB.out))
 (case side2=>exact br.out)
 rintro e af ⟨rfl,hb⟩
 refine⟨_,rfl,?_⟩
 replace ah:=zM (Kd.R_below (sE ah.out) hb)
 replace q:=sK q hb
 replace l:=sK l hb
 replace u:=sK u hb
 replace HB:=sB HB hb
 (try clear hb)
 (try clear hb2)
 (try clear hk)
 (try clear hi)
 refine hK.out _ _ ⟨(blk_cell q.out 0).trans rfl,(blk_cell q.out 1).trans rfl,(blk_cell l.out 0).trans rfl,(blk_cell l.out 1).trans rfl,(blk_cell l.out 2).trans rfl,(blk_cell l.out 3).trans rfl,((HB.out.cell (zL w _ ac)).trans ac),((HB.out.cell (zL w _ ab)).trans ab),((HB.out.cell (zL w _ aa)).trans aa),((HB.out.cell (zL w _ Z)).trans Z),((HB.out.cell (zL w _ Y)).trans Y),((HB.out.cell (zL w _ X)).trans X),((HB.out.cell (zL w _ W)).trans W),((HB.out.cell (zL w _ V)).trans V),((HB.out.cell (zL w _ U)).trans U),((HB.out.cell (zL w _ T)).trans T)⟩ (fun hHeld=>?_)
 clear hK K
 refine norm_ (a':=?_) ?_ ?_
 rotate_left
 ·(
 show Act.put _ (some 24) _=_
 simp only[zP,i64_w,i32_w]
 rfl)
 refine pure_ (i:=5) (N:=some 25) (v:=?_) (a':=?_) (bN 11 447) rfl rfl (any_of ar.out (by kernel_rfl)) (fun _ _ _ h=>h) (Or.inl ⟨by rfl,?_⟩) ?_ ?_
 rotate_left
 ·(
 intro w'
 go_simp
 with_reducible rfl)
 rotate_left
 ·(
 simp only[zP,i64_w,i32_w]
 rfl)
 refine take_ (i:=6) (N:=some 26) (v:=?_) (a':=?_) (bN 11 511) rfl rfl (take_ofW ar.out bk.out (by kernel_rfl)) (fun _ _ _ h=>h) (Or.inl ⟨by rfl,?_⟩) hHeld ?_ ?_
 rotate_left
 ·(
 rintro w' ⟨s0,s1,s2,s3,s4,s5,s6,s7,s8,s9,bs,bt,bu,bv,bw,bx⟩
 go_simp
 with_reducible rfl)
 rotate_left
 ·(
 simp only[zP,i64_w,i32_w]
 rfl)
 exact norm_ (by first|(simp only[putAll,Act.put,List.setIfInBounds_toArray,List.set_cons_zero,List.set_cons_succ];done)|(simp only[putAll,Act.put,List.setIfInBounds_toArray,List.set_cons_zero,List.set_cons_succ];rfl)) (cg (aq,s) _ ⟨hHeld,(sE ah.out),(sT q.out),(sT l.out),(sT u.out),x.out,J.out,B.out,G.out,A.out,I.out,zzR⟩)))
 ·(
 skip
 rintro s E ⟨aE,am,an,ao,au,aG,aH,aI,aJ,aK,aM⟩
 replace q:Aside0 (E.heap[y]?=some (.cells #[.int .i64 a0_0,.slice (some c) l0_1.length c0_1] 34 (0,0))):=⟨am⟩
 replace l:Aside0 (E.heap[m]?=some (.cells #[.int .i64 a1_0,.int .i64 a1_1,.string a1_2,.int .i64 a1_3] 29 (0,0))):=⟨an⟩
 have u:Aside0 (E.heap[s]?=some (.cells #[.int .i64 0,.int .i64 0,.string (⟨#[]⟩:ByteArray),.int .i64 0,.slice none 0 0,.slice none 0 0,.int .i64 0,.int .i64 0,.string (⟨#[]⟩:ByteArray),.int .i64 0] 56 (0,0))):=⟨ao⟩
 have x:Aside0 (w.heap.size≤s):=⟨au⟩
 have J:Aside0 (w.heap.size≤s):=⟨aG⟩
 have B:Aside0 (y≠s):=⟨aH⟩
 have G:Aside0 (s≠y):=⟨aI⟩
 have A:Aside0 (m≠s):=⟨aJ⟩
 have I:Aside0 (s≠m):=⟨aK⟩
 replace HB:Aside0 (Below w.heap.size w E):=⟨aM⟩
 clear am an ao au aG aH aI aJ aK aM
 have hHeld:E.cell? ⟨y,0,none⟩=some (.int .i64 a0_0)∧E.cell? ⟨y,1,none⟩=some (.slice (some c) l0_1.length c0_1)∧E.cell? ⟨m,0,none⟩=some (.int .i64 a1_0)∧E.cell? ⟨m,1,none⟩=some (.int .i64 a1_1)∧E.cell? ⟨m,2,none⟩=some (.string a1_2)∧E.cell? ⟨m,3,none⟩=some (.int .i64 a1_3)∧E.cell? (c.add ((a).toNat*10))=some (.int .i64 ((rd_T56 l0_1 a).f0))∧E.cell? ⟨(c.add ((a).toNat*10)).block,(c.add ((a).toNat*10)).off+1,none⟩=some (.int .i64 ((rd_T56 l0_1 a).f1))∧E.cell? ⟨(c.add ((a).toNat*10)).block,(c.add ((a).toNat*10)).off+2,none⟩=some (.string ((rd_T56 l0_1 a).f2))∧E.cell? ⟨(c.add ((a).toNat*10)).block,(c.add ((a).toNat*10)).off+3,none⟩=some (.int .i64 ((rd_T56 l0_1 a).f3))∧E.cell? ⟨(c.add ((a).toNat*10)).block,(c.add ((a).toNat*10)).off+4,none⟩=some (.slice ae ((rd_T56 l0_1 a).f4).length P)∧E.cell? ⟨(c.add ((a).toNat*10)).block,(c.add ((a).toNat*10)).off+5,none⟩=some (.slice ag ((rd_T56 l0_1 a).f5).length Q)∧E.cell? ⟨(c.add ((a).toNat*10)).block,(c.add ((a).toNat*10)).off+6,none⟩=some (.int .i64 ((rd_T56 l0_1 a).f6.f0))∧E.cell? ⟨(c.add ((a).toNat*10)).block,(c.add ((a).toNat*10)).off+7,none⟩=some (.int .i64 ((rd_T56 l0_1 a).f6.f1))∧E.cell? ⟨(c.add ((a).toNat*10)).block,(c.add ((a).toNat*10)).off+8,none⟩=some (.string ((rd_T56 l0_1 a).f6.f2))∧E.cell? ⟨(c.add ((a).toNat*10)).block,(c.add ((a).toNat*10)).off+9,none⟩=some (.int .i64 ((rd_T56 l0_1 a).f6.f3)):=aE
 refine norm_ (a':=?_) ?_ ?_
 rotate_left
 ·(
 simp only[putAll,Act.put,List.setIfInBounds_toArray,List.set_cons_zero,List.set_cons_succ]
 rfl)
 refine two_ (i:=7) (j:=9) (Ni:=some 27) (Nj:=none) (bN 11 511) (bN 11 895) rfl rfl rfl rfl (two_of ar.out (by kernel_rfl)) (by decide) (by decide) (fun K hK=>?_) (fun K hK=>?_)
 ·(
 skip
 refine Kd.R_lit_step k29 _ 29 ?hg (N:=27) ?hd (xs:=([]:List (S29))) (inner:=[]) (ok:=fun _=>True) (okp:=fun _=>True) ?hr ?hp (fun _ hk=>hk) trivial (Below.refl _ _) (Nat.le_refl _) (by simp) ?_;(case hd=>rfl);(case hg=>rfl);(case hr=>first|(go_simp;done)|(go_simp;rfl));(case hp=>exact(Reps.none _ _))
 intro aq F bG hb a0 a1
 clear a0 a1
 (first|rw[←bc.out]at bG|(simp only[Int.reduceToNat]at bG;rw[←bc.out]at bG))
 have ah:=zM (Kd.R_lower (Kd.R_newB bG (g:=m) (o:= .cells #[.int .i64 a1_0,.int .i64 a1_1,.string a1_2,.int .i64 a1_3] 29 (0,0)) (sT l.out)) (below_size zzR))
 replace q:=sK q hb
 replace l:=sK l hb
 replace u:=sK u hb
 replace HB:=sB HB hb
 clear hb bG
 refine hK.out _ _ ⟨(blk_cell q.out 0).trans rfl,(blk_cell q.out 1).trans rfl,(blk_cell l.out 0).trans rfl,(blk_cell l.out 1).trans rfl,(blk_cell l.out 2).trans rfl,(blk_cell l.out 3).trans rfl,((HB.out.cell (zL w _ ac)).trans ac),((HB.out.cell (zL w _ ab)).trans ab),((HB.out.cell (zL w _ aa)).trans aa),((HB.out.cell (zL w _ Z)).trans Z),((HB.out.cell (zL w _ Y)).trans Y),((HB.out.cell (zL w _ X)).trans X),((HB.out.cell (zL w _ W)).trans W),((HB.out.cell (zL w _ V)).trans V),((HB.out.cell (zL w _ U)).trans U),((HB.out.cell (zL w _ T)).trans T)⟩ (fun hHeld=>?_)
 clear hK K
 refine norm_ (a':=?_) ?_ ?_
 rotate_left
 ·(
 show Act.put _ (some 27) _=_
 simp only[zP,i64_w,i32_w]
 rfl)
 exact norm_ (by first|(simp only[putAll,Act.put,List.setIfInBounds_toArray,List.set_cons_zero,List.set_cons_succ];done)|(simp only[putAll,Act.put,List.setIfInBounds_toArray,List.set_cons_zero,List.set_cons_succ];rfl)) (cg (aq,s) _ ⟨hHeld,(by(with_reducible repeat(first|apply Kd.R_alloc|apply Kd.R_drewN|apply Kd.R_drew));exact Kd.R_mono ah.out (fun _ hk=>hk.2)),(sT q.out),(sT l.out),(sT u.out),x.out,J.out,B.out,G.out,A.out,I.out,zzR⟩))
 ·(
 skip
 have eY:E.cell? ⟨s,0,none⟩=some (.int .i64 0):=(blk_cell u.out 0).trans rfl
 have eZ:=blk_frozen u.out 0
 have e0:=B.out
 have e1:=A.out
 have e2:=G.out
 have e3:=I.out
 have e4:E.cell? ⟨s,1,none⟩=some (.int .i64 0):=(blk_cell u.out 1).trans rfl
 have e5:=blk_frozen u.out 1
 have e6:=B.out
 have e7:=A.out
 have e8:=G.out
 have e9:=I.out
 have cP:E.cell? ⟨s,2,none⟩=some (.string (⟨#[]⟩:ByteArray)):=(blk_cell u.out 2).trans rfl
 have cQ:=blk_frozen u.out 2
 have cR:=B.out
 have cS:=A.out
 have cT:=G.out
 have cU:=I.out
 have cV:E.cell? ⟨s,3,none⟩=some (.int .i64 0):=(blk_cell u.out 3).trans rfl
 have cW:=blk_frozen u.out 3
 have cX:=B.out
 have cY:=A.out
 have cZ:=G.out
 have c0:=I.out
 have c1:E.cell? ⟨s,4,none⟩=some (.slice none 0 0):=(blk_cell u.out 4).trans rfl
 have c2:=blk_frozen u.out 4
 have c3:=B.out
 have c5:=A.out
 have c6:=G.out
 have c8:=I.out
 have c9:E.cell? ⟨s,5,none⟩=some (.slice none 0 0):=(blk_cell u.out 5).trans rfl
 have da:=blk_frozen u.out 5
 have db:=B.out
 have dc:=A.out
 have dd:=G.out
 have de:=I.out
 have df:E.cell? ⟨s,6,none⟩=some (.int .i64 0):=(blk_cell u.out 6).trans rfl
 have dg:=blk_frozen u.out 6
 have dh:=B.out
 have di:=A.out
 have dj:=G.out
 have dk:=I.out
 have dl:E.cell? ⟨s,7,none⟩=some (.int .i64 0):=(blk_cell u.out 7).trans rfl
 have dm:=blk_frozen u.out 7
 have dn:=B.out
 have dp:=A.out
 have dq:=G.out
 have dr:=I.out
 have dt:E.cell? ⟨s,8,none⟩=some (.string (⟨#[]⟩:ByteArray)):=(blk_cell u.out 8).trans rfl
 have du:=blk_frozen u.out 8
 have dv:=B.out
 have dw:=A.out
 have dx:=G.out
 have dy:=I.out
 have dz:E.cell? ⟨s,9,none⟩=some (.int .i64 0):=(blk_cell u.out 9).trans rfl
 have dA:=blk_frozen u.out 9
 have dB:=B.out
 have dC:=A.out
 have dD:=G.out
 have dE:=I.out
 refine skip_ (w1:=?_) (by rfl) rfl ?_ ?_
 rotate_left
 ·(
 go_simp
 rfl)
 refine hK.out _ _ ⟨(sQ10 (g:=s) B.out (hHeld.1)),(sQ10 (g:=s) B.out (hHeld.2.1)),(sQ10 (g:=s) A.out (hHeld.2.2.1)),(sQ10 (g:=s) A.out (hHeld.2.2.2.1)),(sQ10 (g:=s) A.out (hHeld.2.2.2.2.1)),(sQ10 (g:=s) A.out (hHeld.2.2.2.2.2.1)),(sQ10 (g:=s) (by first|exact zzU ac x.out|(rw[add_block];exact zzU ac x.out)|(show(Addr.add _ _).block≠_;rw[add_block];exact zzU ac x.out)|(dsimp only;exact zzU ac x.out)) (hHeld.2.2.2.2.2.2.1)),(sQ10 (g:=s) (by first|exact zzU ab x.out|(rw[add_block];exact zzU ab x.out)|(show(Addr.add _ _).block≠_;rw[add_block];exact zzU ab x.out)|(dsimp only;exact zzU ab x.out)) (hHeld.2.2.2.2.2.2.2.1)),(sQ10 (g:=s) (by first|exact zzU aa x.out|(rw[add_block];exact zzU aa x.out)|(show(Addr.add _ _).block≠_;rw[add_block];exact zzU aa x.out)|(dsimp only;exact zzU aa x.out)) (hHeld.2.2.2.2.2.2.2.2.1)),(sQ10 (g:=s) (by first|exact zzU Z x.out|(rw[add_block];exact zzU Z x.out)|(show(Addr.add _ _).block≠_;rw[add_block];exact zzU Z x.out)|(dsimp only;exact zzU Z x.out)) (hHeld.2.2.2.2.2.2.2.2.2.1)),(sQ10 (g:=s) (by first|exact zzU Y x.out|(rw[add_block];exact zzU Y x.out)|(show(Addr.add _ _).block≠_;rw[add_block];exact zzU Y x.out)|(dsimp only;exact zzU Y x.out)) (hHeld.2.2.2.2.2.2.2.2.2.2.1)),(sQ10 (g:=s) (by first|exact zzU X x.out|(rw[add_block];exact zzU X x.out)|(show(Addr.add _ _).block≠_;rw[add_block];exact zzU X x.out)|(dsimp only;exact zzU X x.out)) (hHeld.2.2.2.2.2.2.2.2.2.2.2.1)),(sQ10 (g:=s) (by first|exact zzU W x.out|(rw[add_block];exact zzU W x.out)|(show(Addr.add _ _).block≠_;rw[add_block];exact zzU W x.out)|(dsimp only;exact zzU W x.out)) (hHeld.2.2.2.2.2.2.2.2.2.2.2.2.1)),(sQ10 (g:=s) (by first|exact zzU V x.out|(rw[add_block];exact zzU V x.out)|(show(Addr.add _ _).block≠_;rw[add_block];exact zzU V x.out)|(dsimp only;exact zzU V x.out)) (hHeld.2.2.2.2.2.2.2.2.2.2.2.2.2.1)),(sQ10 (g:=s) (by first|exact zzU U x.out|(rw[add_block];exact zzU U x.out)|(show(Addr.add _ _).block≠_;rw[add_block];exact zzU U x.out)|(dsimp only;exact zzU U x.out)) (hHeld.2.2.2.2.2.2.2.2.2.2.2.2.2.2.1)),(sQ10 (g:=s) (by first|exact zzU T x.out|(rw[add_block];exact zzU T x.out)|(show(Addr.add _ _).block≠_;rw[add_block];exact zzU T x.out)|(dsimp only;exact zzU T x.out)) (hHeld.2.2.2.2.2.2.2.2.2.2.2.2.2.2.2))⟩ (fun hHeld=>?_)
 clear hK K
 exact norm_ (by first|(simp only[putAll,Act.put,List.setIfInBounds_toArray,List.set_cons_zero,List.set_cons_succ];done)|(simp only[putAll,Act.put,List.setIfInBounds_toArray,List.set_cons_zero,List.set_cons_succ];rfl)) (cL (s) _ ⟨hHeld,(by(with_reducible repeat(first|refine blk_drewN ?_ _|refine blk_drew ?_|refine blk_alloc ?_ _));refine blk_far ?_ B.out _;(with_reducible repeat(first|refine blk_drewN ?_ _|refine blk_drew ?_|refine blk_alloc ?_ _));refine blk_far ?_ B.out _;(with_reducible repeat(first|refine blk_drewN ?_ _|refine blk_drew ?_|refine blk_alloc ?_ _));refine blk_far ?_ B.out _;(with_reducible repeat(first|refine blk_drewN ?_ _|refine blk_drew ?_|refine blk_alloc ?_ _));refine blk_far ?_ B.out _;(with_reducible repeat(first|refine blk_drewN ?_ _|refine blk_drew ?_|refine blk_alloc ?_ _));refine blk_far ?_ B.out _;(with_reducible repeat(first|refine blk_drewN ?_ _|refine blk_drew ?_|refine blk_alloc ?_ _));refine blk_far ?_ B.out _;(with_reducible repeat(first|refine blk_drewN ?_ _|refine blk_drew ?_|refine blk_alloc ?_ _));refine blk_far ?_ B.out _;(with_reducible repeat(first|refine blk_drewN ?_ _|refine blk_drew ?_|refine blk_alloc ?_ _));refine blk_far ?_ B.out _;(with_reducible repeat(first|refine blk_drewN ?_ _|refine blk_drew ?_|refine blk_alloc ?_ _));refine blk_far ?_ B.out _;(with_reducible repeat(first|refine blk_drewN ?_ _|refine blk_drew ?_|refine blk_alloc ?_ _));refine blk_far ?_ B.out _;exact sT q.out),(by(with_reducible repeat(first|refine blk_drewN ?_ _|refine blk_drew ?_|refine blk_alloc ?_ _));refine blk_far ?_ A.out _;(with_reducible repeat(first|refine blk_drewN ?_ _|refine blk_drew ?_|refine blk_alloc ?_ _));refine blk_far ?_ A.out _;(with_reducible repeat(first|refine blk_drewN ?_ _|refine blk_drew ?_|refine blk_alloc ?_ _));refine blk_far ?_ A.out _;(with_reducible repeat(first|refine blk_drewN ?_ _|refine blk_drew ?_|refine blk_alloc ?_ _));refine blk_far ?_ A.out _;(with_reducible repeat(first|refine blk_drewN ?_ _|refine blk_drew ?_|refine blk_alloc ?_ _));refine blk_far ?_ A.out _;(with_reducible repeat(first|refine blk_drewN ?_ _|refine blk_drew ?_|refine blk_alloc ?_ _));refine blk_far ?_ A.out _;(with_reducible repeat(first|refine blk_drewN ?_ _|refine blk_drew ?_|refine blk_alloc ?_ _));refine blk_far ?_ A.out _;(with_reducible repeat(first|refine blk_drewN ?_ _|refine blk_drew ?_|refine blk_alloc ?_ _));refine blk_far ?_ A.out _;(with_reducible repeat(first|refine blk_drewN ?_ _|refine blk_drew ?_|refine blk_alloc ?_ _));refine blk_far ?_ A.out _;(with_reducible repeat(first|refine blk_drewN ?_ _|refine blk_drew ?_|refine blk_alloc ?_ _));refine blk_far ?_ A.out _;exact sT l.out),(by exact sP10 (sT u.out)),x.out,J.out,B.out,G.out,A.out,I.out,zzR⟩))))
 ·(
 skip
 rintro aq F ⟨aE,am,an,ao,au⟩
 have ah:Aside0 (Kd.R k29 29 F w.heap.size (fun D=>D≠m) aq y393):=⟨am⟩
 replace q:Aside0 (F.heap[y]?=some (.cells #[.int .i64 a0_0,.slice (some c) l0_1.length c0_1] 34 (0,0))):=⟨an⟩
 replace l:Aside0 (F.heap[m]?=some (.cells #[.int .i64 a1_0,.int .i64 a1_1,.string a1_2,.int .i64 a1_3] 29 (0,0))):=⟨ao⟩
 replace HB:Aside0 (Below w.heap.size w F):=⟨au⟩
 clear am an ao au
 have hHeld:F.cell? ⟨y,0,none⟩=some (.int .i64 a0_0)∧F.cell? ⟨y,1,none⟩=some (.slice (some c) l0_1.length c0_1)∧F.cell? ⟨m,0,none⟩=some (.int .i64 a1_0)∧F.cell? ⟨m,1,none⟩=some (.int .i64 a1_1)∧F.cell? ⟨m,2,none⟩=some (.string a1_2)∧F.cell? ⟨m,3,none⟩=some (.int .i64 a1_3)∧F.cell? (c.add ((a).toNat*10))=some (.int .i64 ((rd_T56 l0_1 a).f0))∧F.cell? ⟨(c.add ((a).toNat*10)).block,(c.add ((a).toNat*10)).off+1,none⟩=some (.int .i64 ((rd_T56 l0_1 a).f1))∧F.cell? ⟨(c.add ((a).toNat*10)).block,(c.add ((a).toNat*10)).off+2,none⟩=some (.string ((rd_T56 l0_1 a).f2))∧F.cell? ⟨(c.add ((a).toNat*10)).block,(c.add ((a).toNat*10)).off+3,none⟩=some (.int .i64 ((rd_T56 l0_1 a).f3))∧F.cell? ⟨(c.add ((a).toNat*10)).block,(c.add ((a).toNat*10)).off+4,none⟩=some (.slice ae ((rd_T56 l0_1 a).f4).length P)∧F.cell? ⟨(c.add ((a).toNat*10)).block,(c.add ((a).toNat*10)).off+5,none⟩=some (.slice ag ((rd_T56 l0_1 a).f5).length Q)∧F.cell? ⟨(c.add ((a).toNat*10)).block,(c.add ((a).toNat*10)).off+6,none⟩=some (.int .i64 ((rd_T56 l0_1 a).f6.f0))∧F.cell? ⟨(c.add ((a).toNat*10)).block,(c.add ((a).toNat*10)).off+7,none⟩=some (.int .i64 ((rd_T56 l0_1 a).f6.f1))∧F.cell? ⟨(c.add ((a).toNat*10)).block,(c.add ((a).toNat*10)).off+8,none⟩=some (.string ((rd_T56 l0_1 a).f6.f2))∧F.cell? ⟨(c.add ((a).toNat*10)).block,(c.add ((a).toNat*10)).off+9,none⟩=some (.int .i64 ((rd_T56 l0_1 a).f6.f3)):=aE
 refine norm_ (a':=?_) ?_ ?_
 rotate_left
 ·(
 simp only[putAll,Act.put,List.setIfInBounds_toArray,List.set_cons_zero,List.set_cons_succ]
 rfl)
 refine one_ (i:=8) (N:=some 5) (bN 11 511) rfl rfl (one_of ar.out (by kernel_rfl)) (by decide) (fun K hK=>?_)
 refine box_step ?hg (N:=5) ?hd (cs:= #[.int .i64 0,.int .i64 0,.string (⟨#[]⟩:ByteArray),.int .i64 0,.slice none 0 0,.slice none 0 0,.int .i64 0,.int .i64 0,.string (⟨#[]⟩:ByteArray),.int .i64 0]) (t:=56) ?hr ?_;(case hd=>rfl);(case hg=>rfl);(case hr=>first|(go_simp;done)|(go_simp;rfl))
 intro s hg af hbox hb
 replace ah:=zM (Kd.R_below (sE ah.out) hb)
 have u:=zM (hbox)
 have x:=sG HB hg
 have J:=sG HB hg
 replace HB:=sB HB hb
 have B:=sN q hg
 have G:=sM q hg
 replace q:=sK q hb
 have A:=sN l hg
 have I:=sM l hg
 replace l:=sK l hb
 clear hb hbox hg
 refine hK.out _ _ ⟨(blk_cell q.out 0).trans rfl,(blk_cell q.out 1).trans rfl,(blk_cell l.out 0).trans rfl,(blk_cell l.out 1).trans rfl,(blk_cell l.out 2).trans rfl,(blk_cell l.out 3).trans rfl,((HB.out.cell (zL w _ ac)).trans ac),((HB.out.cell (zL w _ ab)).trans ab),((HB.out.cell (zL w _ aa)).trans aa),((HB.out.cell (zL w _ Z)).trans Z),((HB.out.cell (zL w _ Y)).trans Y),((HB.out.cell (zL w _ X)).trans X),((HB.out.cell (zL w _ W)).trans W),((HB.out.cell (zL w _ V)).trans V),((HB.out.cell (zL w _ U)).trans U),((HB.out.cell (zL w _ T)).trans T)⟩ (fun hHeld=>?_)
 clear hK K
 refine norm_ (a':=?_) ?_ ?_
 rotate_left
 ·(
 show Act.put _ (some 5) _=_
 simp only[zP,i64_w,i32_w]
 rfl)
 exact norm_ (by first|(simp only[putAll,Act.put,List.setIfInBounds_toArray,List.set_cons_zero,List.set_cons_succ];done)|(simp only[putAll,Act.put,List.setIfInBounds_toArray,List.set_cons_zero,List.set_cons_succ];rfl)) (cg (aq,s) _ ⟨hHeld,(sE ah.out),(sT q.out),(sT l.out),(sT u.out),x.out,J.out,B.out,G.out,A.out,I.out,zzR⟩)))
 ·(
 skip
 rintro s az ⟨aE,am,an,ao,au,aG,aH,aI,aJ,aK,aM⟩
 replace q:Aside0 (az.heap[y]?=some (.cells #[.int .i64 a0_0,.slice (some c) l0_1.length c0_1] 34 (0,0))):=⟨am⟩
 replace l:Aside0 (az.heap[m]?=some (.cells #[.int .i64 a1_0,.int .i64 a1_1,.string a1_2,.int .i64 a1_3] 29 (0,0))):=⟨an⟩
 have u:Aside0 (az.heap[s]?=some (.cells #[.int .i64 ((rd_T56 l0_1 a).f0),.int .i64 ((rd_T56 l0_1 a).f1),.string ((rd_T56 l0_1 a).f2),.int .i64 ((rd_T56 l0_1 a).f3),.slice ae ((rd_T56 l0_1 a).f4).length P,.slice ag ((rd_T56 l0_1 a).f5).length Q,.int .i64 ((rd_T56 l0_1 a).f6.f0),.int .i64 ((rd_T56 l0_1 a).f6.f1),.string ((rd_T56 l0_1 a).f6.f2),.int .i64 ((rd_T56 l0_1 a).f6.f3)] 56 (0,0))):=⟨ao⟩
 have x:Aside0 (w.heap.size≤s):=⟨au⟩
 have J:Aside0 (w.heap.size≤s):=⟨aG⟩
 have B:Aside0 (y≠s):=⟨aH⟩
 have G:Aside0 (s≠y):=⟨aI⟩
 have A:Aside0 (m≠s):=⟨aJ⟩
 have I:Aside0 (s≠m):=⟨aK⟩
 replace HB:Aside0 (Below w.heap.size w az):=⟨aM⟩
 clear am an ao au aG aH aI aJ aK aM
 have hHeld:az.cell? ⟨y,0,none⟩=some (.int .i64 a0_0)∧az.cell? ⟨y,1,none⟩=some (.slice (some c) l0_1.length c0_1)∧az.cell? ⟨m,0,none⟩=some (.int .i64 a1_0)∧az.cell? ⟨m,1,none⟩=some (.int .i64 a1_1)∧az.cell? ⟨m,2,none⟩=some (.string a1_2)∧az.cell? ⟨m,3,none⟩=some (.int .i64 a1_3)∧az.cell? (c.add ((a).toNat*10))=some (.int .i64 ((rd_T56 l0_1 a).f0))∧az.cell? ⟨(c.add ((a).toNat*10)).block,(c.add ((a).toNat*10)).off+1,none⟩=some (.int .i64 ((rd_T56 l0_1 a).f1))∧az.cell? ⟨(c.add ((a).toNat*10)).block,(c.add ((a).toNat*10)).off+2,none⟩=some (.string ((rd_T56 l0_1 a).f2))∧az.cell? ⟨(c.add ((a).toNat*10)).block,(c.add ((a).toNat*10)).off+3,none⟩=some (.int .i64 ((rd_T56 l0_1 a).f3))∧az.cell? ⟨(c.add ((a).toNat*10)).block,(c.add ((a).toNat*10)).off+4,none⟩=some (.slice ae ((rd_T56 l0_1 a).f4).length P)∧az.cell? ⟨(c.add ((a).toNat*10)).block,(c.add ((a).toNat*10)).off+5,none⟩=some (.slice ag ((rd_T56 l0_1 a).f5).length Q)∧az.cell? ⟨(c.add ((a).toNat*10)).block,(c.add ((a).toNat*10)).off+6,none⟩=some (.int .i64 ((rd_T56 l0_1 a).f6.f0))∧az.cell? ⟨(c.add ((a).toNat*10)).block,(c.add ((a).toNat*10)).off+7,none⟩=some (.int .i64 ((rd_T56 l0_1 a).f6.f1))∧az.cell? ⟨(c.add ((a).toNat*10)).block,(c.add ((a).toNat*10)).off+8,none⟩=some (.string ((rd_T56 l0_1 a).f6.f2))∧az.cell? ⟨(c.add ((a).toNat*10)).block,(c.add ((a).toNat*10)).off+9,none⟩=some (.int .i64 ((rd_T56 l0_1 a).f6.f3)):=aE
 refine norm_ (a':=?_) ?_ ?_
 rotate_left
 ·(
 simp only[putAll,Act.put,List.setIfInBounds_toArray,List.set_cons_zero,List.set_cons_succ]
 rfl)
 refine one_ (i:=7) (N:=some 27) (bN 11 1023) rfl rfl (one_of ar.out (by kernel_rfl)) (by decide) (fun K hK=>?_)
 refine Kd.R_lit_step k29 _ 29 ?hg (N:=27) ?hd (xs:=([]:List (S29))) (inner:=[]) (ok:=fun _=>True) (okp:=fun _=>True) ?hr ?hp (fun _ hk=>hk) trivial (Below.refl _ _) (Nat.le_refl _) (by simp) ?_;(case hd=>rfl);(case hg=>rfl);(case hr=>first|(go_simp;done)|(go_simp;rfl));(case hp=>exact(Reps.none _ _))
 intro aq fa bH hb a0 a1
 clear a0 a1
 (first|rw[←bc.out]at bH|(simp only[Int.reduceToNat]at bH;rw[←bc.out]at bH))
 have ah:=zM (Kd.R_lower (Kd.R_newB bH (g:=m) (o:= .cells #[.int .i64 a1_0,.int .i64 a1_1,.string a1_2,.int .i64 a1_3] 29 (0,0)) (sT l.out)) (below_size zzR))
 replace q:=sK q hb
 replace l:=sK l hb
 replace u:=sK u hb
 replace HB:=sB HB hb
 clear hb bH
 refine hK.out _ _ ⟨(blk_cell q.out 0).trans rfl,(blk_cell q.out 1).trans rfl,(blk_cell l.out 0).trans rfl,(blk_cell l.out 1).trans rfl,(blk_cell l.out 2).trans rfl,(blk_cell l.out 3).trans rfl,((HB.out.cell (zL w _ ac)).trans ac),((HB.out.cell (zL w _ ab)).trans ab),((HB.out.cell (zL w _ aa)).trans aa),((HB.out.cell (zL w _ Z)).trans Z),((HB.out.cell (zL w _ Y)).trans Y),((HB.out.cell (zL w _ X)).trans X),((HB.out.cell (zL w _ W)).trans W),((HB.out.cell (zL w _ V)).trans V),((HB.out.cell (zL w _ U)).trans U),((HB.out.cell (zL w _ T)).trans T)⟩ (fun hHeld=>?_)
 clear hK K
 refine norm_ (a':=?_) ?_ ?_
 rotate_left
 ·(
 show Act.put _ (some 27) _=_
 simp only[zP,i64_w,i32_w]
 rfl)
 exact norm_ (by first|(simp only[putAll,Act.put,List.setIfInBounds_toArray,List.set_cons_zero,List.set_cons_succ];done)|(simp only[putAll,Act.put,List.setIfInBounds_toArray,List.set_cons_zero,List.set_cons_succ];rfl)) (cA (aq,s) _ ⟨hHeld,(by(with_reducible repeat(first|apply Kd.R_alloc|apply Kd.R_drewN|apply Kd.R_drew));exact Kd.R_mono ah.out (fun _ hk=>hk.2)),(sT q.out),(sT l.out),(sT u.out),x.out,J.out,B.out,G.out,A.out,I.out,zzR⟩)))
 ·(
 skip
 rintro⟨aq,s⟩ af ⟨aE,am,an,ao,au,aG,aH,aI,aJ,aK,aM,bi⟩
 have ah:Aside0 (Kd.R k29 29 af w.heap.size (fun D=>D≠m) aq y393):=⟨am⟩
 replace q:Aside0 (af.heap[y]?=some (.cells #[.int .i64 a0_0,.slice (some c) l0_1.length c0_1] 34 (0,0))):=⟨an⟩
 replace l:Aside0 (af.heap[m]?=some (.cells #[.int .i64 a1_0,.int .i64 a1_1,.string a1_2,.int .i64 a1_3] 29 (0,0))):=⟨ao⟩
 have u:Aside0 (af.heap[s]?=some (.cells #[.int .i64 0,.int .i64 0,.string (⟨#[]⟩:ByteArray),.int .i64 0,.slice none 0 0,.slice none 0 0,.int .i64 0,.int .i64 0,.string (⟨#[]⟩:ByteArray),.int .i64 0] 56 (0,0))):=⟨au⟩
 have x:Aside0 (w.heap.size≤s):=⟨aG⟩
 have J:Aside0 (w.heap.size≤s):=⟨aH⟩
 have B:Aside0 (y≠s):=⟨aI⟩
 have G:Aside0 (s≠y):=⟨aJ⟩
 have A:Aside0 (m≠s):=⟨aK⟩
 have I:Aside0 (s≠m):=⟨aM⟩
 replace HB:Aside0 (Below w.heap.size w af):=⟨bi⟩
 clear am an ao au aG aH aI aJ aK aM bi
 have hHeld:af.cell? ⟨y,0,none⟩=some (.int .i64 a0_0)∧af.cell? ⟨y,1,none⟩=some (.slice (some c) l0_1.length c0_1)∧af.cell? ⟨m,0,none⟩=some (.int .i64 a1_0)∧af.cell? ⟨m,1,none⟩=some (.int .i64 a1_1)∧af.cell? ⟨m,2,none⟩=some (.string a1_2)∧af.cell? ⟨m,3,none⟩=some (.int .i64 a1_3)∧af.cell? (c.add ((a).toNat*10))=some (.int .i64 ((rd_T56 l0_1 a).f0))∧af.cell? ⟨(c.add ((a).toNat*10)).block,(c.add ((a).toNat*10)).off+1,none⟩=some (.int .i64 ((rd_T56 l0_1 a).f1))∧af.cell? ⟨(c.add ((a).toNat*10)).block,(c.add ((a).toNat*10)).off+2,none⟩=some (.string ((rd_T56 l0_1 a).f2))∧af.cell? ⟨(c.add ((a).toNat*10)).block,(c.add ((a).toNat*10)).off+3,none⟩=some (.int .i64 ((rd_T56 l0_1 a).f3))∧af.cell? ⟨(c.add ((a).toNat*10)).block,(c.add ((a).toNat*10)).off+4,none⟩=some (.slice ae ((rd_T56 l0_1 a).f4).length P)∧af.cell? ⟨(c.add ((a).toNat*10)).block,(c.add ((a).toNat*10)).off+5,none⟩=some (.slice ag ((rd_T56 l0_1 a).f5).length Q)∧af.cell? ⟨(c.add ((a).toNat*10)).block,(c.add ((a).toNat*10)).off+6,none⟩=some (.int .i64 ((rd_T56 l0_1 a).f6.f0))∧af.cell? ⟨(c.add ((a).toNat*10)).block,(c.add ((a).toNat*10)).off+7,none⟩=some (.int .i64 ((rd_T56 l0_1 a).f6.f1))∧af.cell? ⟨(c.add ((a).toNat*10)).block,(c.add ((a).toNat*10)).off+8,none⟩=some (.string ((rd_T56 l0_1 a).f6.f2))∧af.cell? ⟨(c.add ((a).toNat*10)).block,(c.add ((a).toNat*10)).off+9,none⟩=some (.int .i64 ((rd_T56 l0_1 a).f6.f3)):=aE
 refine norm_ (a':=?_) ?_ ?_
 rotate_left
 ·(
 simp only[putAll,Act.put,List.setIfInBounds_toArray,List.set_cons_zero,List.set_cons_succ]
 rfl)
 refine one_ (i:=9) (N:=none) (bN 11 1023) rfl rfl (one_of ar.out (by kernel_rfl)) (by decide) (fun K hK=>?_)
 have cP:af.cell? ⟨s,0,none⟩=some (.int .i64 0):=(blk_cell u.out 0).trans rfl
 have cQ:=blk_frozen u.out 0
 have cR:=B.out
 have cS:=A.out
 have cT:=G.out
 have cU:=I.out
 have cV:af.cell? ⟨s,1,none⟩=some (.int .i64 0):=(blk_cell u.out 1).trans rfl
 have cW:=blk_frozen u.out 1
 have cX:=B.out
 have cY:=A.out
 have cZ:=G.out
 have c0:=I.out
 have c1:af.cell? ⟨s,2,none⟩=some (.string (⟨#[]⟩:ByteArray)):=(blk_cell u.out 2).trans rfl
 have c2:=blk_frozen u.out 2
 have c3:=B.out
 have c5:=A.out
 have c6:=G.out
 have c8:=I.out
 have c9:af.cell? ⟨s,3,none⟩=some (.int .i64 0):=(blk_cell u.out 3).trans rfl
 have da:=blk_frozen u.out 3
 have db:=B.out
 have dc:=A.out
 have dd:=G.out
 have de:=I.out
 have df:af.cell? ⟨s,4,none⟩=some (.slice none 0 0):=(blk_cell u.out 4).trans rfl
 have dg:=blk_frozen u.out 4
 have dh:=B.out
 have di:=A.out
 have dj:=G.out
 have dk:=I.out
 have dl:af.cell? ⟨s,5,none⟩=some (.slice none 0 0):=(blk_cell u.out 5).trans rfl
 have dm:=blk_frozen u.out 5
 have dn:=B.out
 have dp:=A.out
 have dq:=G.out
 have dr:=I.out
 have dt:af.cell? ⟨s,6,none⟩=some (.int .i64 0):=(blk_cell u.out 6).trans rfl
 have du:=blk_frozen u.out 6
 have dv:=B.out
 have dw:=A.out
 have dx:=G.out
 have dy:=I.out
 have dz:af.cell? ⟨s,7,none⟩=some (.int .i64 0):=(blk_cell u.out 7).trans rfl
 have dA:=blk_frozen u.out 7
 have dB:=B.out
 have dC:=A.out
 have dD:=G.out
 have dE:=I.out
 have fb:af.cell? ⟨s,8,none⟩=some (.string (⟨#[]⟩:ByteArray)):=(blk_cell u.out 8).trans rfl
 have fc:=blk_frozen u.out 8
 have fd:=B.out
 have fe:=A.out
 have ff:=G.out
 have fg:=I.out
 have fh:af.cell? ⟨s,9,none⟩=some (.int .i64 0):=(blk_cell u.out 9).trans rfl
 have fi:=blk_frozen u.out 9
 have fj:=B.out
 have fk:=A.out
 have fl:=G.out
 have fm:=I.out
 refine skip_ (w1:=?_) (by rfl) rfl ?_ ?_
 rotate_left
 ·(
 go_simp
 rfl)
 refine hK.out _ _ ⟨(sQ10 (g:=s) B.out (hHeld.1)),(sQ10 (g:=s) B.out (hHeld.2.1)),(sQ10 (g:=s) A.out (hHeld.2.2.1)),(sQ10 (g:=s) A.out (hHeld.2.2.2.1)),(sQ10 (g:=s) A.out (hHeld.2.2.2.2.1)),(sQ10 (g:=s) A.out (hHeld.2.2.2.2.2.1)),(sQ10 (g:=s) (by first|exact zzU ac x.out|(rw[add_block];exact zzU ac x.out)|(show(Addr.add _ _).block≠_;rw[add_block];exact zzU ac x.out)|(dsimp only;exact zzU ac x.out)) (hHeld.2.2.2.2.2.2.1)),(sQ10 (g:=s) (by first|exact zzU ab x.out|(rw[add_block];exact zzU ab x.out)|(show(Addr.add _ _).block≠_;rw[add_block];exact zzU ab x.out)|(dsimp only;exact zzU ab x.out)) (hHeld.2.2.2.2.2.2.2.1)),(sQ10 (g:=s) (by first|exact zzU aa x.out|(rw[add_block];exact zzU aa x.out)|(show(Addr.add _ _).block≠_;rw[add_block];exact zzU aa x.out)|(dsimp only;exact zzU aa x.out)) (hHeld.2.2.2.2.2.2.2.2.1)),(sQ10 (g:=s) (by first|exact zzU Z x.out|(rw[add_block];exact zzU Z x.out)|(show(Addr.add _ _).block≠_;rw[add_block];exact zzU Z x.out)|(dsimp only;exact zzU Z x.out)) (hHeld.2.2.2.2.2.2.2.2.2.1)),(sQ10 (g:=s) (by first|exact zzU Y x.out|(rw[add_block];exact zzU Y x.out)|(show(Addr.add _ _).block≠_;rw[add_block];exact zzU Y x.out)|(dsimp only;exact zzU Y x.out)) (hHeld.2.2.2.2.2.2.2.2.2.2.1)),(sQ10 (g:=s) (by first|exact zzU X x.out|(rw[add_block];exact zzU X x.out)|(show(Addr.add _ _).block≠_;rw[add_block];exact zzU X x.out)|(dsimp only;exact zzU X x.out)) (hHeld.2.2.2.2.2.2.2.2.2.2.2.1)),(sQ10 (g:=s) (by first|exact zzU W x.out|(rw[add_block];exact zzU W x.out)|(show(Addr.add _ _).block≠_;rw[add_block];exact zzU W x.out)|(dsimp only;exact zzU W x.out)) (hHeld.2.2.2.2.2.2.2.2.2.2.2.2.1)),(sQ10 (g:=s) (by first|exact zzU V x.out|(rw[add_block];exact zzU V x.out)|(show(Addr.add _ _).block≠_;rw[add_block];exact zzU V x.out)|(dsimp only;exact zzU V x.out)) (hHeld.2.2.2.2.2.2.2.2.2.2.2.2.2.1)),(sQ10 (g:=s) (by first|exact zzU U x.out|(rw[add_block];exact zzU U x.out)|(show(Addr.add _ _).block≠_;rw[add_block];exact zzU U x.out)|(dsimp only;exact zzU U x.out)) (hHeld.2.2.2.2.2.2.2.2.2.2.2.2.2.2.1)),(sQ10 (g:=s) (by first|exact zzU T x.out|(rw[add_block];exact zzU T x.out)|(show(Addr.add _ _).block≠_;rw[add_block];exact zzU T x.out)|(dsimp only;exact zzU T x.out)) (hHeld.2.2.2.2.2.2.2.2.2.2.2.2.2.2.2))⟩ (fun hHeld=>?_)
 clear hK K
 exact norm_ (by first|(simp only[putAll,Act.put,List.setIfInBounds_toArray,List.set_cons_zero,List.set_cons_succ];done)|(simp only[putAll,Act.put,List.setIfInBounds_toArray,List.set_cons_zero,List.set_cons_succ];rfl)) (cA (aq,s) _ ⟨hHeld,(by(with_reducible repeat(first|apply Kd.R_alloc|apply Kd.R_drewN|apply Kd.R_drew));exact Kd.R_mono (sRF10 (g:=s) (Kd.R_types ah.out u.out (by decide)) (fun _ hk=>hk.2)) (fun _ hk=>hk.1)),(by(with_reducible repeat(first|refine blk_drewN ?_ _|refine blk_drew ?_|refine blk_alloc ?_ _));refine blk_far ?_ B.out _;(with_reducible repeat(first|refine blk_drewN ?_ _|refine blk_drew ?_|refine blk_alloc ?_ _));refine blk_far ?_ B.out _;(with_reducible repeat(first|refine blk_drewN ?_ _|refine blk_drew ?_|refine blk_alloc ?_ _));refine blk_far ?_ B.out _;(with_reducible repeat(first|refine blk_drewN ?_ _|refine blk_drew ?_|refine blk_alloc ?_ _));refine blk_far ?_ B.out _;(with_reducible repeat(first|refine blk_drewN ?_ _|refine blk_drew ?_|refine blk_alloc ?_ _));refine blk_far ?_ B.out _;(with_reducible repeat(first|refine blk_drewN ?_ _|refine blk_drew ?_|refine blk_alloc ?_ _));refine blk_far ?_ B.out _;(with_reducible repeat(first|refine blk_drewN ?_ _|refine blk_drew ?_|refine blk_alloc ?_ _));refine blk_far ?_ B.out _;(with_reducible repeat(first|refine blk_drewN ?_ _|refine blk_drew ?_|refine blk_alloc ?_ _));refine blk_far ?_ B.out _;(with_reducible repeat(first|refine blk_drewN ?_ _|refine blk_drew ?_|refine blk_alloc ?_ _));refine blk_far ?_ B.out _;(with_reducible repeat(first|refine blk_drewN ?_ _|refine blk_drew ?_|refine blk_alloc ?_ _));refine blk_far ?_ B.out _;exact sT q.out),(by(with_reducible repeat(first|refine blk_drewN ?_ _|refine blk_drew ?_|refine blk_alloc ?_ _));refine blk_far ?_ A.out _;(with_reducible repeat(first|refine blk_drewN ?_ _|refine blk_drew ?_|refine blk_alloc ?_ _));refine blk_far ?_ A.out _;(with_reducible repeat(first|refine blk_drewN ?_ _|refine blk_drew ?_|refine blk_alloc ?_ _));refine blk_far ?_ A.out _;(with_reducible repeat(first|refine blk_drewN ?_ _|refine blk_drew ?_|refine blk_alloc ?_ _));refine blk_far ?_ A.out _;(with_reducible repeat(first|refine blk_drewN ?_ _|refine blk_drew ?_|refine blk_alloc ?_ _));refine blk_far ?_ A.out _;(with_reducible repeat(first|refine blk_drewN ?_ _|refine blk_drew ?_|refine blk_alloc ?_ _));refine blk_far ?_ A.out _;(with_reducible repeat(first|refine blk_drewN ?_ _|refine blk_drew ?_|refine blk_alloc ?_ _));refine blk_far ?_ A.out _;(with_reducible repeat(first|refine blk_drewN ?_ _|refine blk_drew ?_|refine blk_alloc ?_ _));refine blk_far ?_ A.out _;(with_reducible repeat(first|refine blk_drewN ?_ _|refine blk_drew ?_|refine blk_alloc ?_ _));refine blk_far ?_ A.out _;(with_reducible repeat(first|refine blk_drewN ?_ _|refine blk_drew ?_|refine blk_alloc ?_ _));refine blk_far ?_ A.out _;exact sT l.out),(by exact sP10 (sT u.out)),x.out,J.out,B.out,G.out,A.out,I.out,zzR⟩)))
 rintro⟨aq,s⟩ aw ⟨aE,am,an,ao,au,aG,aH,aI,aJ,aK,aM,bi⟩
 have ah:Aside0 (Kd.R k29 29 aw w.heap.size (fun D=>D≠m) aq y393):=⟨am⟩
 replace q:Aside0 (aw.heap[y]?=some (.cells #[.int .i64 a0_0,.slice (some c) l0_1.length c0_1] 34 (0,0))):=⟨an⟩
 replace l:Aside0 (aw.heap[m]?=some (.cells #[.int .i64 a1_0,.int .i64 a1_1,.string a1_2,.int .i64 a1_3] 29 (0,0))):=⟨ao⟩
 have u:Aside0 (aw.heap[s]?=some (.cells #[.int .i64 ((rd_T56 l0_1 a).f0),.int .i64 ((rd_T56 l0_1 a).f1),.string ((rd_T56 l0_1 a).f2),.int .i64 ((rd_T56 l0_1 a).f3),.slice ae ((rd_T56 l0_1 a).f4).length P,.slice ag ((rd_T56 l0_1 a).f5).length Q,.int .i64 ((rd_T56 l0_1 a).f6.f0),.int .i64 ((rd_T56 l0_1 a).f6.f1),.string ((rd_T56 l0_1 a).f6.f2),.int .i64 ((rd_T56 l0_1 a).f6.f3)] 56 (0,0))):=⟨au⟩
 have x:Aside0 (w.heap.size≤s):=⟨aG⟩
 have J:Aside0 (w.heap.size≤s):=⟨aH⟩
 have B:Aside0 (y≠s):=⟨aI⟩
 have G:Aside0 (s≠y):=⟨aJ⟩
 have A:Aside0 (m≠s):=⟨aK⟩
 have I:Aside0 (s≠m):=⟨aM⟩
 replace HB:Aside0 (Below w.heap.size w aw):=⟨bi⟩
 clear am an ao au aG aH aI aJ aK aM bi
 have hHeld:aw.cell? ⟨y,0,none⟩=some (.int .i64 a0_0)∧aw.cell? ⟨y,1,none⟩=some (.slice (some c) l0_1.length c0_1)∧aw.cell? ⟨m,0,none⟩=some (.int .i64 a1_0)∧aw.cell? ⟨m,1,none⟩=some (.int .i64 a1_1)∧aw.cell? ⟨m,2,none⟩=some (.string a1_2)∧aw.cell? ⟨m,3,none⟩=some (.int .i64 a1_3)∧aw.cell? (c.add ((a).toNat*10))=some (.int .i64 ((rd_T56 l0_1 a).f0))∧aw.cell? ⟨(c.add ((a).toNat*10)).block,(c.add ((a).toNat*10)).off+1,none⟩=some (.int .i64 ((rd_T56 l0_1 a).f1))∧aw.cell? ⟨(c.add ((a).toNat*10)).block,(c.add ((a).toNat*10)).off+2,none⟩=some (.string ((rd_T56 l0_1 a).f2))∧aw.cell? ⟨(c.add ((a).toNat*10)).block,(c.add ((a).toNat*10)).off+3,none⟩=some (.int .i64 ((rd_T56 l0_1 a).f3))∧aw.cell? ⟨(c.add ((a).toNat*10)).block,(c.add ((a).toNat*10)).off+4,none⟩=some (.slice ae ((rd_T56 l0_1 a).f4).length P)∧aw.cell? ⟨(c.add ((a).toNat*10)).block,(c.add ((a).toNat*10)).off+5,none⟩=some (.slice ag ((rd_T56 l0_1 a).f5).length Q)∧aw.cell? ⟨(c.add ((a).toNat*10)).block,(c.add ((a).toNat*10)).off+6,none⟩=some (.int .i64 ((rd_T56 l0_1 a).f6.f0))∧aw.cell? ⟨(c.add ((a).toNat*10)).block,(c.add ((a).toNat*10)).off+7,none⟩=some (.int .i64 ((rd_T56 l0_1 a).f6.f1))∧aw.cell? ⟨(c.add ((a).toNat*10)).block,(c.add ((a).toNat*10)).off+8,none⟩=some (.string ((rd_T56 l0_1 a).f6.f2))∧aw.cell? ⟨(c.add ((a).toNat*10)).block,(c.add ((a).toNat*10)).off+9,none⟩=some (.int .i64 ((rd_T56 l0_1 a).f6.f3)):=aE
 refine norm_ (a':=?_) ?_ ?_
 rotate_left
 ·(
 simp only[putAll,Act.put,List.setIfInBounds_toArray,List.set_cons_zero,List.set_cons_succ]
 rfl)
 refine pure_ (i:=10) (N:=some 6) (v:=?_) (a':=?_) (bN 11 2047) rfl rfl (any_of ar.out (by kernel_rfl)) (fun _ _ _ h=>h) (Or.inl ⟨by rfl,?_⟩) ?_ ?_
 rotate_left
 ·(
 intro w'
 go_simp
 with_reducible rfl)
 rotate_left
 ·(
 simp only[zP,i64_w,i32_w]
 rfl)
 refine done_ (done_of ar.out (by kernel_rfl)) ?_
 have fn:=G.out
 have fo:=B.out
 have fp:=I.out
 have fq:=A.out
 obtain⟨dF,dG,dH,dI,dJ,dK,dL,dM,dN,dO,dP,dQ,dR,dS,dT,dU,dV,dW,dX,dY⟩:=cells10 u.out
 try go_wp2
 go_loopg [6,31] kj2 (fun kq v6 dZ w'=>∃(aN:List (S29)) (d:Int),dZ= .int .i64 d∧Aside0 (impl_PairsOf.l0 kq aN ((rd_T56 l0_1 a).f5) (((rd_T56 l0_1 a).f5).length:Int) d ((rd_T56 l0_1 a).f0) ((rd_T56 l0_1 a).f1) ((rd_T56 l0_1 a).f2) ((rd_T56 l0_1 a).f3) ((rd_T56 l0_1 a).f4) ((rd_T56 l0_1 a).f5) ((rd_T56 l0_1 a).f6.f0) ((rd_T56 l0_1 a).f6.f1) ((rd_T56 l0_1 a).f6.f2) ((rd_T56 l0_1 a).f6.f3)=some r)∧Aside0 (kq≤kj2)∧Aside0 (Kd.R k29 29 w' w.heap.size (fun D=>D≠m) v6 aN)∧Aside0 (w'.heap[y]?=some (.cells #[.int .i64 a0_0,(.slice (some c) l0_1.length c0_1)] 34 (0,0)))∧Aside0 (w'.heap[m]?=some (.cells #[.int .i64 a1_0,.int .i64 a1_1,.string a1_2,.int .i64 a1_3] 29 (0,0)))∧Aside0 (w'.heap[s]?=some (.cells #[.int .i64 ((rd_T56 l0_1 a).f0),.int .i64 ((rd_T56 l0_1 a).f1),.string ((rd_T56 l0_1 a).f2),.int .i64 ((rd_T56 l0_1 a).f3),(.slice ae ((rd_T56 l0_1 a).f4).length P),(.slice ag ((rd_T56 l0_1 a).f5).length Q),.int .i64 ((rd_T56 l0_1 a).f6.f0),.int .i64 ((rd_T56 l0_1 a).f6.f1),.string ((rd_T56 l0_1 a).f6.f2),.int .i64 ((rd_T56 l0_1 a).f6.f3)] 56 (0,0)))∧Aside0 (Below w.heap.size w w'))
 case atStart=>exact⟨(y393),(0),sr,H',⟨Nat.le_refl _⟩,⟨by exact sE ah.out⟩,⟨by exact sT q.out⟩,⟨by exact sT l.out⟩,⟨by exact sT u.out⟩,⟨sb⟩⟩
 case round=>(
 clear H'
 try clear dF
 try clear dG
 try clear dH
 try clear dI
 try clear dJ
 try clear dK
 try clear dL
 try clear dM
 try clear dN
 try clear dO
 try clear dP
 try clear dQ
 try clear dR
 try clear dS
 try clear dT
 try clear dU
 try clear dV
 try clear dW
 try clear dX
 try clear dY
 obtain⟨aN,d,rfl,HA,b5,O,q,l,u,HB⟩:=hrel
 cases gk with
 |zero=>exact absurd HA.out (by simp[impl_PairsOf.l0])
 |succ k2=>(
 have H:=HA.out
 clear HA
 simp only[impl_PairsOf.l0]at H
 by_cases bz:d<(((rd_T56 l0_1 a).f5).length:Int)
 ·(
 rw[if_pos bz]at H
 have c41b0:=zT bz
 clear bz
 by_cases b6:0≤d
 ·(
 rw[if_pos b6]at H
 have c42b0:=zT b6
 clear b6
 by_cases b7:d<(((rd_T56 l0_1 a).f5).length:Int)
 ·(
 rw[if_pos b7]at H
 have c43b0:=zT b7
 clear b7
 replace H:=Option.bind_eq_some_iff.mp H
 obtain⟨⟨aC,ax,av,ap⟩,cF,H⟩:=H
 replace H:(if((rd_T56 l0_1 a).f1)=1 then((some (([(⟨aC,ax,av,ap⟩:S29),(⟨(rd_T29 ((rd_T56 l0_1 a).f5) d).f0,(rd_T29 ((rd_T56 l0_1 a).f5) d).f1,(rd_T29 ((rd_T56 l0_1 a).f5) d).f2,(rd_T29 ((rd_T56 l0_1 a).f5) d).f3⟩:S29)]:List (S29)):List (S29))).bind fun bg=>(if aN.length+bg.length<3518437208883 then(impl_PairsOf.l0 k2 (aN++bg) ((rd_T56 l0_1 a).f5) (((rd_T56 l0_1 a).f5).length:Int) (wrap64 (d+1)) ((rd_T56 l0_1 a).f0) ((rd_T56 l0_1 a).f1) ((rd_T56 l0_1 a).f2) ((rd_T56 l0_1 a).f3) ((rd_T56 l0_1 a).f4) ((rd_T56 l0_1 a).f5) ((rd_T56 l0_1 a).f6.f0) ((rd_T56 l0_1 a).f6.f1) ((rd_T56 l0_1 a).f6.f2) ((rd_T56 l0_1 a).f6.f3))else(none)))else(if d<(((rd_T56 l0_1 a).f4).length:Int)then((some (([(⟨(rd_T29 ((rd_T56 l0_1 a).f4) d).f0,(rd_T29 ((rd_T56 l0_1 a).f4) d).f1,(rd_T29 ((rd_T56 l0_1 a).f4) d).f2,(rd_T29 ((rd_T56 l0_1 a).f4) d).f3⟩:S29),(⟨(rd_T29 ((rd_T56 l0_1 a).f5) d).f0,(rd_T29 ((rd_T56 l0_1 a).f5) d).f1,(rd_T29 ((rd_T56 l0_1 a).f5) d).f2,(rd_T29 ((rd_T56 l0_1 a).f5) d).f3⟩:S29)]:List (S29)):List (S29))).bind fun bh=>(if aN.length+bh.length<3518437208883 then(impl_PairsOf.l0 k2 (aN++bh) ((rd_T56 l0_1 a).f5) (((rd_T56 l0_1 a).f5).length:Int) (wrap64 (d+1)) ((rd_T56 l0_1 a).f0) ((rd_T56 l0_1 a).f1) ((rd_T56 l0_1 a).f2) ((rd_T56 l0_1 a).f3) ((rd_T56 l0_1 a).f4) ((rd_T56 l0_1 a).f5) ((rd_T56 l0_1 a).f6.f0) ((rd_T56 l0_1 a).f6.f1) ((rd_T56 l0_1 a).f6.f2) ((rd_T56 l0_1 a).f6.f3))else(none)))else(none)))=some r:=H
 have cG:=zM cF
 clear cF
 by_cases bl:((rd_T56 l0_1 a).f1)=1
 ·(
 rw[if_pos bl]at H
 have c45b0:(((rd_T56 l0_1 a).f1)==1)=true:=zE bl
 have c45b1:(((rd_T56 l0_1 a).f1) !=1)=false:=zY bl
 clear bl
 obtain⟨bg,hy404⟩:∃y_:List (S29),y_=(([(⟨aC,ax,av,ap⟩:S29),(⟨(rd_T29 ((rd_T56 l0_1 a).f5) d).f0,(rd_T29 ((rd_T56 l0_1 a).f5) d).f1,(rd_T29 ((rd_T56 l0_1 a).f5) d).f2,(rd_T29 ((rd_T56 l0_1 a).f5) d).f3⟩:S29)]:List (S29))):=⟨_,rfl⟩
 replace H:(if aN.length+bg.length<3518437208883 then(impl_PairsOf.l0 k2 (aN++bg) ((rd_T56 l0_1 a).f5) (((rd_T56 l0_1 a).f5).length:Int) (wrap64 (d+1)) ((rd_T56 l0_1 a).f0) ((rd_T56 l0_1 a).f1) ((rd_T56 l0_1 a).f2) ((rd_T56 l0_1 a).f3) ((rd_T56 l0_1 a).f4) ((rd_T56 l0_1 a).f5) ((rd_T56 l0_1 a).f6.f0) ((rd_T56 l0_1 a).f6.f1) ((rd_T56 l0_1 a).f6.f2) ((rd_T56 l0_1 a).f6.f3))else(none))=some r:=by first|(rw[hy404];with_reducible exact H)|(have aA:=(Option.bind_some _ _).symm.trans H;rw[hy404];with_reducible exact aA)|(have aA:=(Option.bind_some _ _).symm.trans H;with_reducible exact aA)|with_reducible exact H|(rw[hy404];exact H)|exact H
 have cH:=zM hy404
 clear hy404
 by_cases b8:aN.length+bg.length<3518437208883
 ·(
 rw[if_pos b8]at H
 have d0:=zM b8
 clear b8
 obtain⟨y407,hy407⟩:∃y_:List (S29),y_=(aN++bg):=⟨_,rfl⟩
 replace H:(impl_PairsOf.l0 k2 y407 ((rd_T56 l0_1 a).f5) (((rd_T56 l0_1 a).f5).length:Int) (wrap64 (d+1)) ((rd_T56 l0_1 a).f0) ((rd_T56 l0_1 a).f1) ((rd_T56 l0_1 a).f2) ((rd_T56 l0_1 a).f3) ((rd_T56 l0_1 a).f4) ((rd_T56 l0_1 a).f5) ((rd_T56 l0_1 a).f6.f0) ((rd_T56 l0_1 a).f6.f1) ((rd_T56 l0_1 a).f6.f2) ((rd_T56 l0_1 a).f6.f3))=some r:=by first|(rw[hy407];with_reducible exact H)|(have aA:=(Option.bind_some _ _).symm.trans H;rw[hy407];with_reducible exact aA)|(have aA:=(Option.bind_some _ _).symm.trans H;with_reducible exact aA)|with_reducible exact H|(rw[hy407];exact H)|exact H
 have d1:=zM hy407
 clear hy407
 have H':=zM H
 clear H
 have bm:0≤(d:Int):=zzA
 have bn:d<(((rd_T56 l0_1 a).f5).length:Int):=zzA
 obtain⟨bo,ch,bI,bJ,bK,bL⟩:=at_T29 cf.out d bm bn
 cases ch
 replace bI:=sX HB bI
 replace bJ:=sX HB bJ
 replace bK:=sX HB bK
 replace bL:=sX HB bL
 replace bm:=eq_true bm
 replace bn:=eq_true bn
 go_wp2_with (first|((with_reducible refine gate_dst (N:=8) rfl ?_);refine sV (N:=8) (cs:= #[.int .i64 0,.int .i64 0,.string (⟨#[]⟩:ByteArray),.int .i64 0]) (t:=29) ?_;intro ay hg fr hbox hb;replace O:=zM (Kd.R_below (Kd.R_elderB (sE O.out) ay (Nat.le_of_eq hg.symm)) hb);have ad:=zM (hbox);have d2:=sG HB hg;have bp:=sG HB hg;replace HB:=sB HB hb;have a7:=sN q hg;have ci:=sM q hg;replace q:=sK q hb;have a8:=sN l hg;have cj:=sM l hg;replace l:=sK l hb;have a9:=sN u hg;have ck:=sM u hg;replace u:=sK u hb;clear hb hbox hg;have fs:=ci.out;have ft:=a7.out;have fu:=cj.out;have fv:=a8.out;have fw:=ck.out;have fx:=a9.out;obtain⟨fy,fz,fA,fB,fC,fD,fE,fF⟩:=cells4 ad.out;have fG:=G.out;have fH:=B.out;have fI:=I.out;have fJ:=A.out;obtain⟨fK,fL,fM,fN,fO,fP,fQ,fR,fS,fT,fU,fV,fW,fX,fY,fZ,f7,f8,f9,ga⟩:=cells10 u.out)|((with_reducible refine gate_callee (f:=58) rfl ?_);refine sC (some 40) Try.func58 #[.int .i64 (wrap64 (((rd_T56 l0_1 a).f3)+d))] (impl_numberOf.calls (wrap64 (((rd_T56 l0_1 a).f3)+d)) aC ax av ap _ cG.out) ?_;rintro e gb ⟨rfl,hb⟩;refine⟨_,rfl,?_⟩;have aP:=zM (Kd.R_below (by(with_reducible repeat(first|apply Kd.R_alloc|apply Kd.R_drewN|apply Kd.R_drew));exact(Kd.R_mono (sRF4 (g:=ay) (Kd.R_mono O.out (fun D hk=>(⟨hk,hk.2⟩:_∧D≠ay))) (fun _ hk=>hk.2)) (fun _ h_=>h_.1))) hb);have aQ:=zM (blk_below (g:=y) (o:= .cells #[.int .i64 a0_0,.slice (some c) l0_1.length c0_1] 34 (0,0)) (by(with_reducible repeat(first|refine blk_drewN ?_ _|refine blk_drew ?_|refine blk_alloc ?_ _));refine blk_far ?_ a7.out _;(with_reducible repeat(first|refine blk_drewN ?_ _|refine blk_drew ?_|refine blk_alloc ?_ _));refine blk_far ?_ a7.out _;(with_reducible repeat(first|refine blk_drewN ?_ _|refine blk_drew ?_|refine blk_alloc ?_ _));refine blk_far ?_ a7.out _;(with_reducible repeat(first|refine blk_drewN ?_ _|refine blk_drew ?_|refine blk_alloc ?_ _));refine blk_far ?_ a7.out _;exact sT q.out) hb);have aT:=zM (blk_below (g:=m) (o:= .cells #[.int .i64 a1_0,.int .i64 a1_1,.string a1_2,.int .i64 a1_3] 29 (0,0)) (by(with_reducible repeat(first|refine blk_drewN ?_ _|refine blk_drew ?_|refine blk_alloc ?_ _));refine blk_far ?_ a8.out _;(with_reducible repeat(first|refine blk_drewN ?_ _|refine blk_drew ?_|refine blk_alloc ?_ _));refine blk_far ?_ a8.out _;(with_reducible repeat(first|refine blk_drewN ?_ _|refine blk_drew ?_|refine blk_alloc ?_ _));refine blk_far ?_ a8.out _;(with_reducible repeat(first|refine blk_drewN ?_ _|refine blk_drew ?_|refine blk_alloc ?_ _));refine blk_far ?_ a8.out _;exact sT l.out) hb);have aU:=zM (blk_below (g:=s) (o:= .cells #[.int .i64 ((rd_T56 l0_1 a).f0),.int .i64 ((rd_T56 l0_1 a).f1),.string ((rd_T56 l0_1 a).f2),.int .i64 ((rd_T56 l0_1 a).f3),.slice ae ((rd_T56 l0_1 a).f4).length P,.slice (some bo) ((rd_T56 l0_1 a).f5).length Q,.int .i64 ((rd_T56 l0_1 a).f6.f0),.int .i64 ((rd_T56 l0_1 a).f6.f1),.string ((rd_T56 l0_1 a).f6.f2),.int .i64 ((rd_T56 l0_1 a).f6.f3)] 56 (0,0)) (by(with_reducible repeat(first|refine blk_drewN ?_ _|refine blk_drew ?_|refine blk_alloc ?_ _));refine blk_far ?_ a9.out _;(with_reducible repeat(first|refine blk_drewN ?_ _|refine blk_drew ?_|refine blk_alloc ?_ _));refine blk_far ?_ a9.out _;(with_reducible repeat(first|refine blk_drewN ?_ _|refine blk_drew ?_|refine blk_alloc ?_ _));refine blk_far ?_ a9.out _;(with_reducible repeat(first|refine blk_drewN ?_ _|refine blk_drew ?_|refine blk_alloc ?_ _));refine blk_far ?_ a9.out _;exact sT u.out) hb);have aV:=zM (blk_below (g:=ay) (o:= .cells #[.int .i64 ((rd_T29 ((rd_T56 l0_1 a).f5) d).f0),.int .i64 ((rd_T29 ((rd_T56 l0_1 a).f5) d).f1),.string ((rd_T29 ((rd_T56 l0_1 a).f5) d).f2),.int .i64 ((rd_T29 ((rd_T56 l0_1 a).f5) d).f3)] 29 (0,0)) (by exact sP4 (sT ad.out)) hb);have aW:=sB HB hb;clear O;clear q;clear l;clear u;clear ad;clear HB;have O:=aP;have q:=aQ;have l:=aT;have u:=aU;have ad:=aV;have HB:=aW;clear aP aQ aT aU aV aW;(try clear hb);(try clear hk))|((with_reducible refine gate_dst (N:=9) rfl ?_);refine sV (N:=9) (cs:= #[.int .i64 0,.int .i64 0,.string (⟨#[]⟩:ByteArray),.int .i64 0]) (t:=29) ?_;intro gb403 hg gc hbox hb;replace O:=zM (Kd.R_below (Kd.R_elderB (sE O.out) gb403 (Nat.le_of_eq hg.symm)) hb);have aD:=zM (hbox);have bM:=sG HB hg;have bq:=sG HB hg;replace HB:=sB HB hb;have aX:=sN q hg;have cl:=sM q hg;replace q:=sK q hb;have ai:=sN l hg;have cm:=sM l hg;replace l:=sK l hb;have aY:=sN u hg;have cn:=sM u hg;replace u:=sK u hb;have aj:=sN ad hg;have co:=sM ad hg;replace ad:=sK ad hb;clear hb hbox hg;have gd:=cl.out;have gf:=aX.out;have gg:=cm.out;have gh:=ai.out;have gi:=cn.out;have gj:=aY.out;have gl:=co.out;have gm:=aj.out;obtain⟨gn,go,gp,gq,gr,gs,gu,gv⟩:=cells4 aD.out;obtain⟨gw,gx,gy,gz,gA,gB,gC,gD,gE,gF,gG,gH,gI,gJ,gK,gL,gM,gN,gO,gP⟩:=cells10 u.out;obtain⟨gQ,gR,gS,gT,gU,gV,gW,gX⟩:=cells4 ad.out)|((with_reducible refine gate_dst (N:=52) rfl ?_);refine Kd.R_lit k29 _ 29 ?hg (N:=52) ?hd (xs:=([(⟨aC,ax,av,ap⟩:S29),(⟨(rd_T29 ((rd_T56 l0_1 a).f5) d).f0,(rd_T29 ((rd_T56 l0_1 a).f5) d).f1,(rd_T29 ((rd_T56 l0_1 a).f5) d).f2,(rd_T29 ((rd_T56 l0_1 a).f5) d).f3⟩:S29)]:List (S29))) (inner:=[.int .i64 aC,.int .i64 ax,.string av,.int .i64 ap,.int .i64 ((rd_T29 ((rd_T56 l0_1 a).f5) d).f0),.int .i64 ((rd_T29 ((rd_T56 l0_1 a).f5) d).f1),.string ((rd_T29 ((rd_T56 l0_1 a).f5) d).f2),.int .i64 ((rd_T29 ((rd_T56 l0_1 a).f5) d).f3)]) (ok:=fun _=>True) (okp:=fun _=>True) ?hr ?hp (fun _ hk=>hk) trivial (Below.refl _ _) (Nat.le_refl _) (by simp) ?_;(case hd=>rfl);(case hg=>rfl);(case hr=>first|(go_simp;done)|(go_simp;rfl));(case hp=>exact(Reps.c4 (show Kd.M k29 _ _ _ (⟨aC,ax,av,ap⟩:S29) [.int .i64 aC,.int .i64 ax,.string av,.int .i64 ap] from(k29_mkM _ _ _ (⟨aC,ax,av,ap⟩:S29))) (Reps.c4 (show Kd.M k29 _ _ _ (⟨(rd_T29 ((rd_T56 l0_1 a).f5) d).f0,(rd_T29 ((rd_T56 l0_1 a).f5) d).f1,(rd_T29 ((rd_T56 l0_1 a).f5) d).f2,(rd_T29 ((rd_T56 l0_1 a).f5) d).f3⟩:S29) [.int .i64 ((rd_T29 ((rd_T56 l0_1 a).f5) d).f0),.int .i64 ((rd_T29 ((rd_T56 l0_1 a).f5) d).f1),.string ((rd_T29 ((rd_T56 l0_1 a).f5) d).f2),.int .i64 ((rd_T29 ((rd_T56 l0_1 a).f5) d).f3)] from(k29_mkM _ _ _ (⟨(rd_T29 ((rd_T56 l0_1 a).f5) d).f0,(rd_T29 ((rd_T56 l0_1 a).f5) d).f1,(rd_T29 ((rd_T56 l0_1 a).f5) d).f2,(rd_T29 ((rd_T56 l0_1 a).f5) d).f3⟩:S29))) (Reps.none _ _))));intro gY gZ bA hb a0 a1;clear a0 a1;(first|rw[←cH.out]at bA|(simp only[Int.reduceToNat]at bA;rw[←cH.out]at bA));have aP:=zM (Kd.R_elder' (by(with_reducible repeat(first|apply Kd.R_alloc|apply Kd.R_drewN|apply Kd.R_drew));exact(Kd.R_mono (sRF4 (g:=gb403) (Kd.R_mono O.out (fun D hk=>(⟨hk,hk.2⟩:_∧D≠gb403))) (fun _ hk=>hk.2)) (fun _ h_=>h_.1))) (Kd.R_base bA) hb);have aQ:=zM (Kd.R_lower (Kd.R_newB (Kd.R_newB (Kd.R_newB (Kd.R_new' bA (Kd.R_lt (by(with_reducible repeat(first|apply Kd.R_alloc|apply Kd.R_drewN|apply Kd.R_drew));exact(Kd.R_mono (sRF4 (g:=gb403) (Kd.R_mono O.out (fun D hk=>(⟨hk,hk.2⟩:_∧D≠gb403))) (fun _ hk=>hk.2)) (fun _ h_=>h_.1))))) (g:=m) (o:= .cells #[.int .i64 a1_0,.int .i64 a1_1,.string a1_2,.int .i64 a1_3] 29 (0,0)) (by(with_reducible repeat(first|refine blk_drewN ?_ _|refine blk_drew ?_|refine blk_alloc ?_ _));refine blk_far ?_ ai.out _;(with_reducible repeat(first|refine blk_drewN ?_ _|refine blk_drew ?_|refine blk_alloc ?_ _));refine blk_far ?_ ai.out _;(with_reducible repeat(first|refine blk_drewN ?_ _|refine blk_drew ?_|refine blk_alloc ?_ _));refine blk_far ?_ ai.out _;(with_reducible repeat(first|refine blk_drewN ?_ _|refine blk_drew ?_|refine blk_alloc ?_ _));refine blk_far ?_ ai.out _;exact sT l.out)) (g:=ay) (o:= .cells #[.int .i64 ((rd_T29 ((rd_T56 l0_1 a).f5) d).f0),.int .i64 ((rd_T29 ((rd_T56 l0_1 a).f5) d).f1),.string ((rd_T29 ((rd_T56 l0_1 a).f5) d).f2),.int .i64 ((rd_T29 ((rd_T56 l0_1 a).f5) d).f3)] 29 (0,0)) (by(with_reducible repeat(first|refine blk_drewN ?_ _|refine blk_drew ?_|refine blk_alloc ?_ _));refine blk_far ?_ aj.out _;(with_reducible repeat(first|refine blk_drewN ?_ _|refine blk_drew ?_|refine blk_alloc ?_ _));refine blk_far ?_ aj.out _;(with_reducible repeat(first|refine blk_drewN ?_ _|refine blk_drew ?_|refine blk_alloc ?_ _));refine blk_far ?_ aj.out _;(with_reducible repeat(first|refine blk_drewN ?_ _|refine blk_drew ?_|refine blk_alloc ?_ _));refine blk_far ?_ aj.out _;exact sT ad.out)) (g:=gb403) (o:= .cells #[.int .i64 aC,.int .i64 ax,.string av,.int .i64 ap] 29 (0,0)) (by exact sP4 (sT aD.out))) (below_size zzR));have aT:=zM (blk_below (g:=y) (o:= .cells #[.int .i64 a0_0,.slice (some c) l0_1.length c0_1] 34 (0,0)) (by(with_reducible repeat(first|refine blk_drewN ?_ _|refine blk_drew ?_|refine blk_alloc ?_ _));refine blk_far ?_ aX.out _;(with_reducible repeat(first|refine blk_drewN ?_ _|refine blk_drew ?_|refine blk_alloc ?_ _));refine blk_far ?_ aX.out _;(with_reducible repeat(first|refine blk_drewN ?_ _|refine blk_drew ?_|refine blk_alloc ?_ _));refine blk_far ?_ aX.out _;(with_reducible repeat(first|refine blk_drewN ?_ _|refine blk_drew ?_|refine blk_alloc ?_ _));refine blk_far ?_ aX.out _;exact sT q.out) hb);have aU:=zM (blk_below (g:=m) (o:= .cells #[.int .i64 a1_0,.int .i64 a1_1,.string a1_2,.int .i64 a1_3] 29 (0,0)) (by(with_reducible repeat(first|refine blk_drewN ?_ _|refine blk_drew ?_|refine blk_alloc ?_ _));refine blk_far ?_ ai.out _;(with_reducible repeat(first|refine blk_drewN ?_ _|refine blk_drew ?_|refine blk_alloc ?_ _));refine blk_far ?_ ai.out _;(with_reducible repeat(first|refine blk_drewN ?_ _|refine blk_drew ?_|refine blk_alloc ?_ _));refine blk_far ?_ ai.out _;(with_reducible repeat(first|refine blk_drewN ?_ _|refine blk_drew ?_|refine blk_alloc ?_ _));refine blk_far ?_ ai.out _;exact sT l.out) hb);have aV:=zM (blk_below (g:=s) (o:= .cells #[.int .i64 ((rd_T56 l0_1 a).f0),.int .i64 ((rd_T56 l0_1 a).f1),.string ((rd_T56 l0_1 a).f2),.int .i64 ((rd_T56 l0_1 a).f3),.slice ae ((rd_T56 l0_1 a).f4).length P,.slice (some bo) ((rd_T56 l0_1 a).f5).length Q,.int .i64 ((rd_T56 l0_1 a).f6.f0),.int .i64 ((rd_T56 l0_1 a).f6.f1),.string ((rd_T56 l0_1 a).f6.f2),.int .i64 ((rd_T56 l0_1 a).f6.f3)] 56 (0,0)) (by(with_reducible repeat(first|refine blk_drewN ?_ _|refine blk_drew ?_|refine blk_alloc ?_ _));refine blk_far ?_ aY.out _;(with_reducible repeat(first|refine blk_drewN ?_ _|refine blk_drew ?_|refine blk_alloc ?_ _));refine blk_far ?_ aY.out _;(with_reducible repeat(first|refine blk_drewN ?_ _|refine blk_drew ?_|refine blk_alloc ?_ _));refine blk_far ?_ aY.out _;(with_reducible repeat(first|refine blk_drewN ?_ _|refine blk_drew ?_|refine blk_alloc ?_ _));refine blk_far ?_ aY.out _;exact sT u.out) hb);have aW:=zM (blk_below (g:=ay) (o:= .cells #[.int .i64 ((rd_T29 ((rd_T56 l0_1 a).f5) d).f0),.int .i64 ((rd_T29 ((rd_T56 l0_1 a).f5) d).f1),.string ((rd_T29 ((rd_T56 l0_1 a).f5) d).f2),.int .i64 ((rd_T29 ((rd_T56 l0_1 a).f5) d).f3)] 29 (0,0)) (by(with_reducible repeat(first|refine blk_drewN ?_ _|refine blk_drew ?_|refine blk_alloc ?_ _));refine blk_far ?_ aj.out _;(with_reducible repeat(first|refine blk_drewN ?_ _|refine blk_drew ?_|refine blk_alloc ?_ _));refine blk_far ?_ aj.out _;(with_reducible repeat(first|refine blk_drewN ?_ _|refine blk_drew ?_|refine blk_alloc ?_ _));refine blk_far ?_ aj.out _;(with_reducible repeat(first|refine blk_drewN ?_ _|refine blk_drew ?_|refine blk_alloc ?_ _));refine blk_far ?_ aj.out _;exact sT ad.out) hb);have ba:=zM (blk_below (g:=gb403) (o:= .cells #[.int .i64 aC,.int .i64 ax,.string av,.int .i64 ap] 29 (0,0)) (by exact sP4 (sT aD.out)) hb);have bb:=sB HB hb;clear O;clear q;clear l;clear u;clear ad;clear aD;clear HB;have O:=aP;have bB:=aQ;have q:=aT;have l:=aU;have u:=aV;have ad:=aW;have aD:=ba;have HB:=bb;clear aP aQ aT aU aV aW ba bb;clear hb bA;obtain⟨d3,d4,d5⟩:=Kd.R_slice bB.out;subst d5)|((with_reducible refine gate_builtin (b:= .append) (xs:= #[.tmp 49,.tmp 52]) rfl ?_);at_builtin;refine Kd.R_append_rows k29 (w0:=w) w.heap.size rfl (.tmp 49) (.tmp 52) 43 29 (.agg #[(.int .i64 0),(.int .i64 0),(.string ⟨#[]⟩),(.int .i64 0)]) 40 rfl Try.underlying43 info29 rfl (by decide) (by omega) u6 aN bg _ _ _ (fun D=>some D≠(.slice d3 bg.length d4:Value).ownBlock∧D≠m∧D≠ay∧D≠gb403) (fun _=>False) rfl rfl ?aO ?aR (fun _ _ h=>h) (fun _ h=>h.elim) ?aF ?aB ?aS ?aL ?_;(case aR=>exact sD ((Kd.R_reads' bB.out).2.2));(case aB=>exact zzR);(case aF=>exact(fun D hk=>⟨Kd.fresh' (Kd.R_lt (sE bB.out)) D hk,Kd.freshB (g:=m) (o:= .cells #[.int .i64 a1_0,.int .i64 a1_1,.string a1_2,.int .i64 a1_3] 29 (0,0)) (sT l.out) D hk,Kd.freshB (g:=ay) (o:= .cells #[.int .i64 ((rd_T29 ((rd_T56 l0_1 a).f5) d).f0),.int .i64 ((rd_T29 ((rd_T56 l0_1 a).f5) d).f1),.string ((rd_T29 ((rd_T56 l0_1 a).f5) d).f2),.int .i64 ((rd_T29 ((rd_T56 l0_1 a).f5) d).f3)] 29 (0,0)) (sT ad.out) D hk,Kd.freshB (g:=gb403) (o:= .cells #[.int .i64 aC,.int .i64 ax,.string av,.int .i64 ap] 29 (0,0)) (sT aD.out) D hk⟩));(case aO=>exact(by(with_reducible repeat(first|apply Kd.R_alloc|apply Kd.R_drewN|apply Kd.R_drew));exact Kd.R_mono O.out (fun _ hk=>⟨hk.2,⟨hk.1.1.1,⟨hk.1.1.2,hk.1.2⟩⟩⟩)));(case aS=>exact(below_size zzR));(case aL=>have:=d0.out;omega);intro g0 g1 ho hb hg hat;rw[←d1.out]at ho;have aP:=zM (blk_grown (g:=y) (o:= .cells #[.int .i64 a0_0,.slice (some c) l0_1.length c0_1] 34 (0,0)) (sT q.out) hg (Kd.R_ne O.out q.out (by decide)));have aQ:=zM (blk_grown (g:=m) (o:= .cells #[.int .i64 a1_0,.int .i64 a1_1,.string a1_2,.int .i64 a1_3] 29 (0,0)) (sT l.out) hg (Kd.R_away O.out (fun _ hk=>hk.1.1.1)));have aT:=zM (blk_grown (g:=s) (o:= .cells #[.int .i64 ((rd_T56 l0_1 a).f0),.int .i64 ((rd_T56 l0_1 a).f1),.string ((rd_T56 l0_1 a).f2),.int .i64 ((rd_T56 l0_1 a).f3),.slice ae ((rd_T56 l0_1 a).f4).length P,.slice (some bo) ((rd_T56 l0_1 a).f5).length Q,.int .i64 ((rd_T56 l0_1 a).f6.f0),.int .i64 ((rd_T56 l0_1 a).f6.f1),.string ((rd_T56 l0_1 a).f6.f2),.int .i64 ((rd_T56 l0_1 a).f6.f3)] 56 (0,0)) (sT u.out) hg (Kd.R_ne O.out u.out (by decide)));have aU:=zM (blk_grown (g:=ay) (o:= .cells #[.int .i64 ((rd_T29 ((rd_T56 l0_1 a).f5) d).f0),.int .i64 ((rd_T29 ((rd_T56 l0_1 a).f5) d).f1),.string ((rd_T29 ((rd_T56 l0_1 a).f5) d).f2),.int .i64 ((rd_T29 ((rd_T56 l0_1 a).f5) d).f3)] 29 (0,0)) (sT ad.out) hg (Kd.R_away O.out (fun _ hk=>hk.1.1.2)));have aV:=zM (blk_grown (g:=gb403) (o:= .cells #[.int .i64 aC,.int .i64 ax,.string av,.int .i64 ap] 29 (0,0)) (sT aD.out) hg (Kd.R_away O.out (fun _ hk=>hk.1.2)));have aW:=zM (Kd.R_after (ok:=(fun D=>D≠m∧D≠ay∧D≠gb403)) (by(with_reducible repeat(first|apply Kd.R_alloc|apply Kd.R_drewN|apply Kd.R_drew));exact Kd.R_mono bB.out (fun _ hk=>⟨⟨hk.1.1.2,⟨hk.1.2,hk.2⟩⟩,hk.1.1.1.2⟩)) hg hat);have ba:=zM (hb);have bb:=zM (ho);clear q;clear l;clear u;clear ad;clear aD;clear bB;clear HB;clear O;have q:=aP;have l:=aQ;have u:=aT;have ad:=aU;have aD:=aV;have bB:=aW;have HB:=ba;have d6:=bb;clear aP aQ aT aU aV aW ba bb;clear ho hb hg hat))
 go_roundg k2
 case measure=>have:=bQ.out;have:=b5.out;omega
 case rel=>exact⟨(y407),(wrap64 (d+1)),sr,H',⟨by have:=bQ.out;have:=b5.out;omega⟩,⟨by(with_reducible repeat(first|apply Kd.R_alloc|apply Kd.R_drewN|apply Kd.R_drew));exact Kd.R_mono d6.out (fun _ hk=>hk.2.1)⟩,⟨by exact sT q.out⟩,⟨by exact sT l.out⟩,⟨by exact sT u.out⟩,⟨sb⟩⟩)
 rw[if_neg b8]at H
 exact absurd H (by simp))
 rw[if_neg bl]at H
 have c45b0:(((rd_T56 l0_1 a).f1)==1)=false:=zN bl
 have c45b1:(((rd_T56 l0_1 a).f1) !=1)=true:=zX bl
 by_cases b9:d<(((rd_T56 l0_1 a).f4).length:Int)
 ·(
 rw[if_pos b9]at H
 have c68b0:=zT b9
 clear b9
 obtain⟨bh,hy411⟩:∃y_:List (S29),y_=(([(⟨(rd_T29 ((rd_T56 l0_1 a).f4) d).f0,(rd_T29 ((rd_T56 l0_1 a).f4) d).f1,(rd_T29 ((rd_T56 l0_1 a).f4) d).f2,(rd_T29 ((rd_T56 l0_1 a).f4) d).f3⟩:S29),(⟨(rd_T29 ((rd_T56 l0_1 a).f5) d).f0,(rd_T29 ((rd_T56 l0_1 a).f5) d).f1,(rd_T29 ((rd_T56 l0_1 a).f5) d).f2,(rd_T29 ((rd_T56 l0_1 a).f5) d).f3⟩:S29)]:List (S29))):=⟨_,rfl⟩
 replace H:(if aN.length+bh.length<3518437208883 then(impl_PairsOf.l0 k2 (aN++bh) ((rd_T56 l0_1 a).f5) (((rd_T56 l0_1 a).f5).length:Int) (wrap64 (d+1)) ((rd_T56 l0_1 a).f0) ((rd_T56 l0_1 a).f1) ((rd_T56 l0_1 a).f2) ((rd_T56 l0_1 a).f3) ((rd_T56 l0_1 a).f4) ((rd_T56 l0_1 a).f5) ((rd_T56 l0_1 a).f6.f0) ((rd_T56 l0_1 a).f6.f1) ((rd_T56 l0_1 a).f6.f2) ((rd_T56 l0_1 a).f6.f3))else(none))=some r:=by first|(rw[hy411];with_reducible exact H)|(have aA:=(Option.bind_some _ _).symm.trans H;rw[hy411];with_reducible exact aA)|(have aA:=(Option.bind_some _ _).symm.trans H;with_reducible exact aA)|with_reducible exact H|(rw[hy411];exact H)|exact H
 have cI:=zM hy411
 clear hy411
 by_cases ca:aN.length+bh.length<3518437208883
 ·(
 rw[if_pos ca]at H
 have d7:=zM ca
 clear ca
 obtain⟨y414,hy414⟩:∃y_:List (S29),y_=(aN++bh):=⟨_,rfl⟩
 replace H:(impl_PairsOf.l0 k2 y414 ((rd_T56 l0_1 a).f5) (((rd_T56 l0_1 a).f5).length:Int) (wrap64 (d+1)) ((rd_T56 l0_1 a).f0) ((rd_T56 l0_1 a).f1) ((rd_T56 l0_1 a).f2) ((rd_T56 l0_1 a).f3) ((rd_T56 l0_1 a).f4) ((rd_T56 l0_1 a).f5) ((rd_T56 l0_1 a).f6.f0) ((rd_T56 l0_1 a).f6.f1) ((rd_T56 l0_1 a).f6.f2) ((rd_T56 l0_1 a).f6.f3))=some r:=by first|(rw[hy414];with_reducible exact H)|(have aA:=(Option.bind_some _ _).symm.trans H;rw[hy414];with_reducible exact aA)|(have aA:=(Option.bind_some _ _).symm.trans H;with_reducible exact aA)|with_reducible exact H|(rw[hy414];exact H)|exact H
 have d8:=zM hy414
 clear hy414
 have H':=zM H
 clear H
 have bm:0≤(d:Int):=zzA
 have bn:d<(((rd_T56 l0_1 a).f5).length:Int):=zzA
 obtain⟨bo,ch,bI,bJ,bK,bL⟩:=at_T29 cf.out d bm bn
 cases ch
 replace bI:=sX HB bI
 replace bJ:=sX HB bJ
 replace bK:=sX HB bK
 replace bL:=sX HB bL
 replace bm:=eq_true bm
 replace bn:=eq_true bn
 go_wp2_with (first|((with_reducible refine gate_dst (N:=8) rfl ?_);refine sV (N:=8) (cs:= #[.int .i64 0,.int .i64 0,.string (⟨#[]⟩:ByteArray),.int .i64 0]) (t:=29) ?_;intro ay hg g2 hbox hb;replace O:=zM (Kd.R_below (Kd.R_elderB (sE O.out) ay (Nat.le_of_eq hg.symm)) hb);have ad:=zM (hbox);have d2:=sG HB hg;have bp:=sG HB hg;replace HB:=sB HB hb;have a7:=sN q hg;have ci:=sM q hg;replace q:=sK q hb;have a8:=sN l hg;have cj:=sM l hg;replace l:=sK l hb;have a9:=sN u hg;have ck:=sM u hg;replace u:=sK u hb;clear hb hbox hg;have g3:=ci.out;have g4:=a7.out;have g5:=cj.out;have g6:=a8.out;have g7:=ck.out;have g8:=a9.out;obtain⟨g9,ha,hc,he,hf,hh,hj,hl⟩:=cells4 ad.out;have hm:=G.out;have hn:=B.out;have hq:=I.out;have hs:=A.out;obtain⟨ht,hu,hv,hw,hx,hy,hz,hA,hB,hC,hD,hE,hF,hG,hH,hI,hJ,hL,hM,hN⟩:=cells10 u.out)|((with_reducible refine gate_callee (f:=58) rfl ?_);refine sC (some 40) Try.func58 #[.int .i64 (wrap64 (((rd_T56 l0_1 a).f3)+d))] (impl_numberOf.calls (wrap64 (((rd_T56 l0_1 a).f3)+d)) aC ax av ap _ cG.out) ?_;rintro e hO ⟨rfl,hb⟩;refine⟨_,rfl,?_⟩;have aP:=zM (Kd.R_below (by(with_reducible repeat(first|apply Kd.R_alloc|apply Kd.R_drewN|apply Kd.R_drew));exact(Kd.R_mono (sRF4 (g:=ay) (Kd.R_mono O.out (fun D hk=>(⟨hk,hk.2⟩:_∧D≠ay))) (fun _ hk=>hk.2)) (fun _ h_=>h_.1))) hb);have aQ:=zM (blk_below (g:=y) (o:= .cells #[.int .i64 a0_0,.slice (some c) l0_1.length c0_1] 34 (0,0)) (by(with_reducible repeat(first|refine blk_drewN ?_ _|refine blk_drew ?_|refine blk_alloc ?_ _));refine blk_far ?_ a7.out _;(with_reducible repeat(first|refine blk_drewN ?_ _|refine blk_drew ?_|refine blk_alloc ?_ _));refine blk_far ?_ a7.out _;(with_reducible repeat(first|refine blk_drewN ?_ _|refine blk_drew ?_|refine blk_alloc ?_ _));refine blk_far ?_ a7.out _;(with_reducible repeat(first|refine blk_drewN ?_ _|refine blk_drew ?_|refine blk_alloc ?_ _));refine blk_far ?_ a7.out _;exact sT q.out) hb);have aT:=zM (blk_below (g:=m) (o:= .cells #[.int .i64 a1_0,.int .i64 a1_1,.string a1_2,.int .i64 a1_3] 29 (0,0)) (by(with_reducible repeat(first|refine blk_drewN ?_ _|refine blk_drew ?_|refine blk_alloc ?_ _));refine blk_far ?_ a8.out _;(with_reducible repeat(first|refine blk_drewN ?_ _|refine blk_drew ?_|refine blk_alloc ?_ _));refine blk_far ?_ a8.out _;(with_reducible repeat(first|refine blk_drewN ?_ _|refine blk_drew ?_|refine blk_alloc ?_ _));refine blk_far ?_ a8.out _;(with_reducible repeat(first|refine blk_drewN ?_ _|refine blk_drew ?_|refine blk_alloc ?_ _));refine blk_far ?_ a8.out _;exact sT l.out) hb);have aU:=zM (blk_below (g:=s) (o:= .cells #[.int .i64 ((rd_T56 l0_1 a).f0),.int .i64 ((rd_T56 l0_1 a).f1),.string ((rd_T56 l0_1 a).f2),.int .i64 ((rd_T56 l0_1 a).f3),.slice ae ((rd_T56 l0_1 a).f4).length P,.slice (some bo) ((rd_T56 l0_1 a).f5).length Q,.int .i64 ((rd_T56 l0_1 a).f6.f0),.int .i64 ((rd_T56 l0_1 a).f6.f1),.string ((rd_T56 l0_1 a).f6.f2),.int .i64 ((rd_T56 l0_1 a).f6.f3)] 56 (0,0)) (by(with_reducible repeat(first|refine blk_drewN ?_ _|refine blk_drew ?_|refine blk_alloc ?_ _));refine blk_far ?_ a9.out _;(with_reducible repeat(first|refine blk_drewN ?_ _|refine blk_drew ?_|refine blk_alloc ?_ _));refine blk_far ?_ a9.out _;(with_reducible repeat(first|refine blk_drewN ?_ _|refine blk_drew ?_|refine blk_alloc ?_ _));refine blk_far ?_ a9.out _;(with_reducible repeat(first|refine blk_drewN ?_ _|refine blk_drew ?_|refine blk_alloc ?_ _));refine blk_far ?_ a9.out _;exact sT u.out) hb);have aV:=zM (blk_below (g:=ay) (o:= .cells #[.int .i64 ((rd_T29 ((rd_T56 l0_1 a).f5) d).f0),.int .i64 ((rd_T29 ((rd_T56 l0_1 a).f5) d).f1),.string ((rd_T29 ((rd_T56 l0_1 a).f5) d).f2),.int .i64 ((rd_T29 ((rd_T56 l0_1 a).f5) d).f3)] 29 (0,0)) (by exact sP4 (sT ad.out)) hb);have aW:=sB HB hb;clear O;clear q;clear l;clear u;clear ad;clear HB;have O:=aP;have q:=aQ;have l:=aT;have u:=aU;have ad:=aV;have HB:=aW;clear aP aQ aT aU aV aW;(try clear hb);(try clear hk))|((with_reducible refine gate_dst (N:=9) rfl ?_);refine sV (N:=9) (cs:= #[.int .i64 0,.int .i64 0,.string (⟨#[]⟩:ByteArray),.int .i64 0]) (t:=29) ?_;intro gb403 hg hP hbox hb;replace O:=zM (Kd.R_below (Kd.R_elderB (sE O.out) gb403 (Nat.le_of_eq hg.symm)) hb);have aD:=zM (hbox);have bM:=sG HB hg;have bq:=sG HB hg;replace HB:=sB HB hb;have aX:=sN q hg;have cl:=sM q hg;replace q:=sK q hb;have ai:=sN l hg;have cm:=sM l hg;replace l:=sK l hb;have aY:=sN u hg;have cn:=sM u hg;replace u:=sK u hb;have aj:=sN ad hg;have co:=sM ad hg;replace ad:=sK ad hb;clear hb hbox hg;have hQ:=cl.out;have hR:=aX.out;have hS:=cm.out;have hT:=ai.out;have hU:=cn.out;have hV:=aY.out;have hW:=co.out;have hX:=aj.out;obtain⟨hY,hZ,h0,h1,h2,h3,h4,h5⟩:=cells4 aD.out;obtain⟨h6,h7,h8,h9,ia,ib,ic,ie,ig,ih,ii,ij,ik,il,im,ip,iq,ir,it,iu⟩:=cells10 u.out;have cp:0≤(d:Int):=zzA;have cq:d<(((rd_T56 l0_1 a).f4).length:Int):=zzA;obtain⟨bC,d9,aZ,bd,be,bf⟩:=at_T29 cz.out d cp cq;cases d9;have a2:bC.block≠gb403:=zzU aZ bM.out;have a3:bC.block≠gb403:=zzU aZ bM.out;have a4:bC.block≠gb403:=zzU aZ bM.out;have a5:bC.block≠gb403:=zzU aZ bM.out;replace aZ:=sX HB aZ;replace bd:=sX HB bd;replace be:=sX HB be;replace bf:=sX HB bf;replace aZ:=(cell_far (p:=⟨gb403,0,none⟩) (zzK a2) (.int .i64 aC)).trans aZ;replace bd:=(cell_far (p:=⟨gb403,0,none⟩) (zzK a2) (.int .i64 aC)).trans bd;replace be:=(cell_far (p:=⟨gb403,0,none⟩) (zzK a2) (.int .i64 aC)).trans be;replace bf:=(cell_far (p:=⟨gb403,0,none⟩) (zzK a2) (.int .i64 aC)).trans bf;replace aZ:=(cell_far (p:=⟨gb403,1,none⟩) (zzK a3) (.int .i64 ax)).trans aZ;replace bd:=(cell_far (p:=⟨gb403,1,none⟩) (zzK a3) (.int .i64 ax)).trans bd;replace be:=(cell_far (p:=⟨gb403,1,none⟩) (zzK a3) (.int .i64 ax)).trans be;replace bf:=(cell_far (p:=⟨gb403,1,none⟩) (zzK a3) (.int .i64 ax)).trans bf;replace aZ:=(cell_far (p:=⟨gb403,2,none⟩) (zzK a4) (.string av)).trans aZ;replace bd:=(cell_far (p:=⟨gb403,2,none⟩) (zzK a4) (.string av)).trans bd;replace be:=(cell_far (p:=⟨gb403,2,none⟩) (zzK a4) (.string av)).trans be;replace bf:=(cell_far (p:=⟨gb403,2,none⟩) (zzK a4) (.string av)).trans bf;replace aZ:=(cell_far (p:=⟨gb403,3,none⟩) (zzK a5) (.int .i64 ap)).trans aZ;replace bd:=(cell_far (p:=⟨gb403,3,none⟩) (zzK a5) (.int .i64 ap)).trans bd;replace be:=(cell_far (p:=⟨gb403,3,none⟩) (zzK a5) (.int .i64 ap)).trans be;replace bf:=(cell_far (p:=⟨gb403,3,none⟩) (zzK a5) (.int .i64 ap)).trans bf;clear a2;clear a3;clear a4;clear a5;replace cp:=eq_true cp;replace cq:=eq_true cq;obtain⟨iv,iw,ix,iy,iz,iA,iB,iC⟩:=cells4 ad.out)|((with_reducible refine gate_dst (N:=50) rfl ?_);generalize hW_:World.setCell _ ⟨gb403,3,none⟩ _=w9;have n_aD:=zM (show w9.heap[gb403]?=some (.cells #[.int .i64 ((rd_T29 ((rd_T56 l0_1 a).f4) d).f0),.int .i64 ((rd_T29 ((rd_T56 l0_1 a).f4) d).f1),.string ((rd_T29 ((rd_T56 l0_1 a).f4) d).f2),.int .i64 ((rd_T29 ((rd_T56 l0_1 a).f4) d).f3)] 29 (0,0)) from(by rw[←hW_];exact sP4 (sP4 (sT aD.out))));have n_q:=zM (show w9.heap[_]?=some _ from(by rw[←hW_];exact blk_far (blk_far (blk_far (blk_far (blk_far (blk_far (blk_far (blk_far (sT q.out) aX.out _) aX.out _) aX.out _) aX.out _) aX.out _) aX.out _) aX.out _) aX.out _));have n_l:=zM (show w9.heap[_]?=some _ from(by rw[←hW_];exact blk_far (blk_far (blk_far (blk_far (blk_far (blk_far (blk_far (blk_far (sT l.out) ai.out _) ai.out _) ai.out _) ai.out _) ai.out _) ai.out _) ai.out _) ai.out _));have n_u:=zM (show w9.heap[_]?=some _ from(by rw[←hW_];exact blk_far (blk_far (blk_far (blk_far (blk_far (blk_far (blk_far (blk_far (sT u.out) aY.out _) aY.out _) aY.out _) aY.out _) aY.out _) aY.out _) aY.out _) aY.out _));have n_ad:=zM (show w9.heap[_]?=some _ from(by rw[←hW_];exact blk_far (blk_far (blk_far (blk_far (blk_far (blk_far (blk_far (blk_far (sT ad.out) aj.out _) aj.out _) aj.out _) aj.out _) aj.out _) aj.out _) aj.out _) aj.out _));have n_O:=zM (show Kd.R _ _ w9 _ _ _ _ from(by rw[←hW_];exact (Kd.R_mono (sRF4 (g:=gb403) (sRF4 (g:=gb403) (Kd.R_mono O.out (fun D hk=>(⟨hk,hk.2⟩:_∧D≠gb403))) (fun _ hk=>hk.2)) (fun _ hk=>hk.2)) (fun _ h_=>h_.1))));have n_HB:=zM (show Below _ _ w9 from(by rw[←hW_];first|exact zzR|exact sb));clear hW_ O q l u ad aD HB hY hZ h0 h1 h2 h3 h4 h5 h6 h7 h8 h9 ia ib ic ie ig ih ii ij ik il im ip iq ir it iu iv iw ix iy iz iA iB iC aZ bd be bf;have O:=n_O;have q:=n_q;have l:=n_l;have u:=n_u;have ad:=n_ad;have aD:=n_aD;have HB:=n_HB;clear n_O n_q n_l n_u n_ad n_aD n_HB;obtain⟨jA,jB,jC,jD,jE,jF,jG,jH⟩:=cells4 aD.out;obtain⟨jI,jJ,jK,jL,jM,jN,jO,jP⟩:=cells4 ad.out)|((with_reducible refine gate_dst (N:=52) rfl ?_);refine Kd.R_lit k29 _ 29 ?hg (N:=52) ?hd (xs:=([(⟨(rd_T29 ((rd_T56 l0_1 a).f4) d).f0,(rd_T29 ((rd_T56 l0_1 a).f4) d).f1,(rd_T29 ((rd_T56 l0_1 a).f4) d).f2,(rd_T29 ((rd_T56 l0_1 a).f4) d).f3⟩:S29),(⟨(rd_T29 ((rd_T56 l0_1 a).f5) d).f0,(rd_T29 ((rd_T56 l0_1 a).f5) d).f1,(rd_T29 ((rd_T56 l0_1 a).f5) d).f2,(rd_T29 ((rd_T56 l0_1 a).f5) d).f3⟩:S29)]:List (S29))) (inner:=[.int .i64 ((rd_T29 ((rd_T56 l0_1 a).f4) d).f0),.int .i64 ((rd_T29 ((rd_T56 l0_1 a).f4) d).f1),.string ((rd_T29 ((rd_T56 l0_1 a).f4) d).f2),.int .i64 ((rd_T29 ((rd_T56 l0_1 a).f4) d).f3),.int .i64 ((rd_T29 ((rd_T56 l0_1 a).f5) d).f0),.int .i64 ((rd_T29 ((rd_T56 l0_1 a).f5) d).f1),.string ((rd_T29 ((rd_T56 l0_1 a).f5) d).f2),.int .i64 ((rd_T29 ((rd_T56 l0_1 a).f5) d).f3)]) (ok:=fun _=>True) (okp:=fun _=>True) ?hr ?hp (fun _ hk=>hk) trivial (Below.refl _ _) (Nat.le_refl _) (by simp) ?_;(case hd=>rfl);(case hg=>rfl);(case hr=>first|(go_simp;done)|(go_simp;rfl));(case hp=>exact(Reps.c4 (show Kd.M k29 _ _ _ (⟨(rd_T29 ((rd_T56 l0_1 a).f4) d).f0,(rd_T29 ((rd_T56 l0_1 a).f4) d).f1,(rd_T29 ((rd_T56 l0_1 a).f4) d).f2,(rd_T29 ((rd_T56 l0_1 a).f4) d).f3⟩:S29) [.int .i64 ((rd_T29 ((rd_T56 l0_1 a).f4) d).f0),.int .i64 ((rd_T29 ((rd_T56 l0_1 a).f4) d).f1),.string ((rd_T29 ((rd_T56 l0_1 a).f4) d).f2),.int .i64 ((rd_T29 ((rd_T56 l0_1 a).f4) d).f3)] from(k29_mkM _ _ _ (⟨(rd_T29 ((rd_T56 l0_1 a).f4) d).f0,(rd_T29 ((rd_T56 l0_1 a).f4) d).f1,(rd_T29 ((rd_T56 l0_1 a).f4) d).f2,(rd_T29 ((rd_T56 l0_1 a).f4) d).f3⟩:S29))) (Reps.c4 (show Kd.M k29 _ _ _ (⟨(rd_T29 ((rd_T56 l0_1 a).f5) d).f0,(rd_T29 ((rd_T56 l0_1 a).f5) d).f1,(rd_T29 ((rd_T56 l0_1 a).f5) d).f2,(rd_T29 ((rd_T56 l0_1 a).f5) d).f3⟩:S29) [.int .i64 ((rd_T29 ((rd_T56 l0_1 a).f5) d).f0),.int .i64 ((rd_T29 ((rd_T56 l0_1 a).f5) d).f1),.string ((rd_T29 ((rd_T56 l0_1 a).f5) d).f2),.int .i64 ((rd_T29 ((rd_T56 l0_1 a).f5) d).f3)] from(k29_mkM _ _ _ (⟨(rd_T29 ((rd_T56 l0_1 a).f5) d).f0,(rd_T29 ((rd_T56 l0_1 a).f5) d).f1,(rd_T29 ((rd_T56 l0_1 a).f5) d).f2,(rd_T29 ((rd_T56 l0_1 a).f5) d).f3⟩:S29))) (Reps.none _ _))));intro iD iE bD hb a0 a1;clear a0 a1;(first|rw[←cI.out]at bD|(simp only[Int.reduceToNat]at bD;rw[←cI.out]at bD));have aP:=zM (Kd.R_elder' (by(with_reducible repeat(first|apply Kd.R_alloc|apply Kd.R_drewN|apply Kd.R_drew));exact O.out) (Kd.R_base bD) hb);have aQ:=zM (Kd.R_lower (Kd.R_newB (Kd.R_newB (Kd.R_newB (Kd.R_new' bD (Kd.R_lt (by(with_reducible repeat(first|apply Kd.R_alloc|apply Kd.R_drewN|apply Kd.R_drew));exact O.out))) (g:=m) (o:= .cells #[.int .i64 a1_0,.int .i64 a1_1,.string a1_2,.int .i64 a1_3] 29 (0,0)) (sT l.out)) (g:=ay) (o:= .cells #[.int .i64 ((rd_T29 ((rd_T56 l0_1 a).f5) d).f0),.int .i64 ((rd_T29 ((rd_T56 l0_1 a).f5) d).f1),.string ((rd_T29 ((rd_T56 l0_1 a).f5) d).f2),.int .i64 ((rd_T29 ((rd_T56 l0_1 a).f5) d).f3)] 29 (0,0)) (sT ad.out)) (g:=gb403) (o:= .cells #[.int .i64 ((rd_T29 ((rd_T56 l0_1 a).f4) d).f0),.int .i64 ((rd_T29 ((rd_T56 l0_1 a).f4) d).f1),.string ((rd_T29 ((rd_T56 l0_1 a).f4) d).f2),.int .i64 ((rd_T29 ((rd_T56 l0_1 a).f4) d).f3)] 29 (0,0)) (sT aD.out)) (below_size zzR));have aT:=zM (blk_below (g:=y) (o:= .cells #[.int .i64 a0_0,.slice (some c) l0_1.length c0_1] 34 (0,0)) (sT q.out) hb);have aU:=zM (blk_below (g:=m) (o:= .cells #[.int .i64 a1_0,.int .i64 a1_1,.string a1_2,.int .i64 a1_3] 29 (0,0)) (sT l.out) hb);have aV:=zM (blk_below (g:=s) (o:= .cells #[.int .i64 ((rd_T56 l0_1 a).f0),.int .i64 ((rd_T56 l0_1 a).f1),.string ((rd_T56 l0_1 a).f2),.int .i64 ((rd_T56 l0_1 a).f3),.slice (some bC) ((rd_T56 l0_1 a).f4).length P,.slice (some bo) ((rd_T56 l0_1 a).f5).length Q,.int .i64 ((rd_T56 l0_1 a).f6.f0),.int .i64 ((rd_T56 l0_1 a).f6.f1),.string ((rd_T56 l0_1 a).f6.f2),.int .i64 ((rd_T56 l0_1 a).f6.f3)] 56 (0,0)) (sT u.out) hb);have aW:=zM (blk_below (g:=ay) (o:= .cells #[.int .i64 ((rd_T29 ((rd_T56 l0_1 a).f5) d).f0),.int .i64 ((rd_T29 ((rd_T56 l0_1 a).f5) d).f1),.string ((rd_T29 ((rd_T56 l0_1 a).f5) d).f2),.int .i64 ((rd_T29 ((rd_T56 l0_1 a).f5) d).f3)] 29 (0,0)) (sT ad.out) hb);have ba:=zM (blk_below (g:=gb403) (o:= .cells #[.int .i64 ((rd_T29 ((rd_T56 l0_1 a).f4) d).f0),.int .i64 ((rd_T29 ((rd_T56 l0_1 a).f4) d).f1),.string ((rd_T29 ((rd_T56 l0_1 a).f4) d).f2),.int .i64 ((rd_T29 ((rd_T56 l0_1 a).f4) d).f3)] 29 (0,0)) (sT aD.out) hb);have bb:=sB HB hb;clear O;clear q;clear l;clear u;clear ad;clear aD;clear HB;have O:=aP;have bE:=aQ;have q:=aT;have l:=aU;have u:=aV;have ad:=aW;have aD:=ba;have HB:=bb;clear aP aQ aT aU aV aW ba bb;clear hb bD;obtain⟨ea,eb,ec⟩:=Kd.R_slice bE.out;subst ec)|((with_reducible refine gate_builtin (b:= .append) (xs:= #[.tmp 49,.tmp 52]) rfl ?_);at_builtin;refine Kd.R_append_rows k29 (w0:=w) w.heap.size rfl (.tmp 49) (.tmp 52) 43 29 (.agg #[(.int .i64 0),(.int .i64 0),(.string ⟨#[]⟩),(.int .i64 0)]) 40 rfl Try.underlying43 info29 rfl (by decide) (by omega) u6 aN bh _ _ _ (fun D=>some D≠(.slice ea bh.length eb:Value).ownBlock∧D≠m∧D≠ay∧D≠gb403) (fun _=>False) rfl rfl ?aO ?aR (fun _ _ h=>h) (fun _ h=>h.elim) ?aF ?aB ?aS ?aL ?_;(case aR=>exact sD ((Kd.R_reads' bE.out).2.2));(case aB=>exact zzR);(case aF=>exact(fun D hk=>⟨Kd.fresh' (Kd.R_lt (sE bE.out)) D hk,Kd.freshB (g:=m) (o:= .cells #[.int .i64 a1_0,.int .i64 a1_1,.string a1_2,.int .i64 a1_3] 29 (0,0)) (sT l.out) D hk,Kd.freshB (g:=ay) (o:= .cells #[.int .i64 ((rd_T29 ((rd_T56 l0_1 a).f5) d).f0),.int .i64 ((rd_T29 ((rd_T56 l0_1 a).f5) d).f1),.string ((rd_T29 ((rd_T56 l0_1 a).f5) d).f2),.int .i64 ((rd_T29 ((rd_T56 l0_1 a).f5) d).f3)] 29 (0,0)) (sT ad.out) D hk,Kd.freshB (g:=gb403) (o:= .cells #[.int .i64 ((rd_T29 ((rd_T56 l0_1 a).f4) d).f0),.int .i64 ((rd_T29 ((rd_T56 l0_1 a).f4) d).f1),.string ((rd_T29 ((rd_T56 l0_1 a).f4) d).f2),.int .i64 ((rd_T29 ((rd_T56 l0_1 a).f4) d).f3)] 29 (0,0)) (sT aD.out) D hk⟩));(case aO=>exact(by(with_reducible repeat(first|apply Kd.R_alloc|apply Kd.R_drewN|apply Kd.R_drew));exact Kd.R_mono O.out (fun _ hk=>⟨hk.2,⟨hk.1.1.1,⟨hk.1.1.2,hk.1.2⟩⟩⟩)));(case aS=>exact(below_size zzR));(case aL=>have:=d7.out;omega);intro iF iG ho hb hg hat;rw[←d8.out]at ho;have aP:=zM (blk_grown (g:=y) (o:= .cells #[.int .i64 a0_0,.slice (some c) l0_1.length c0_1] 34 (0,0)) (sT q.out) hg (Kd.R_ne O.out q.out (by decide)));have aQ:=zM (blk_grown (g:=m) (o:= .cells #[.int .i64 a1_0,.int .i64 a1_1,.string a1_2,.int .i64 a1_3] 29 (0,0)) (sT l.out) hg (Kd.R_away O.out (fun _ hk=>hk.1.1.1)));have aT:=zM (blk_grown (g:=s) (o:= .cells #[.int .i64 ((rd_T56 l0_1 a).f0),.int .i64 ((rd_T56 l0_1 a).f1),.string ((rd_T56 l0_1 a).f2),.int .i64 ((rd_T56 l0_1 a).f3),.slice (some bC) ((rd_T56 l0_1 a).f4).length P,.slice (some bo) ((rd_T56 l0_1 a).f5).length Q,.int .i64 ((rd_T56 l0_1 a).f6.f0),.int .i64 ((rd_T56 l0_1 a).f6.f1),.string ((rd_T56 l0_1 a).f6.f2),.int .i64 ((rd_T56 l0_1 a).f6.f3)] 56 (0,0)) (sT u.out) hg (Kd.R_ne O.out u.out (by decide)));have aU:=zM (blk_grown (g:=ay) (o:= .cells #[.int .i64 ((rd_T29 ((rd_T56 l0_1 a).f5) d).f0),.int .i64 ((rd_T29 ((rd_T56 l0_1 a).f5) d).f1),.string ((rd_T29 ((rd_T56 l0_1 a).f5) d).f2),.int .i64 ((rd_T29 ((rd_T56 l0_1 a).f5) d).f3)] 29 (0,0)) (sT ad.out) hg (Kd.R_away O.out (fun _ hk=>hk.1.1.2)));have aV:=zM (blk_grown (g:=gb403) (o:= .cells #[.int .i64 ((rd_T29 ((rd_T56 l0_1 a).f4) d).f0),.int .i64 ((rd_T29 ((rd_T56 l0_1 a).f4) d).f1),.string ((rd_T29 ((rd_T56 l0_1 a).f4) d).f2),.int .i64 ((rd_T29 ((rd_T56 l0_1 a).f4) d).f3)] 29 (0,0)) (sT aD.out) hg (Kd.R_away O.out (fun _ hk=>hk.1.2)));have aW:=zM (Kd.R_after (ok:=(fun D=>D≠m∧D≠ay∧D≠gb403)) (by(with_reducible repeat(first|apply Kd.R_alloc|apply Kd.R_drewN|apply Kd.R_drew));exact Kd.R_mono bE.out (fun _ hk=>⟨⟨hk.1.1.2,⟨hk.1.2,hk.2⟩⟩,hk.1.1.1.2⟩)) hg hat);have ba:=zM (hb);have bb:=zM (ho);clear q;clear l;clear u;clear ad;clear aD;clear bE;clear HB;clear O;have q:=aP;have l:=aQ;have u:=aT;have ad:=aU;have aD:=aV;have bE:=aW;have HB:=ba;have ed:=bb;clear aP aQ aT aU aV aW ba bb;clear ho hb hg hat))
 go_roundg k2
 case measure=>have:=bQ.out;have:=b5.out;omega
 case rel=>exact⟨(y414),(wrap64 (d+1)),sr,H',⟨by have:=bQ.out;have:=b5.out;omega⟩,⟨by(with_reducible repeat(first|apply Kd.R_alloc|apply Kd.R_drewN|apply Kd.R_drew));exact Kd.R_mono ed.out (fun _ hk=>hk.2.1)⟩,⟨by exact sT q.out⟩,⟨by exact sT l.out⟩,⟨by exact sT u.out⟩,⟨sb⟩⟩)
 rw[if_neg ca]at H
 exact absurd H (by simp))
 rw[if_neg b9]at H
 exact absurd H (by simp))
 rw[if_neg b7]at H
 exact absurd H (by simp))
 rw[if_neg b6]at H
 exact absurd H (by simp))
 rw[if_neg bz]at H
 have c41b0:=zF bz
 clear bz
 obtain rfl:=zI H
 go_wp2
 go_ret
 exact⟨_,sq,by(with_reducible repeat(first|apply Kd.R_alloc|apply Kd.R_drewN|apply Kd.R_drew));exact Kd.R_mono O.out (fun _ hk=>trivial),sb⟩)))
 rw[if_neg bU]at H
 exact absurd H (by simp))
 rw[if_neg bT]at H
 exact absurd H (by simp)))
end Go.Proofs.Ytengilknjiobiaa.PFnExactPairsOf
