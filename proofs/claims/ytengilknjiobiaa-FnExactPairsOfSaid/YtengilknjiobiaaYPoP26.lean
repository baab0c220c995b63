/- Printed functions: laws_eqObjectS, laws_eqHeap. -/
import Derived.Test.YtengilknjiobiaaYPoP0
import Derived.Test.YtengilknjiobiaaYPoP23
namespace Go.Proofs.Ytengilknjiobiaa.PFnExactPairsOf
open Go.RowKit Go.Proofs.YtengilknjiobiaaG Go.Proofs.YtengilknjiobiaaW.PrintWords Go.Proofs.YtengilknjiobiaaW.PrintLast Go.Proofs.YtengilknjiobiaaW.PrintMore
attribute [local go_sem] max2_int min2_int max_two min_two max_three min_three max_four min_four
set_option linter.unusedVariables false
set_option linter.unusedSimpArgs false
def laws_eqObjectS.l0 : Nat → List (S56) → List (S56) → Int → Option (Bool)
 |0,_,_,_=>none
 |k+1,x0,x1,x5=>if x5<(x0.length:Int)then(if 0≤x5 then(if x5<(x1.length:Int)then((laws_eqObject.f k ((rd_T56 x0 x5).f0) ((rd_T56 x0 x5).f1) ((rd_T56 x0 x5).f2) ((rd_T56 x0 x5).f3) ((rd_T56 x0 x5).f4) ((rd_T56 x0 x5).f5) ((rd_T56 x0 x5).f6.f0) ((rd_T56 x0 x5).f6.f1) ((rd_T56 x0 x5).f6.f2) ((rd_T56 x0 x5).f6.f3) ((rd_T56 x1 x5).f0) ((rd_T56 x1 x5).f1) ((rd_T56 x1 x5).f2) ((rd_T56 x1 x5).f3) ((rd_T56 x1 x5).f4) ((rd_T56 x1 x5).f5) ((rd_T56 x1 x5).f6.f0) ((rd_T56 x1 x5).f6.f1) ((rd_T56 x1 x5).f6.f2) ((rd_T56 x1 x5).f6.f3)).bind fun t429=>(if t429=true then(laws_eqObjectS.l0 k x0 x1 (wrap64 (x5+1)))else(some false)))else(none))else(none))else(some true)
def laws_eqObjectS.f (k:Nat) (l0:List (S56)) (l1:List (S56)):Option (Bool):=if(l0.length:Int)=(l1.length:Int)then(laws_eqObjectS.l0 k l0 l1 0)else(some false)
def laws_eqObjectS.T6:Bool×List (List Nat×List Nat):=(true,[([],[]),([],[]),([0,1],[0,1]),([2],[2]),([],[]),([],[]),([4,5],[4,5]),([6],[6]),([3,7],[3,7]),([8],[8])])
def laws_eqObjectS.B6:List Nat:=[0,0,3,7,0,0,48,112,255,511]
theorem laws_eqObjectS.tab6:rtab .any (opsOf Try.f47 6)=laws_eqObjectS.T6:=by kernel_rfl
theorem laws_eqObjectS.bits6:waitsOk laws_eqObjectS.T6.2 laws_eqObjectS.B6=true:=by kernel_rfl
set_option maxHeartbeats 8000000 in
set_option maxRecDepth 100000 in
theorem laws_eqObjectS.calls (k:Nat) (A0:Option Addr) (c0:Nat) (l0:List (S56)) (A1:Option Addr) (c1:Nat) (l1:List (S56)) (r:Bool) (w:World) (hr0:Kd.C k56 w A0 l0.length l0) (hc0:l0.length≤c0) (hr1:Kd.C k56 w A1 l1.length l1) (hc1:l1.length≤c1) (h:laws_eqObjectS.f k l0 l1=some r):
  Calls Try.prog 47 #[.slice A0 l0.length c0,.slice A1 l1.length c1] w fun e w'=>e= .returned (.bool r)∧Below w.heap.size w w':=by
 have a3:=Try.underlying56
 have aZ:=zM hr0
 have a4:=zM hc0
 clear hr0 hc0
 have a0:=zM hr1
 have a5:=zM hc1
 clear hr1 hc1
 have HB:=zM (Below.refl w.heap.size w)
 have H:(if(l0.length:Int)=(l1.length:Int)then(laws_eqObjectS.l0 k l0 l1 0)else(some false))=some r:=h
 clear h
 by_cases g:(l0.length:Int)=(l1.length:Int)
 ·(
 rw[if_pos g]at H
 have c3b0:((l0.length:Int)==(l1.length:Int))=true:=zE g
 have c3b1:((l0.length:Int) !=(l1.length:Int))=false:=zY g
 have c3b2:(l0.length==l1.length)=true:=by first|simpa using g|(simp at g ⊢;omega)
 clear g
 have H':=zM H
 clear H
 go_enter Try.func47,Try.ntmps47
 go_wp2
 go_loopg [5] k (fun kq v5 w'=>∃(a:Int),v5= .int .i64 a∧Aside0 (laws_eqObjectS.l0 kq l0 l1 a=some r)∧Aside0 (kq≤k)∧Aside0 (Below w.heap.size w w'))
 case atStart=>exact⟨(0),sr,H',⟨Nat.le_refl _⟩,⟨sb⟩⟩
 case round=>(
 clear H'
 try clear c1
 try clear g
 try clear c3b0
 try clear c3b1
 try clear c3b2
 obtain⟨a,rfl,HA,a1,HB⟩:=hrel
 cases gk with
 |zero=>exact absurd HA.out (by simp[laws_eqObjectS.l0])
 |succ k1=>(
 have H:=HA.out
 clear HA
 simp only[laws_eqObjectS.l0]at H
 by_cases c4:a<(l0.length:Int)
 ·(
 rw[if_pos c4]at H
 have c4b0:=zT c4
 clear c4
 by_cases c5:0≤a
 ·(
 rw[if_pos c5]at H
 have c5b0:=zT c5
 clear c5
 by_cases c6:a<(l1.length:Int)
 ·(
 rw[if_pos c6]at H
 have c6b0:=zT c6
 clear c6
 obtain⟨a2,A7,H⟩:=sO H
 by_cases c8:a2=true
 ·(
 subst c8
 rewrite[if_pos rfl]at H
 have H':=zM H
 clear H
 try go_wp2
 replace HB:=zM (below_drew1 HB.out)
 have ai:0≤(a:Int):=zzA
 have aj:a<(l0.length:Int):=zzA
 obtain⟨b,am,an,ao,ap,aJ,j,l,m,o,p,q,s,u,x,y,aq,ar,au,av⟩:=at_T56 aZ.out a ai aj
 have z:=y
 have A:=x
 have B:=u
 have D:=s
 have E:=q
 have F:=p
 have G:=o
 have I:=m
 have J:=l
 have L:=j
 cases aJ
 replace j:=sX HB j
 replace l:=sX HB l
 replace m:=sX HB m
 replace o:=sX HB o
 replace p:=sX HB p
 replace q:=sX HB q
 replace s:=sX HB s
 replace u:=sX HB u
 replace x:=sX HB x
 replace y:=sX HB y
 have aw:=zM ar
 have aK:=zM aq
 clear ar aq
 have ax:=zM av
 have aL:=zM au
 clear av au
 replace ai:=eq_true ai
 replace aj:=eq_true aj
 have ak:0≤(a:Int):=zzA
 have al:a<(l1.length:Int):=zzA
 obtain⟨c,ay,az,aA,aB,aM,M,O,P,Q,R,T,U,V,W,X,aC,aD,aE,aF⟩:=at_T56 a0.out a ak al
 have Y:=X
 have Z:=W
 have aa:=V
 have ab:=U
 have ac:=T
 have ad:=R
 have ae:=Q
 have af:=P
 have ag:=O
 have ah:=M
 cases aM
 replace M:=sX HB M
 replace O:=sX HB O
 replace P:=sX HB P
 replace Q:=sX HB Q
 replace R:=sX HB R
 replace T:=sX HB T
 replace U:=sX HB U
 replace V:=sX HB V
 replace W:=sX HB W
 replace X:=sX HB X
 have aG:=zM aD
 have aN:=zM aC
 clear aD aC
 have aH:=zM aF
 have aO:=zM aE
 clear aF aE
 replace ak:=eq_true ak
 replace al:=eq_true al
 refine start_ (n:=10) (S:=fun w'=>w'.cell? (b.add ((a).toNat*10))=some (.int .i64 ((rd_T56 l0 a).f0))∧w'.cell? ⟨(b.add ((a).toNat*10)).block,(b.add ((a).toNat*10)).off+1,none⟩=some (.int .i64 ((rd_T56 l0 a).f1))∧w'.cell? ⟨(b.add ((a).toNat*10)).block,(b.add ((a).toNat*10)).off+2,none⟩=some (.string ((rd_T56 l0 a).f2))∧w'.cell? ⟨(b.add ((a).toNat*10)).block,(b.add ((a).toNat*10)).off+3,none⟩=some (.int .i64 ((rd_T56 l0 a).f3))∧w'.cell? ⟨(b.add ((a).toNat*10)).block,(b.add ((a).toNat*10)).off+4,none⟩=some (.slice am ((rd_T56 l0 a).f4).length an)∧w'.cell? ⟨(b.add ((a).toNat*10)).block,(b.add ((a).toNat*10)).off+5,none⟩=some (.slice ao ((rd_T56 l0 a).f5).length ap)∧w'.cell? ⟨(b.add ((a).toNat*10)).block,(b.add ((a).toNat*10)).off+6,none⟩=some (.int .i64 ((rd_T56 l0 a).f6.f0))∧w'.cell? ⟨(b.add ((a).toNat*10)).block,(b.add ((a).toNat*10)).off+7,none⟩=some (.int .i64 ((rd_T56 l0 a).f6.f1))∧w'.cell? ⟨(b.add ((a).toNat*10)).block,(b.add ((a).toNat*10)).off+8,none⟩=some (.string ((rd_T56 l0 a).f6.f2))∧w'.cell? ⟨(b.add ((a).toNat*10)).block,(b.add ((a).toNat*10)).off+9,none⟩=some (.int .i64 ((rd_T56 l0 a).f6.f3))∧w'.cell? (c.add ((a).toNat*10))=some (.int .i64 ((rd_T56 l1 a).f0))∧w'.cell? ⟨(c.add ((a).toNat*10)).block,(c.add ((a).toNat*10)).off+1,none⟩=some (.int .i64 ((rd_T56 l1 a).f1))∧w'.cell? ⟨(c.add ((a).toNat*10)).block,(c.add ((a).toNat*10)).off+2,none⟩=some (.string ((rd_T56 l1 a).f2))∧w'.cell? ⟨(c.add ((a).toNat*10)).block,(c.add ((a).toNat*10)).off+3,none⟩=some (.int .i64 ((rd_T56 l1 a).f3))∧w'.cell? ⟨(c.add ((a).toNat*10)).block,(c.add ((a).toNat*10)).off+4,none⟩=some (.slice ay ((rd_T56 l1 a).f4).length az)∧w'.cell? ⟨(c.add ((a).toNat*10)).block,(c.add ((a).toNat*10)).off+5,none⟩=some (.slice aA ((rd_T56 l1 a).f5).length aB)∧w'.cell? ⟨(c.add ((a).toNat*10)).block,(c.add ((a).toNat*10)).off+6,none⟩=some (.int .i64 ((rd_T56 l1 a).f6.f0))∧w'.cell? ⟨(c.add ((a).toNat*10)).block,(c.add ((a).toNat*10)).off+7,none⟩=some (.int .i64 ((rd_T56 l1 a).f6.f1))∧w'.cell? ⟨(c.add ((a).toNat*10)).block,(c.add ((a).toNat*10)).off+8,none⟩=some (.string ((rd_T56 l1 a).f6.f2))∧w'.cell? ⟨(c.add ((a).toNat*10)).block,(c.add ((a).toNat*10)).off+9,none⟩=some (.int .i64 ((rd_T56 l1 a).f6.f3))) (ds:=[]) #[false,false,false,false,false,false,false,false,false,false] (by kernel_rfl) rfl rfl ⟨((HB.out.cell (zL w _ L)).trans L),((HB.out.cell (zL w _ J)).trans J),((HB.out.cell (zL w _ I)).trans I),((HB.out.cell (zL w _ G)).trans G),((HB.out.cell (zL w _ F)).trans F),((HB.out.cell (zL w _ E)).trans E),((HB.out.cell (zL w _ D)).trans D),((HB.out.cell (zL w _ B)).trans B),((HB.out.cell (zL w _ A)).trans A),((HB.out.cell (zL w _ z)).trans z),((HB.out.cell (zL w _ ah)).trans ah),((HB.out.cell (zL w _ ag)).trans ag),((HB.out.cell (zL w _ af)).trans af),((HB.out.cell (zL w _ ae)).trans ae),((HB.out.cell (zL w _ ad)).trans ad),((HB.out.cell (zL w _ ac)).trans ac),((HB.out.cell (zL w _ ab)).trans ab),((HB.out.cell (zL w _ aa)).trans aa),((HB.out.cell (zL w _ Z)).trans Z),((HB.out.cell (zL w _ Y)).trans Y)⟩ (fun hHeld=>?_);refine with_tabW laws_eqObjectS.tab6 laws_eqObjectS.bits6 (fun d aI=>?_)
 generalize wr.drew=w9 at HB aw ax aG aH j l m o p q s u x y M O P Q R T U V W X hHeld ⊢
 refine pure_ (i:=0) (N:=some 17) (v:=?_) (a':=?_) (bN 10 1) rfl rfl (any_of d.out (by kernel_rfl)) (fun _ _ _ h=>h) (Or.inl ⟨by rfl,?_⟩) ?_ ?_
 rotate_left
 ·(
 intro w'
 go_simp
 with_reducible rfl)
 rotate_left
 ·(
 simp only[zP,i64_w,i32_w]
 rfl)
 refine pure_ (i:=1) (N:=some 18) (v:=?_) (a':=?_) (bN 10 3) rfl rfl (any_of d.out (by kernel_rfl)) (fun _ _ _ h=>h) (Or.inl ⟨by rfl,?_⟩) ?_ ?_
 rotate_left
 ·(
 intro w'
 go_simp
 with_reducible rfl)
 rotate_left
 ·(
 simp only[zP,i64_w,i32_w]
 rfl)
 refine pure_ (i:=2) (N:=some 19) (v:=?_) (a':=?_) (bN 10 7) rfl rfl (any_of d.out (by kernel_rfl)) (fun _ _ _ h=>h) (Or.inl ⟨by rfl,?_⟩) ?_ ?_
 rotate_left
 ·(
 intro w'
 go_simp
 with_reducible rfl)
 rotate_left
 ·(
 simp only[zP,i64_w,i32_w]
 rfl)
 refine pure_ (i:=4) (N:=some 21) (v:=?_) (a':=?_) (bN 10 23) rfl rfl (any_of d.out (by kernel_rfl)) (fun _ _ _ h=>h) (Or.inl ⟨by rfl,?_⟩) ?_ ?_
 rotate_left
 ·(
 intro w'
 go_simp
 with_reducible rfl)
 rotate_left
 ·(
 simp only[zP,i64_w,i32_w]
 rfl)
 refine pure_ (i:=5) (N:=some 22) (v:=?_) (a':=?_) (bN 10 55) rfl rfl (any_of d.out (by kernel_rfl)) (fun _ _ _ h=>h) (Or.inl ⟨by rfl,?_⟩) ?_ ?_
 rotate_left
 ·(
 intro w'
 go_simp
 with_reducible rfl)
 rotate_left
 ·(
 simp only[zP,i64_w,i32_w]
 rfl)
 refine pure_ (i:=6) (N:=some 23) (v:=?_) (a':=?_) (bN 10 119) rfl rfl (any_of d.out (by kernel_rfl)) (fun _ _ _ h=>h) (Or.inl ⟨by rfl,?_⟩) ?_ ?_
 rotate_left
 ·(
 intro w'
 go_simp
 with_reducible rfl)
 rotate_left
 ·(
 simp only[zP,i64_w,i32_w]
 rfl)
 refine take_ (i:=3) (N:=some 20) (v:=?_) (a':=?_) (bN 10 127) rfl rfl (take_ofW d.out aI.out (by kernel_rfl)) (fun _ _ _ h=>h) (Or.inl ⟨by rfl,?_⟩) hHeld ?_ ?_
 rotate_left
 ·(
 rintro w' ⟨s0,s1,s2,s3,s4,s5,s6,s7,s8,s9,aP,aQ,aR,aS,aT,aU,aV,aW,aX,aY⟩
 go_simp
 with_reducible rfl)
 rotate_left
 ·(
 simp only[zP,i64_w,i32_w]
 rfl)
 refine take_ (i:=7) (N:=some 24) (v:=?_) (a':=?_) (bN 10 255) rfl rfl (take_ofW d.out aI.out (by kernel_rfl)) (fun _ _ _ h=>h) (Or.inl ⟨by rfl,?_⟩) hHeld ?_ ?_
 rotate_left
 ·(
 rintro w' ⟨s0,s1,s2,s3,s4,s5,s6,s7,s8,s9,aP,aQ,aR,aS,aT,aU,aV,aW,aX,aY⟩
 go_simp
 with_reducible rfl)
 rotate_left
 ·(
 simp only[zP,i64_w,i32_w]
 rfl)
 refine one_ (i:=8) (N:=some 25) (bN 10 511) rfl rfl (one_of d.out (by kernel_rfl)) (by decide) (fun K hK=>?_)
 refine goes_ Try.func30 (by kernel_rfl) rfl #[.agg #[.int .i64 ((rd_T56 l0 a).f0),.int .i64 ((rd_T56 l0 a).f1),.string ((rd_T56 l0 a).f2),.int .i64 ((rd_T56 l0 a).f3),.slice am ((rd_T56 l0 a).f4).length an,.slice ao ((rd_T56 l0 a).f5).length ap,.int .i64 ((rd_T56 l0 a).f6.f0),.int .i64 ((rd_T56 l0 a).f6.f1),.string ((rd_T56 l0 a).f6.f2),.int .i64 ((rd_T56 l0 a).f6.f3)],.agg #[.int .i64 ((rd_T56 l1 a).f0),.int .i64 ((rd_T56 l1 a).f1),.string ((rd_T56 l1 a).f2),.int .i64 ((rd_T56 l1 a).f3),.slice ay ((rd_T56 l1 a).f4).length az,.slice aA ((rd_T56 l1 a).f5).length aB,.int .i64 ((rd_T56 l1 a).f6.f0),.int .i64 ((rd_T56 l1 a).f6.f1),.string ((rd_T56 l1 a).f6.f2),.int .i64 ((rd_T56 l1 a).f6.f3)]] (by rfl) rfl rfl (by(try simp only[List.map_toArray,List.map_cons,List.map_nil]);first|done|rfl|(simp only[List.length_drop,List.length_take];rfl)) ?_
 with_reducible refine(laws_eqObject.calls k1 ((rd_T56 l0 a).f0) ((rd_T56 l0 a).f1) ((rd_T56 l0 a).f2) ((rd_T56 l0 a).f3) _ _ ((rd_T56 l0 a).f4) _ _ ((rd_T56 l0 a).f5) ((rd_T56 l0 a).f6.f0) ((rd_T56 l0 a).f6.f1) ((rd_T56 l0 a).f6.f2) ((rd_T56 l0 a).f6.f3) ((rd_T56 l1 a).f0) ((rd_T56 l1 a).f1) ((rd_T56 l1 a).f2) ((rd_T56 l1 a).f3) _ _ ((rd_T56 l1 a).f4) _ _ ((rd_T56 l1 a).f5) ((rd_T56 l1 a).f6.f0) ((rd_T56 l1 a).f6.f1) ((rd_T56 l1 a).f6.f2) ((rd_T56 l1 a).f6.f3) true _ ?side1 ?side2 ?side3 ?side4 ?side5 ?side6 ?side7 ?side8 A7.out).mono ?_
 (case side1=>exact sD (zC aw.out HB.out))
 (case side2=>exact aK.out)
 (case side3=>exact sD (zC ax.out HB.out))
 (case side4=>exact aL.out)
 (case side5=>exact sD (zC aG.out HB.out))
 (case side6=>exact aN.out)
 (case side7=>exact sD (zC aH.out HB.out))
 (case side8=>exact aO.out)
 rintro e a6 ⟨rfl,hb⟩
 refine⟨_,rfl,?_⟩
 replace HB:=sB HB hb
 (try clear hb)
 (try clear hb2)
 (try clear hk)
 (try clear hi)
 refine hK.out _ _ ⟨((HB.out.cell (zL w _ L)).trans L),((HB.out.cell (zL w _ J)).trans J),((HB.out.cell (zL w _ I)).trans I),((HB.out.cell (zL w _ G)).trans G),((HB.out.cell (zL w _ F)).trans F),((HB.out.cell (zL w _ E)).trans E),((HB.out.cell (zL w _ D)).trans D),((HB.out.cell (zL w _ B)).trans B),((HB.out.cell (zL w _ A)).trans A),((HB.out.cell (zL w _ z)).trans z),((HB.out.cell (zL w _ ah)).trans ah),((HB.out.cell (zL w _ ag)).trans ag),((HB.out.cell (zL w _ af)).trans af),((HB.out.cell (zL w _ ae)).trans ae),((HB.out.cell (zL w _ ad)).trans ad),((HB.out.cell (zL w _ ac)).trans ac),((HB.out.cell (zL w _ ab)).trans ab),((HB.out.cell (zL w _ aa)).trans aa),((HB.out.cell (zL w _ Z)).trans Z),((HB.out.cell (zL w _ Y)).trans Y)⟩ (fun hHeld=>?_)
 clear hK K
 refine norm_ (a':=?_) ?_ ?_
 rotate_left
 ·(
 show Act.put _ (some 25) _=_
 simp only[zP,i64_w,i32_w]
 rfl)
 refine pure_ (i:=9) (N:=some 26) (v:=?_) (a':=?_) (bN 10 1023) rfl rfl (any_of d.out (by kernel_rfl)) (fun _ _ _ h=>h) (Or.inl ⟨by rfl,?_⟩) ?_ ?_
 rotate_left
 ·(
 intro w'
 go_simp
 with_reducible rfl)
 rotate_left
 ·(
 simp only[zP,i64_w,i32_w]
 rfl)
 refine done_ (done_of d.out (by kernel_rfl)) ?_
 try go_wp2
 go_roundg k1
 case measure=>have:=a1.out;omega
 case rel=>exact⟨(wrap64 (a+1)),sr,H',⟨by have:=a1.out;omega⟩,⟨sb⟩⟩)
 replace c8:=zB c8
 subst c8
 rewrite[if_neg zQ]at H
 obtain rfl:=zI H
 try go_wp2
 replace HB:=zM (below_drew1 HB.out)
 have ai:0≤(a:Int):=zzA
 have aj:a<(l0.length:Int):=zzA
 obtain⟨b,am,an,ao,ap,aJ,j,l,m,o,p,q,s,u,x,y,aq,ar,au,av⟩:=at_T56 aZ.out a ai aj
 have z:=y
 have A:=x
 have B:=u
 have D:=s
 have E:=q
 have F:=p
 have G:=o
 have I:=m
 have J:=l
 have L:=j
 cases aJ
 replace j:=sX HB j
 replace l:=sX HB l
 replace m:=sX HB m
 replace o:=sX HB o
 replace p:=sX HB p
 replace q:=sX HB q
 replace s:=sX HB s
 replace u:=sX HB u
 replace x:=sX HB x
 replace y:=sX HB y
 have aw:=zM ar
 have aK:=zM aq
 clear ar aq
 have ax:=zM av
 have aL:=zM au
 clear av au
 replace ai:=eq_true ai
 replace aj:=eq_true aj
 have ak:0≤(a:Int):=zzA
 have al:a<(l1.length:Int):=zzA
 obtain⟨c,ay,az,aA,aB,aM,M,O,P,Q,R,T,U,V,W,X,aC,aD,aE,aF⟩:=at_T56 a0.out a ak al
 have Y:=X
 have Z:=W
 have aa:=V
 have ab:=U
 have ac:=T
 have ad:=R
 have ae:=Q
 have af:=P
 have ag:=O
 have ah:=M
 cases aM
 replace M:=sX HB M
 replace O:=sX HB O
 replace P:=sX HB P
 replace Q:=sX HB Q
 replace R:=sX HB R
 replace T:=sX HB T
 replace U:=sX HB U
 replace V:=sX HB V
 replace W:=sX HB W
 replace X:=sX HB X
 have aG:=zM aD
 have aN:=zM aC
 clear aD aC
 have aH:=zM aF
 have aO:=zM aE
 clear aF aE
 replace ak:=eq_true ak
 replace al:=eq_true al
 refine start_ (n:=10) (S:=fun w'=>w'.cell? (b.add ((a).toNat*10))=some (.int .i64 ((rd_T56 l0 a).f0))∧w'.cell? ⟨(b.add ((a).toNat*10)).block,(b.add ((a).toNat*10)).off+1,none⟩=some (.int .i64 ((rd_T56 l0 a).f1))∧w'.cell? ⟨(b.add ((a).toNat*10)).block,(b.add ((a).toNat*10)).off+2,none⟩=some (.string ((rd_T56 l0 a).f2))∧w'.cell? ⟨(b.add ((a).toNat*10)).block,(b.add ((a).toNat*10)).off+3,none⟩=some (.int .i64 ((rd_T56 l0 a).f3))∧w'.cell? ⟨(b.add ((a).toNat*10)).block,(b.add ((a).toNat*10)).off+4,none⟩=some (.slice am ((rd_T56 l0 a).f4).length an)∧w'.cell? ⟨(b.add ((a).toNat*10)).block,(b.add ((a).toNat*10)).off+5,none⟩=some (.slice ao ((rd_T56 l0 a).f5).length ap)∧w'.cell? ⟨(b.add ((a).toNat*10)).block,(b.add ((a).toNat*10)).off+6,none⟩=some (.int .i64 ((rd_T56 l0 a).f6.f0))∧w'.cell? ⟨(b.add ((a).toNat*10)).block,(b.add ((a).toNat*10)).off+7,none⟩=some (.int .i64 ((rd_T56 l0 a).f6.f1))∧w'.cell? ⟨(b.add ((a).toNat*10)).block,(b.add ((a).toNat*10)).off+8,none⟩=some (.string ((rd_T56 l0 a).f6.f2))∧w'.cell? ⟨(b.add ((a).toNat*10)).block,(b.add ((a).toNat*10)).off+9,none⟩=some (.int .i64 ((rd_T56 l0 a).f6.f3))∧w'.cell? (c.add ((a).toNat*10))=some (.int .i64 ((rd_T56 l1 a).f0))∧w'.cell? ⟨(c.add ((a).toNat*10)).block,(c.add ((a).toNat*10)).off+1,none⟩=some (.int .i64 ((rd_T56 l1 a).f1))∧w'.cell? ⟨(c.add ((a).toNat*10)).block,(c.add ((a).toNat*10)).off+2,none⟩=some (.string ((rd_T56 l1 a).f2))∧w'.cell? ⟨(c.add ((a).toNat*10)).block,(c.add ((a).toNat*10)).off+3,none⟩=some (.int .i64 ((rd_T56 l1 a).f3))∧w'.cell? ⟨(c.add ((a).toNat*10)).block,(c.add ((a).toNat*10)).off+4,none⟩=some (.slice ay ((rd_T56 l1 a).f4).length az)∧w'.cell? ⟨(c.add ((a).toNat*10)).block,(c.add ((a).toNat*10)).off+5,none⟩=some (.slice aA ((rd_T56 l1 a).f5).length aB)∧w'.cell? ⟨(c.add ((a).toNat*10)).block,(c.add ((a).toNat*10)).off+6,none⟩=some (.int .i64 ((rd_T56 l1 a).f6.f0))∧w'.cell? ⟨(c.add ((a).toNat*10)).block,(c.add ((a).toNat*10)).off+7,none⟩=some (.int .i64 ((rd_T56 l1 a).f6.f1))∧w'.cell? ⟨(c.add ((a).toNat*10)).block,(c.add ((a).toNat*10)).off+8,none⟩=some (.string ((rd_T56 l1 a).f6.f2))∧w'.cell? ⟨(c.add ((a).toNat*10)).block,(c.add ((a).toNat*10)).off+9,none⟩=some (.int .i64 ((rd_T56 l1 a).f6.f3))) (ds:=[]) #[false,false,false,false,false,false,false,false,false,false] (by kernel_rfl) rfl rfl ⟨((HB.out.cell (zL w _ L)).trans L),((HB.out.cell (zL w _ J)).trans J),((HB.out.cell (zL w _ I)).trans I),((HB.out.cell (zL w _ G)).trans G),((HB.out.cell (zL w _ F)).trans F),((HB.out.cell (zL w _ E)).trans E),((HB.out.cell (zL w _ D)).trans D),((HB.out.cell (zL w _ B)).trans B),((HB.out.cell (zL w _ A)).trans A),((HB.out.cell (zL w _ z)).trans z),((HB.out.cell (zL w _ ah)).trans ah),((HB.out.cell (zL w _ ag)).trans ag),((HB.out.cell (zL w _ af)).trans af),((HB.out.cell (zL w _ ae)).trans ae),((HB.out.cell (zL w _ ad)).trans ad),((HB.out.cell (zL w _ ac)).trans ac),((HB.out.cell (zL w _ ab)).trans ab),((HB.out.cell (zL w _ aa)).trans aa),((HB.out.cell (zL w _ Z)).trans Z),((HB.out.cell (zL w _ Y)).trans Y)⟩ (fun hHeld=>?_);refine with_tabW laws_eqObjectS.tab6 laws_eqObjectS.bits6 (fun d aI=>?_)
 generalize wr.drew=w11 at HB aw ax aG aH j l m o p q s u x y M O P Q R T U V W X hHeld ⊢
 refine pure_ (i:=0) (N:=some 17) (v:=?_) (a':=?_) (bN 10 1) rfl rfl (any_of d.out (by kernel_rfl)) (fun _ _ _ h=>h) (Or.inl ⟨by rfl,?_⟩) ?_ ?_
 rotate_left
 ·(
 intro w'
 go_simp
 with_reducible rfl)
 rotate_left
 ·(
 simp only[zP,i64_w,i32_w]
 rfl)
 refine pure_ (i:=1) (N:=some 18) (v:=?_) (a':=?_) (bN 10 3) rfl rfl (any_of d.out (by kernel_rfl)) (fun _ _ _ h=>h) (Or.inl ⟨by rfl,?_⟩) ?_ ?_
 rotate_left
 ·(
 intro w'
 go_simp
 with_reducible rfl)
 rotate_left
 ·(
 simp only[zP,i64_w,i32_w]
 rfl)
 refine pure_ (i:=2) (N:=some 19) (v:=?_) (a':=?_) (bN 10 7) rfl rfl (any_of d.out (by kernel_rfl)) (fun _ _ _ h=>h) (Or.inl ⟨by rfl,?_⟩) ?_ ?_
 rotate_left
 ·(
 intro w'
 go_simp
 with_reducible rfl)
 rotate_left
 ·(
 simp only[zP,i64_w,i32_w]
 rfl)
 refine pure_ (i:=4) (N:=some 21) (v:=?_) (a':=?_) (bN 10 23) rfl rfl (any_of d.out (by kernel_rfl)) (fun _ _ _ h=>h) (Or.inl ⟨by rfl,?_⟩) ?_ ?_
 rotate_left
 ·(
 intro w'
 go_simp
 with_reducible rfl)
 rotate_left
 ·(
 simp only[zP,i64_w,i32_w]
 rfl)
 refine pure_ (i:=5) (N:=some 22) (v:=?_) (a':=?_) (bN 10 55) rfl rfl (any_of d.out (by kernel_rfl)) (fun _ _ _ h=>h) (Or.inl ⟨by rfl,?_⟩) ?_ ?_
 rotate_left
 ·(
 intro w'
 go_simp
 with_reducible rfl)
 rotate_left
 ·(
 simp only[zP,i64_w,i32_w]
 rfl)
 refine pure_ (i:=6) (N:=some 23) (v:=?_) (a':=?_) (bN 10 119) rfl rfl (any_of d.out (by kernel_rfl)) (fun _ _ _ h=>h) (Or.inl ⟨by rfl,?_⟩) ?_ ?_
 rotate_left
 ·(
 intro w'
 go_simp
 with_reducible rfl)
 rotate_left
 ·(
 simp only[zP,i64_w,i32_w]
 rfl)
 refine take_ (i:=3) (N:=some 20) (v:=?_) (a':=?_) (bN 10 127) rfl rfl (take_ofW d.out aI.out (by kernel_rfl)) (fun _ _ _ h=>h) (Or.inl ⟨by rfl,?_⟩) hHeld ?_ ?_
 rotate_left
 ·(
 rintro w' ⟨s0,s1,s2,s3,s4,s5,s6,s7,s8,s9,aP,aQ,aR,aS,aT,aU,aV,aW,aX,aY⟩
 go_simp
 with_reducible rfl)
 rotate_left
 ·(
 simp only[zP,i64_w,i32_w]
 rfl)
 refine take_ (i:=7) (N:=some 24) (v:=?_) (a':=?_) (bN 10 255) rfl rfl (take_ofW d.out aI.out (by kernel_rfl)) (fun _ _ _ h=>h) (Or.inl ⟨by rfl,?_⟩) hHeld ?_ ?_
 rotate_left
 ·(
 rintro w' ⟨s0,s1,s2,s3,s4,s5,s6,s7,s8,s9,aP,aQ,aR,aS,aT,aU,aV,aW,aX,aY⟩
 go_simp
 with_reducible rfl)
 rotate_left
 ·(
 simp only[zP,i64_w,i32_w]
 rfl)
 refine one_ (i:=8) (N:=some 25) (bN 10 511) rfl rfl (one_of d.out (by kernel_rfl)) (by decide) (fun K hK=>?_)
 refine goes_ Try.func30 (by kernel_rfl) rfl #[.agg #[.int .i64 ((rd_T56 l0 a).f0),.int .i64 ((rd_T56 l0 a).f1),.string ((rd_T56 l0 a).f2),.int .i64 ((rd_T56 l0 a).f3),.slice am ((rd_T56 l0 a).f4).length an,.slice ao ((rd_T56 l0 a).f5).length ap,.int .i64 ((rd_T56 l0 a).f6.f0),.int .i64 ((rd_T56 l0 a).f6.f1),.string ((rd_T56 l0 a).f6.f2),.int .i64 ((rd_T56 l0 a).f6.f3)],.agg #[.int .i64 ((rd_T56 l1 a).f0),.int .i64 ((rd_T56 l1 a).f1),.string ((rd_T56 l1 a).f2),.int .i64 ((rd_T56 l1 a).f3),.slice ay ((rd_T56 l1 a).f4).length az,.slice aA ((rd_T56 l1 a).f5).length aB,.int .i64 ((rd_T56 l1 a).f6.f0),.int .i64 ((rd_T56 l1 a).f6.f1),.string ((rd_T56 l1 a).f6.f2),.int .i64 ((rd_T56 l1 a).f6.f3)]] (by rfl) rfl rfl (by(try simp only[List.map_toArray,List.map_cons,List.map_nil]);first|done|rfl|(simp only[List.length_drop,List.length_take];rfl)) ?_
 with_reducible refine(laws_eqObject.calls k1 ((rd_T56 l0 a).f0) ((rd_T56 l0 a).f1) ((rd_T56 l0 a).f2) ((rd_T56 l0 a).f3) _ _ ((rd_T56 l0 a).f4) _ _ ((rd_T56 l0 a).f5) ((rd_T56 l0 a).f6.f0) ((rd_T56 l0 a).f6.f1) ((rd_T56 l0 a).f6.f2) ((rd_T56 l0 a).f6.f3) ((rd_T56 l1 a).f0) ((rd_T56 l1 a).f1) ((rd_T56 l1 a).f2) ((rd_T56 l1 a).f3) _ _ ((rd_T56 l1 a).f4) _ _ ((rd_T56 l1 a).f5) ((rd_T56 l1 a).f6.f0) ((rd_T56 l1 a).f6.f1) ((rd_T56 l1 a).f6.f2) ((rd_T56 l1 a).f6.f3) false _ ?side1 ?side2 ?side3 ?side4 ?side5 ?side6 ?side7 ?side8 A7.out).mono ?_
 (case side1=>exact sD (zC aw.out HB.out))
 (case side2=>exact aK.out)
 (case side3=>exact sD (zC ax.out HB.out))
 (case side4=>exact aL.out)
 (case side5=>exact sD (zC aG.out HB.out))
 (case side6=>exact aN.out)
 (case side7=>exact sD (zC aH.out HB.out))
 (case side8=>exact aO.out)
 rintro e a7 ⟨rfl,hb⟩
 refine⟨_,rfl,?_⟩
 replace HB:=sB HB hb
 (try clear hb)
 (try clear hb2)
 (try clear hk)
 (try clear hi)
 refine hK.out _ _ ⟨((HB.out.cell (zL w _ L)).trans L),((HB.out.cell (zL w _ J)).trans J),((HB.out.cell (zL w _ I)).trans I),((HB.out.cell (zL w _ G)).trans G),((HB.out.cell (zL w _ F)).trans F),((HB.out.cell (zL w _ E)).trans E),((HB.out.cell (zL w _ D)).trans D),((HB.out.cell (zL w _ B)).trans B),((HB.out.cell (zL w _ A)).trans A),((HB.out.cell (zL w _ z)).trans z),((HB.out.cell (zL w _ ah)).trans ah),((HB.out.cell (zL w _ ag)).trans ag),((HB.out.cell (zL w _ af)).trans af),((HB.out.cell (zL w _ ae)).trans ae),((HB.out.cell (zL w _ ad)).trans ad),((HB.out.cell (zL w _ ac)).trans ac),((HB.out.cell (zL w _ ab)).trans ab),((HB.out.cell (zL w _ aa)).trans aa),((HB.out.cell (zL w _ Z)).trans Z),((HB.out.cell (zL w _ Y)).trans Y)⟩ (fun hHeld=>?_)
 clear hK K
 refine norm_ (a':=?_) ?_ ?_
 rotate_left
 ·(
 show Act.put _ (some 25) _=_
 simp only[zP,i64_w,i32_w]
 rfl)
 refine pure_ (i:=9) (N:=some 26) (v:=?_) (a':=?_) (bN 10 1023) rfl rfl (any_of d.out (by kernel_rfl)) (fun _ _ _ h=>h) (Or.inl ⟨by rfl,?_⟩) ?_ ?_
 rotate_left
 ·(
 intro w'
 go_simp
 with_reducible rfl)
 rotate_left
 ·(
 simp only[zP,i64_w,i32_w]
 rfl)
 refine done_ (done_of d.out (by kernel_rfl)) ?_
 try go_wp2
 go_ret
 exact⟨sq,sb⟩)
 rw[if_neg c6]at H
 exact absurd H (by simp))
 rw[if_neg c5]at H
 exact absurd H (by simp))
 rw[if_neg c4]at H
 have c4b0:=zF c4
 clear c4
 obtain rfl:=zI H
 go_wp2
 go_ret
 exact⟨sq,sb⟩)))
 rw[if_neg g]at H
 have c3b0:((l0.length:Int)==(l1.length:Int))=false:=zN g
 have c3b1:((l0.length:Int) !=(l1.length:Int))=true:=zX g
 have c3b2:(l0.length==l1.length)=false:=by first|simpa using g|(simp at g ⊢;omega)
 obtain rfl:=zI H
 go_enter Try.func47,Try.ntmps47
 go_wp2
 go_ret
 exact⟨sq,sb⟩
def laws_eqHeap.f (k:Nat) (a0_0:Int) (l0_1:List (S56)) (a1_0:Int) (l1_1:List (S56)):Option (Bool):=if a0_0=a1_0 then((laws_eqObjectS.f k l0_1 l1_1).bind fun t432=>(if t432=true then(some true)else(some false)))else(some false)
set_option maxHeartbeats 8000000 in
set_option maxRecDepth 100000 in
theorem laws_eqHeap.calls (k:Nat) (a0_0:Int) (A0_1:Option Addr) (c0_1:Nat) (l0_1:List (S56)) (a1_0:Int) (A1_1:Option Addr) (c1_1:Nat) (l1_1:List (S56)) (r:Bool) (w:World) (hr0_1:Kd.C k56 w A0_1 l0_1.length l0_1) (hc0_1:l0_1.length≤c0_1) (hr1_1:Kd.C k56 w A1_1 l1_1.length l1_1) (hc1_1:l1_1.length≤c1_1) (h:laws_eqHeap.f k a0_0 l0_1 a1_0 l1_1=some r):
  Calls Try.prog 16 #[.agg #[.int .i64 a0_0,.slice A0_1 l0_1.length c0_1],.agg #[.int .i64 a1_0,.slice A1_1 l1_1.length c1_1]] w fun e w'=>e= .returned (.bool r)∧Below w.heap.size w w':=by
 have D:=Try.underlying34
 have m:=zM hr0_1
 have o:=zM hc0_1
 clear hr0_1 hc0_1
 have p:=zM hr1_1
 have q:=zM hc1_1
 clear hr1_1 hc1_1
 have HB:=zM (Below.refl w.heap.size w)
 have H:(if a0_0=a1_0 then((laws_eqObjectS.f k l0_1 l1_1).bind fun l=>(if l=true then(some true)else(some false)))else(some false))=some r:=h
 clear h
 by_cases c:a0_0=a1_0
 ·(
 rw[if_pos c]at H
 have c3b0:(a0_0==a1_0)=true:=zE c
 have c3b1:(a0_0 !=a1_0)=false:=zY c
 clear c
 obtain⟨l,s,H⟩:=sO H
 by_cases j:l=true
 ·(
 subst j
 rewrite[if_pos rfl]at H
 obtain rfl:=zI H
 go_enter Try.func16,Try.ntmps16
 go_wp2_with (first|((with_reducible refine gate_dst (N:=2) rfl ?_);refine sV (N:=2) (cs:= #[.int .i64 a0_0,.slice A0_1 l0_1.length c0_1]) (t:=34) ?_;intro u hg E hbox hb;have a:=zM (hbox);have x:=sG HB hg;have y:=sG HB hg;replace HB:=sB HB hb;clear hb hbox hg)|((with_reducible refine gate_dst (N:=3) rfl ?_);refine sV (N:=3) (cs:= #[.int .i64 a1_0,.slice A1_1 l1_1.length c1_1]) (t:=34) ?_;intro z hg F hbox hb;have b:=zM (hbox);have A:=sG HB hg;have B:=sG HB hg;replace HB:=sB HB hb;have d:=sN a hg;have g:=sM a hg;replace a:=sK a hb;clear hb hbox hg;have G:=d.out;have I:=g.out;obtain⟨J,L,M,O⟩:=cells2 a.out;obtain⟨P,Q,R,T⟩:=cells2 b.out)|((with_reducible refine gate_callee (f:=47) rfl ?_);refine sC (some 14) Try.func47 #[.slice A0_1 l0_1.length c0_1,.slice A1_1 l1_1.length c1_1] (laws_eqObjectS.calls k _ _ l0_1 _ _ l1_1 true _ ?side1 ?side2 ?side3 ?side4 s.out) ?_;(case side1=>exact sD (zC m.out HB.out));(case side2=>exact o.out);(case side3=>exact sD (zC p.out HB.out));(case side4=>exact q.out);rintro e U ⟨rfl,hb⟩;refine⟨_,rfl,?_⟩;replace a:=sK a hb;replace b:=sK b hb;replace HB:=sB HB hb;(try clear hb)))
 go_ret
 exact⟨sq,sb⟩)
 replace j:=zB j
 subst j
 rewrite[if_neg zQ]at H
 obtain rfl:=zI H
 go_enter Try.func16,Try.ntmps16
 go_wp2_with (first|((with_reducible refine gate_dst (N:=2) rfl ?_);refine sV (N:=2) (cs:= #[.int .i64 a0_0,.slice A0_1 l0_1.length c0_1]) (t:=34) ?_;intro u hg V hbox hb;have a:=zM (hbox);have x:=sG HB hg;have y:=sG HB hg;replace HB:=sB HB hb;clear hb hbox hg)|((with_reducible refine gate_dst (N:=3) rfl ?_);refine sV (N:=3) (cs:= #[.int .i64 a1_0,.slice A1_1 l1_1.length c1_1]) (t:=34) ?_;intro z hg W hbox hb;have b:=zM (hbox);have A:=sG HB hg;have B:=sG HB hg;replace HB:=sB HB hb;have d:=sN a hg;have g:=sM a hg;replace a:=sK a hb;clear hb hbox hg;have X:=d.out;have Y:=g.out;obtain⟨Z,aa,ab,ac⟩:=cells2 a.out;obtain⟨ad,ae,af,ag⟩:=cells2 b.out)|((with_reducible refine gate_callee (f:=47) rfl ?_);refine sC (some 14) Try.func47 #[.slice A0_1 l0_1.length c0_1,.slice A1_1 l1_1.length c1_1] (laws_eqObjectS.calls k _ _ l0_1 _ _ l1_1 false _ ?side1 ?side2 ?side3 ?side4 s.out) ?_;(case side1=>exact sD (zC m.out HB.out));(case side2=>exact o.out);(case side3=>exact sD (zC p.out HB.out));(case side4=>exact q.out);rintro e ah ⟨rfl,hb⟩;refine⟨_,rfl,?_⟩;replace a:=sK a hb;replace b:=sK b hb;replace HB:=sB HB hb;(try clear hb)))
 go_ret
 exact⟨sq,sb⟩)
 rw[if_neg c]at H
 have c3b0:(a0_0==a1_0)=false:=zN c
 have c3b1:(a0_0 !=a1_0)=true:=zX c
 obtain rfl:=zI H
 go_enter Try.func16,Try.ntmps16
 go_wp2_with (first|((with_reducible refine gate_dst (N:=2) rfl ?_);refine sV (N:=2) (cs:= #[.int .i64 a0_0,.slice A0_1 l0_1.length c0_1]) (t:=34) ?_;intro u hg ai hbox hb;have a:=zM (hbox);have x:=sG HB hg;have y:=sG HB hg;replace HB:=sB HB hb;clear hb hbox hg)|((with_reducible refine gate_dst (N:=3) rfl ?_);refine sV (N:=3) (cs:= #[.int .i64 a1_0,.slice A1_1 l1_1.length c1_1]) (t:=34) ?_;intro z hg aj hbox hb;have b:=zM (hbox);have A:=sG HB hg;have B:=sG HB hg;replace HB:=sB HB hb;have d:=sN a hg;have g:=sM a hg;replace a:=sK a hb;clear hb hbox hg;have ak:=d.out;have al:=g.out;obtain⟨am,an,ao,ap⟩:=cells2 a.out;obtain⟨aq,ar,au,av⟩:=cells2 b.out))
 go_ret
 exact⟨sq,sb⟩
end Go.Proofs.Ytengilknjiobiaa.PFnExactPairsOf
