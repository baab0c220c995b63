/- Printed functions: laws_eqFunctionS. -/
import Derived.Test.YtnneadpahjkhgaaYSmP0
import Derived.Test.YtnneadpahjkhgaaYSmP33
namespace Go.Proofs.Ytnneadpahjkhgaa.PFnExactSameMemory
open Go.RowKit Go.Proofs.YtnneadpahjkhgaaG Go.Proofs.YtnneadpahjkhgaaW.PrintWords Go.Proofs.YtnneadpahjkhgaaW.PrintLast Go.Proofs.YtnneadpahjkhgaaW.PrintMore
attribute [local go_sem] max2_int min2_int max_two min_two max_three min_three max_four min_four
set_option linter.unusedVariables false
set_option linter.unusedSimpArgs false
def laws_eqFunctionS.l0 : Nat → List (S107) → List (S107) → Int → Option (Bool)
 |0,_,_,_=>none
 |k+1,x0,x1,x5=>if x5<(x0.length:Int)then(if 0≤x5 then(if x5<(x1.length:Int)then((laws_eqFunction.f k ((rd_T107 x0 x5).f0) ((rd_T107 x0 x5).f1) ((rd_T107 x0 x5).f2) ((rd_T107 x0 x5).f3) ((rd_T107 x1 x5).f0) ((rd_T107 x1 x5).f1) ((rd_T107 x1 x5).f2) ((rd_T107 x1 x5).f3)).bind fun t472=>(if t472=true then(laws_eqFunctionS.l0 k x0 x1 (wrap64 (x5+1)))else(some false)))else(none))else(none))else(some true)
def laws_eqFunctionS.f (k:Nat) (l0:List (S107)) (l1:List (S107)):Option (Bool):=if(l0.length:Int)=(l1.length:Int)then(laws_eqFunctionS.l0 k l0 l1 0)else(some false)
def laws_eqFunctionS.T6:Bool×List (List Nat×List Nat):=(true,[([],[]),([],[]),([0,1],[0,1]),([2],[2]),([],[]),([],[]),([4,5],[4,5]),([6],[6]),([3,7],[3,7]),([8],[8])])
def laws_eqFunctionS.B6:List Nat:=[0,0,3,7,0,0,48,112,255,511]
theorem laws_eqFunctionS.tab6:rtab .any (opsOf Try.f70 6)=laws_eqFunctionS.T6:=by kernel_rfl
theorem laws_eqFunctionS.bits6:waitsOk laws_eqFunctionS.T6.2 laws_eqFunctionS.B6=true:=by kernel_rfl
set_option maxHeartbeats 8000000 in
set_option maxRecDepth 100000 in
theorem laws_eqFunctionS.calls (k:Nat) (A0:Option Addr) (c0:Nat) (l0:List (S107)) (A1:Option Addr) (c1:Nat) (l1:List (S107)) (r:Bool) (w:World) (hr0:Kd.C k107 w A0 l0.length l0) (hc0:l0.length≤c0) (hr1:Kd.C k107 w A1 l1.length l1) (hc1:l1.length≤c1) (h:laws_eqFunctionS.f k l0 l1=some r):
  Calls Try.prog 70 #[.slice A0 l0.length c0,.slice A1 l1.length c1] w fun e w'=>e= .returned (.bool r)∧Below w.heap.size w w':=by
 have av:=Try.underlying107
 have ap:=zM hr0
 have aw:=zM hc0
 clear hr0 hc0
 have aq:=zM hr1
 have ax:=zM hc1
 clear hr1 hc1
 have HB:=zM (Below.refl w.heap.size w)
 have H:(if(l0.length:Int)=(l1.length:Int)then(laws_eqFunctionS.l0 k l0 l1 0)else(some false))=some r:=h
 clear h
 by_cases g:(l0.length:Int)=(l1.length:Int)
 ·(
 rw[if_pos g]at H
 have c3b0:((l0.length:Int)==(l1.length:Int))=true:=zE g
 have c3b1:((l0.length:Int) !=(l1.length:Int))=false:=zY g
 have c3b2:(l0.length==l1.length)=true:=by first|simpa using g|(simp at g ⊢;omega)
 clear g
 have H':=zM H
 clear H
 go_enter Try.func70,Try.ntmps70
 go_wp2
 go_loopg [5] k (fun kq v5 w'=>∃(a:Int),v5= .int .i64 a∧Aside0 (laws_eqFunctionS.l0 kq l0 l1 a=some r)∧Aside0 (kq≤k)∧Aside0 (Below w.heap.size w w'))
 case atStart=>exact⟨(0),sr,H',⟨Nat.le_refl _⟩,⟨sb⟩⟩
 case round=>(
 clear H'
 try clear c1
 try clear g
 try clear c3b0
 try clear c3b1
 try clear c3b2
 obtain⟨a,rfl,HA,ar,HB⟩:=hrel
 cases gk with
 |zero=>exact absurd HA.out (by simp[laws_eqFunctionS.l0])
 |succ k1=>(
 have H:=HA.out
 clear HA
 simp only[laws_eqFunctionS.l0]at H
 by_cases L:a<(l0.length:Int)
 ·(
 rw[if_pos L]at H
 have c4b0:=zT L
 clear L
 by_cases c5:0≤a
 ·(
 rw[if_pos c5]at H
 have c5b0:=zT c5
 clear c5
 by_cases c6:a<(l1.length:Int)
 ·(
 rw[if_pos c6]at H
 have c6b0:=zT c6
 clear c6
 obtain⟨au,A7,H⟩:=sO H
 by_cases c8:au=true
 ·(
 subst c8
 rewrite[if_pos rfl]at H
 have H':=zM H
 clear H
 try go_wp2
 replace HB:=zM (below_drew1 HB.out)
 have F:0≤(a:Int):=zO (by first|(with_reducible assumption)|assumption)
 have G:a<(l0.length:Int):=zO (by first|(with_reducible assumption)|assumption)
 obtain⟨c,M,O,P,Q,aj,j,l,m,o,R,T,U,V⟩:=at_T107 ap.out a F G
 have p:=o
 have q:=m
 have s:=l
 have t:=j
 cases aj
 replace j:=sX HB j
 replace l:=sX HB l
 replace m:=sX HB m
 replace o:=sX HB o
 have W:=zM T
 have ak:=zM R
 clear T R
 have X:=zM V
 have al:=zM U
 clear V U
 replace F:=eq_true F
 replace G:=eq_true G
 have I:0≤(a:Int):=zO (by first|(with_reducible assumption)|assumption)
 have J:a<(l1.length:Int):=zO (by first|(with_reducible assumption)|assumption)
 obtain⟨d,Y,Z,aa,ab,am,u,x,y,z,ac,ad,ae,af⟩:=at_T107 aq.out a I J
 have A:=z
 have B:=y
 have D:=x
 have E:=u
 cases am
 replace u:=sX HB u
 replace x:=sX HB x
 replace y:=sX HB y
 replace z:=sX HB z
 have ag:=zM ad
 have an:=zM ac
 clear ad ac
 have ah:=zM af
 have ao:=zM ae
 clear af ae
 replace I:=eq_true I
 replace J:=eq_true J
 refine start_ (n:=10) (S:=fun w'=>w'.cell? (c.add ((a).toNat*4))=some (.string ((rd_T107 l0 a).f0))∧w'.cell? ⟨(c.add ((a).toNat*4)).block,(c.add ((a).toNat*4)).off+1,none⟩=some (.slice M ((rd_T107 l0 a).f1).length O)∧w'.cell? ⟨(c.add ((a).toNat*4)).block,(c.add ((a).toNat*4)).off+2,none⟩=some (.slice P ((rd_T107 l0 a).f2).length Q)∧w'.cell? ⟨(c.add ((a).toNat*4)).block,(c.add ((a).toNat*4)).off+3,none⟩=some (.string ((rd_T107 l0 a).f3))∧w'.cell? (d.add ((a).toNat*4))=some (.string ((rd_T107 l1 a).f0))∧w'.cell? ⟨(d.add ((a).toNat*4)).block,(d.add ((a).toNat*4)).off+1,none⟩=some (.slice Y ((rd_T107 l1 a).f1).length Z)∧w'.cell? ⟨(d.add ((a).toNat*4)).block,(d.add ((a).toNat*4)).off+2,none⟩=some (.slice aa ((rd_T107 l1 a).f2).length ab)∧w'.cell? ⟨(d.add ((a).toNat*4)).block,(d.add ((a).toNat*4)).off+3,none⟩=some (.string ((rd_T107 l1 a).f3))) (ds:=[]) #[false,false,false,false,false,false,false,false,false,false] (by kernel_rfl) rfl rfl ⟨((HB.out.cell (zL w _ t)).trans t),((HB.out.cell (zL w _ s)).trans s),((HB.out.cell (zL w _ q)).trans q),((HB.out.cell (zL w _ p)).trans p),((HB.out.cell (zL w _ E)).trans E),((HB.out.cell (zL w _ D)).trans D),((HB.out.cell (zL w _ B)).trans B),((HB.out.cell (zL w _ A)).trans A)⟩ (fun hHeld=>?_);refine with_tabW laws_eqFunctionS.tab6 laws_eqFunctionS.bits6 (fun b ai=>?_)
 generalize wr.drew=w9 at HB W X ag ah j l m o u x y z hHeld ⊢
 refine pure_ (i:=0) (N:=some 17) (v:=?_) (a':=?_) (bN 10 1) rfl rfl (any_of b.out (by kernel_rfl)) (fun _ _ _ h=>h) (Or.inl ⟨by rfl,?_⟩) ?_ ?_
 rotate_left
 ·(
 intro w'
 go_simp
 with_reducible rfl)
 rotate_left
 ·(
 simp only[zP,i64_w,i32_w]
 rfl)
 refine pure_ (i:=1) (N:=some 18) (v:=?_) (a':=?_) (bN 10 3) rfl rfl (any_of b.out (by kernel_rfl)) (fun _ _ _ h=>h) (Or.inl ⟨by rfl,?_⟩) ?_ ?_
 rotate_left
 ·(
 intro w'
 go_simp
 with_reducible rfl)
 rotate_left
 ·(
 simp only[zP,i64_w,i32_w]
 rfl)
 refine pure_ (i:=2) (N:=some 19) (v:=?_) (a':=?_) (bN 10 7) rfl rfl (any_of b.out (by kernel_rfl)) (fun _ _ _ h=>h) (Or.inl ⟨by rfl,?_⟩) ?_ ?_
 rotate_left
 ·(
 intro w'
 go_simp
 with_reducible rfl)
 rotate_left
 ·(
 simp only[zP,i64_w,i32_w]
 rfl)
 refine pure_ (i:=4) (N:=some 21) (v:=?_) (a':=?_) (bN 10 23) rfl rfl (any_of b.out (by kernel_rfl)) (fun _ _ _ h=>h) (Or.inl ⟨by rfl,?_⟩) ?_ ?_
 rotate_left
 ·(
 intro w'
 go_simp
 with_reducible rfl)
 rotate_left
 ·(
 simp only[zP,i64_w,i32_w]
 rfl)
 refine pure_ (i:=5) (N:=some 22) (v:=?_) (a':=?_) (bN 10 55) rfl rfl (any_of b.out (by kernel_rfl)) (fun _ _ _ h=>h) (Or.inl ⟨by rfl,?_⟩) ?_ ?_
 rotate_left
 ·(
 intro w'
 go_simp
 with_reducible rfl)
 rotate_left
 ·(
 simp only[zP,i64_w,i32_w]
 rfl)
 refine pure_ (i:=6) (N:=some 23) (v:=?_) (a':=?_) (bN 10 119) rfl rfl (any_of b.out (by kernel_rfl)) (fun _ _ _ h=>h) (Or.inl ⟨by rfl,?_⟩) ?_ ?_
 rotate_left
 ·(
 intro w'
 go_simp
 with_reducible rfl)
 rotate_left
 ·(
 simp only[zP,i64_w,i32_w]
 rfl)
 refine take_ (i:=3) (N:=some 20) (v:=?_) (a':=?_) (bN 10 127) rfl rfl (take_ofW b.out ai.out (by kernel_rfl)) (fun _ _ _ h=>h) (Or.inl ⟨by rfl,?_⟩) hHeld ?_ ?_
 rotate_left
 ·(
 rintro w' ⟨s0,s1,s2,s3,s4,s5,s6,s7⟩
 go_simp
 with_reducible rfl)
 rotate_left
 ·(
 simp only[zP,i64_w,i32_w]
 rfl)
 refine take_ (i:=7) (N:=some 24) (v:=?_) (a':=?_) (bN 10 255) rfl rfl (take_ofW b.out ai.out (by kernel_rfl)) (fun _ _ _ h=>h) (Or.inl ⟨by rfl,?_⟩) hHeld ?_ ?_
 rotate_left
 ·(
 rintro w' ⟨s0,s1,s2,s3,s4,s5,s6,s7⟩
 go_simp
 with_reducible rfl)
 rotate_left
 ·(
 simp only[zP,i64_w,i32_w]
 rfl)
 refine one_ (i:=8) (N:=some 25) (bN 10 511) rfl rfl (one_of b.out (by kernel_rfl)) (by decide) (fun K hK=>?_)
 refine goes_ Try.func99 (by kernel_rfl) rfl #[.agg #[.string ((rd_T107 l0 a).f0),.slice M ((rd_T107 l0 a).f1).length O,.slice P ((rd_T107 l0 a).f2).length Q,.string ((rd_T107 l0 a).f3)],.agg #[.string ((rd_T107 l1 a).f0),.slice Y ((rd_T107 l1 a).f1).length Z,.slice aa ((rd_T107 l1 a).f2).length ab,.string ((rd_T107 l1 a).f3)]] (by rfl) rfl rfl (by(try simp only[List.map_toArray,List.map_cons,List.map_nil]);first|done|rfl|(simp only[List.length_drop,List.length_take];rfl)) ?_
 with_reducible refine(laws_eqFunction.calls k1 ((rd_T107 l0 a).f0) _ _ ((rd_T107 l0 a).f1) _ _ ((rd_T107 l0 a).f2) ((rd_T107 l0 a).f3) ((rd_T107 l1 a).f0) _ _ ((rd_T107 l1 a).f1) _ _ ((rd_T107 l1 a).f2) ((rd_T107 l1 a).f3) true _ ?side1 ?side2 ?side3 ?side4 ?side5 ?side6 ?side7 ?side8 A7.out).mono ?_
 (case side1=>exact sD (zC W.out HB.out))
 (case side2=>exact ak.out)
 (case side3=>exact sD (zC X.out HB.out))
 (case side4=>exact al.out)
 (case side5=>exact sD (zC ag.out HB.out))
 (case side6=>exact an.out)
 (case side7=>exact sD (zC ah.out HB.out))
 (case side8=>exact ao.out)
 rintro e ay ⟨rfl,hb⟩
 refine⟨_,rfl,?_⟩
 replace HB:=sB HB hb
 (try clear hb)
 (try clear hb2)
 (try clear hk)
 (try clear hi)
 refine hK.out _ _ ⟨((HB.out.cell (zL w _ t)).trans t),((HB.out.cell (zL w _ s)).trans s),((HB.out.cell (zL w _ q)).trans q),((HB.out.cell (zL w _ p)).trans p),((HB.out.cell (zL w _ E)).trans E),((HB.out.cell (zL w _ D)).trans D),((HB.out.cell (zL w _ B)).trans B),((HB.out.cell (zL w _ A)).trans A)⟩ (fun hHeld=>?_)
 clear hK K
 refine norm_ (a':=?_) ?_ ?_
 rotate_left
 ·(
 show Act.put _ (some 25) _=_
 simp only[zP,i64_w,i32_w]
 rfl)
 refine pure_ (i:=9) (N:=some 26) (v:=?_) (a':=?_) (bN 10 1023) rfl rfl (any_of b.out (by kernel_rfl)) (fun _ _ _ h=>h) (Or.inl ⟨by rfl,?_⟩) ?_ ?_
 rotate_left
 ·(
 intro w'
 go_simp
 with_reducible rfl)
 rotate_left
 ·(
 simp only[zP,i64_w,i32_w]
 rfl)
 refine done_ (done_of b.out (by kernel_rfl)) ?_
 try go_wp2
 go_roundg k1
 case measure=>have:=ar.out;omega
 case rel=>exact⟨(wrap64 (a+1)),sr,H',⟨by have:=ar.out;omega⟩,⟨sb⟩⟩)
 replace c8:=zB c8
 subst c8
 rewrite[if_neg zQ]at H
 obtain rfl:=zI H
 try go_wp2
 replace HB:=zM (below_drew1 HB.out)
 have F:0≤(a:Int):=zO (by first|(with_reducible assumption)|assumption)
 have G:a<(l0.length:Int):=zO (by first|(with_reducible assumption)|assumption)
 obtain⟨c,M,O,P,Q,aj,j,l,m,o,R,T,U,V⟩:=at_T107 ap.out a F G
 have p:=o
 have q:=m
 have s:=l
 have t:=j
 cases aj
 replace j:=sX HB j
 replace l:=sX HB l
 replace m:=sX HB m
 replace o:=sX HB o
 have W:=zM T
 have ak:=zM R
 clear T R
 have X:=zM V
 have al:=zM U
 clear V U
 replace F:=eq_true F
 replace G:=eq_true G
 have I:0≤(a:Int):=zO (by first|(with_reducible assumption)|assumption)
 have J:a<(l1.length:Int):=zO (by first|(with_reducible assumption)|assumption)
 obtain⟨d,Y,Z,aa,ab,am,u,x,y,z,ac,ad,ae,af⟩:=at_T107 aq.out a I J
 have A:=z
 have B:=y
 have D:=x
 have E:=u
 cases am
 replace u:=sX HB u
 replace x:=sX HB x
 replace y:=sX HB y
 replace z:=sX HB z
 have ag:=zM ad
 have an:=zM ac
 clear ad ac
 have ah:=zM af
 have ao:=zM ae
 clear af ae
 replace I:=eq_true I
 replace J:=eq_true J
 refine start_ (n:=10) (S:=fun w'=>w'.cell? (c.add ((a).toNat*4))=some (.string ((rd_T107 l0 a).f0))∧w'.cell? ⟨(c.add ((a).toNat*4)).block,(c.add ((a).toNat*4)).off+1,none⟩=some (.slice M ((rd_T107 l0 a).f1).length O)∧w'.cell? ⟨(c.add ((a).toNat*4)).block,(c.add ((a).toNat*4)).off+2,none⟩=some (.slice P ((rd_T107 l0 a).f2).length Q)∧w'.cell? ⟨(c.add ((a).toNat*4)).block,(c.add ((a).toNat*4)).off+3,none⟩=some (.string ((rd_T107 l0 a).f3))∧w'.cell? (d.add ((a).toNat*4))=some (.string ((rd_T107 l1 a).f0))∧w'.cell? ⟨(d.add ((a).toNat*4)).block,(d.add ((a).toNat*4)).off+1,none⟩=some (.slice Y ((rd_T107 l1 a).f1).length Z)∧w'.cell? ⟨(d.add ((a).toNat*4)).block,(d.add ((a).toNat*4)).off+2,none⟩=some (.slice aa ((rd_T107 l1 a).f2).length ab)∧w'.cell? ⟨(d.add ((a).toNat*4)).block,(d.add ((a).toNat*4)).off+3,none⟩=some (.string ((rd_T107 l1 a).f3))) (ds:=[]) #[false,false,false,false,false,false,false,false,false,false] (by kernel_rfl) rfl rfl ⟨((HB.out.cell (zL w _ t)).trans t),((HB.out.cell (zL w _ s)).trans s),((HB.out.cell (zL w _ q)).trans q),((HB.out.cell (zL w _ p)).trans p),((HB.out.cell (zL w _ E)).trans E),((HB.out.cell (zL w _ D)).trans D),((HB.out.cell (zL w _ B)).trans B),((HB.out.cell (zL w _ A)).trans A)⟩ (fun hHeld=>?_);refine with_tabW laws_eqFunctionS.tab6 laws_eqFunctionS.bits6 (fun b ai=>?_)
 generalize wr.drew=w11 at HB W X ag ah j l m o u x y z hHeld ⊢
 refine pure_ (i:=0) (N:=some 17) (v:=?_) (a':=?_) (bN 10 1) rfl rfl (any_of b.out (by kernel_rfl)) (fun _ _ _ h=>h) (Or.inl ⟨by rfl,?_⟩) ?_ ?_
 rotate_left
 ·(
 intro w'
 go_simp
 with_reducible rfl)
 rotate_left
 ·(
 simp only[zP,i64_w,i32_w]
 rfl)
 refine pure_ (i:=1) (N:=some 18) (v:=?_) (a':=?_) (bN 10 3) rfl rfl (any_of b.out (by kernel_rfl)) (fun _ _ _ h=>h) (Or.inl ⟨by rfl,?_⟩) ?_ ?_
 rotate_left
 ·(
 intro w'
 go_simp
 with_reducible rfl)
 rotate_left
 ·(
 simp only[zP,i64_w,i32_w]
 rfl)
 refine pure_ (i:=2) (N:=some 19) (v:=?_) (a':=?_) (bN 10 7) rfl rfl (any_of b.out (by kernel_rfl)) (fun _ _ _ h=>h) (Or.inl ⟨by rfl,?_⟩) ?_ ?_
 rotate_left
 ·(
 intro w'
 go_simp
 with_reducible rfl)
 rotate_left
 ·(
 simp only[zP,i64_w,i32_w]
 rfl)
 refine pure_ (i:=4) (N:=some 21) (v:=?_) (a':=?_) (bN 10 23) rfl rfl (any_of b.out (by kernel_rfl)) (fun _ _ _ h=>h) (Or.inl ⟨by rfl,?_⟩) ?_ ?_
 rotate_left
 ·(
 intro w'
 go_simp
 with_reducible rfl)
 rotate_left
 ·(
 simp only[zP,i64_w,i32_w]
 rfl)
 refine pure_ (i:=5) (N:=some 22) (v:=?_) (a':=?_) (bN 10 55) rfl rfl (any_of b.out (by kernel_rfl)) (fun _ _ _ h=>h) (Or.inl ⟨by rfl,?_⟩) ?_ ?_
 rotate_left
 ·(
 intro w'
 go_simp
 with_reducible rfl)
 rotate_left
 ·(
 simp only[zP,i64_w,i32_w]
 rfl)
 refine pure_ (i:=6) (N:=some 23) (v:=?_) (a':=?_) (bN 10 119) rfl rfl (any_of b.out (by kernel_rfl)) (fun _ _ _ h=>h) (Or.inl ⟨by rfl,?_⟩) ?_ ?_
 rotate_left
 ·(
 intro w'
 go_simp
 with_reducible rfl)
 rotate_left
 ·(
 simp only[zP,i64_w,i32_w]
 rfl)
 refine take_ (i:=3) (N:=some 20) (v:=?_) (a':=?_) (bN 10 127) rfl rfl (take_ofW b.out ai.out (by kernel_rfl)) (fun _ _ _ h=>h) (Or.inl ⟨by rfl,?_⟩) hHeld ?_ ?_
 rotate_left
 ·(
 rintro w' ⟨s0,s1,s2,s3,s4,s5,s6,s7⟩
 go_simp
 with_reducible rfl)
 rotate_left
 ·(
 simp only[zP,i64_w,i32_w]
 rfl)
 refine take_ (i:=7) (N:=some 24) (v:=?_) (a':=?_) (bN 10 255) rfl rfl (take_ofW b.out ai.out (by kernel_rfl)) (fun _ _ _ h=>h) (Or.inl ⟨by rfl,?_⟩) hHeld ?_ ?_
 rotate_left
 ·(
 rintro w' ⟨s0,s1,s2,s3,s4,s5,s6,s7⟩
 go_simp
 with_reducible rfl)
 rotate_left
 ·(
 simp only[zP,i64_w,i32_w]
 rfl)
 refine one_ (i:=8) (N:=some 25) (bN 10 511) rfl rfl (one_of b.out (by kernel_rfl)) (by decide) (fun K hK=>?_)
 refine goes_ Try.func99 (by kernel_rfl) rfl #[.agg #[.string ((rd_T107 l0 a).f0),.slice M ((rd_T107 l0 a).f1).length O,.slice P ((rd_T107 l0 a).f2).length Q,.string ((rd_T107 l0 a).f3)],.agg #[.string ((rd_T107 l1 a).f0),.slice Y ((rd_T107 l1 a).f1).length Z,.slice aa ((rd_T107 l1 a).f2).length ab,.string ((rd_T107 l1 a).f3)]] (by rfl) rfl rfl (by(try simp only[List.map_toArray,List.map_cons,List.map_nil]);first|done|rfl|(simp only[List.length_drop,List.length_take];rfl)) ?_
 with_reducible refine(laws_eqFunction.calls k1 ((rd_T107 l0 a).f0) _ _ ((rd_T107 l0 a).f1) _ _ ((rd_T107 l0 a).f2) ((rd_T107 l0 a).f3) ((rd_T107 l1 a).f0) _ _ ((rd_T107 l1 a).f1) _ _ ((rd_T107 l1 a).f2) ((rd_T107 l1 a).f3) false _ ?side1 ?side2 ?side3 ?side4 ?side5 ?side6 ?side7 ?side8 A7.out).mono ?_
 (case side1=>exact sD (zC W.out HB.out))
 (case side2=>exact ak.out)
 (case side3=>exact sD (zC X.out HB.out))
 (case side4=>exact al.out)
 (case side5=>exact sD (zC ag.out HB.out))
 (case side6=>exact an.out)
 (case side7=>exact sD (zC ah.out HB.out))
 (case side8=>exact ao.out)
 rintro e az ⟨rfl,hb⟩
 refine⟨_,rfl,?_⟩
 replace HB:=sB HB hb
 (try clear hb)
 (try clear hb2)
 (try clear hk)
 (try clear hi)
 refine hK.out _ _ ⟨((HB.out.cell (zL w _ t)).trans t),((HB.out.cell (zL w _ s)).trans s),((HB.out.cell (zL w _ q)).trans q),((HB.out.cell (zL w _ p)).trans p),((HB.out.cell (zL w _ E)).trans E),((HB.out.cell (zL w _ D)).trans D),((HB.out.cell (zL w _ B)).trans B),((HB.out.cell (zL w _ A)).trans A)⟩ (fun hHeld=>?_)
 clear hK K
 refine norm_ (a':=?_) ?_ ?_
 rotate_left
 ·(
 show Act.put _ (some 25) _=_
 simp only[zP,i64_w,i32_w]
 rfl)
 refine pure_ (i:=9) (N:=some 26) (v:=?_) (a':=?_) (bN 10 1023) rfl rfl (any_of b.out (by kernel_rfl)) (fun _ _ _ h=>h) (Or.inl ⟨by rfl,?_⟩) ?_ ?_
 rotate_left
 ·(
 intro w'
 go_simp
 with_reducible rfl)
 rotate_left
 ·(
 simp only[zP,i64_w,i32_w]
 rfl)
 refine done_ (done_of b.out (by kernel_rfl)) ?_
 try go_wp2
 go_ret
 exact⟨sq,sb⟩)
 rw[if_neg c6]at H
 exact absurd H (by simp))
 rw[if_neg c5]at H
 exact absurd H (by simp))
 rw[if_neg L]at H
 have c4b0:=zF L
 clear L
 obtain rfl:=zI H
 go_wp2
 go_ret
 exact⟨sq,sb⟩)))
 rw[if_neg g]at H
 have c3b0:((l0.length:Int)==(l1.length:Int))=false:=zN g
 have c3b1:((l0.length:Int) !=(l1.length:Int))=true:=zX g
 have c3b2:(l0.length==l1.length)=false:=by first|simpa using g|(simp at g ⊢;omega)
 obtain rfl:=zI H
 go_enter Try.func70,Try.ntmps70
 go_wp2
 go_ret
 exact⟨sq,sb⟩
end Go.Proofs.Ytnneadpahjkhgaa.PFnExactSameMemory
