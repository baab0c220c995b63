/- Printed functions: laws_eqFileS. -/
import Derived.Test.YtnneadpahjkhgaaYSmP0
import Derived.Test.YtnneadpahjkhgaaYSmP33
namespace Go.Proofs.Ytnneadpahjkhgaa.PFnExactSameMemory
open Go.RowKit Go.Proofs.YtnneadpahjkhgaaG Go.Proofs.YtnneadpahjkhgaaW.PrintWords Go.Proofs.YtnneadpahjkhgaaW.PrintLast Go.Proofs.YtnneadpahjkhgaaW.PrintMore
attribute [local go_sem] max2_int min2_int max_two min_two max_three min_three max_four min_four
set_option linter.unusedVariables false
set_option linter.unusedSimpArgs false
def laws_eqFileS.l0 : Nat → List (S87) → List (S87) → Int → Option (Bool)
 |0,_,_,_=>none
 |k+1,x0,x1,x5=>if x5<(x0.length:Int)then(if 0≤x5 then(if x5<(x1.length:Int)then((laws_eqFile.f k ((rd_T87 x0 x5).f0) ((rd_T87 x0 x5).f1) ((rd_T87 x0 x5).f2) ((rd_T87 x0 x5).f3) ((rd_T87 x1 x5).f0) ((rd_T87 x1 x5).f1) ((rd_T87 x1 x5).f2) ((rd_T87 x1 x5).f3)).bind fun t489=>(if t489=true then(laws_eqFileS.l0 k x0 x1 (wrap64 (x5+1)))else(some false)))else(none))else(none))else(some true)
def laws_eqFileS.f (k:Nat) (l0:List (S87)) (l1:List (S87)):Option (Bool):=if(l0.length:Int)=(l1.length:Int)then(laws_eqFileS.l0 k l0 l1 0)else(some false)
def laws_eqFileS.T6:Bool×List (List Nat×List Nat):=(true,[([],[]),([],[]),([0,1],[0,1]),([2],[2]),([],[]),([],[]),([4,5],[4,5]),([6],[6]),([3,7],[3,7]),([8],[8])])
def laws_eqFileS.B6:List Nat:=[0,0,3,7,0,0,48,112,255,511]
theorem laws_eqFileS.tab6:rtab .any (opsOf Try.f49 6)=laws_eqFileS.T6:=by kernel_rfl
theorem laws_eqFileS.bits6:waitsOk laws_eqFileS.T6.2 laws_eqFileS.B6=true:=by kernel_rfl
set_option maxHeartbeats 8000000 in
set_option maxRecDepth 100000 in
theorem laws_eqFileS.calls (k:Nat) (A0:Option Addr) (c0:Nat) (l0:List (S87)) (A1:Option Addr) (c1:Nat) (l1:List (S87)) (r:Bool) (w:World) (hr0:Kd.C k87 w A0 l0.length l0) (hc0:l0.length≤c0) (hr1:Kd.C k87 w A1 l1.length l1) (hc1:l1.length≤c1) (h:laws_eqFileS.f k l0 l1=some r):
  Calls Try.prog 49 #[.slice A0 l0.length c0,.slice A1 l1.length c1] w fun e w'=>e= .returned (.bool r)∧Below w.heap.size w w':=by
 have ai:=Try.underlying87
 have ae:=zM hr0
 have aj:=zM hc0
 clear hr0 hc0
 have af:=zM hr1
 have ak:=zM hc1
 clear hr1 hc1
 have HB:=zM (Below.refl w.heap.size w)
 have H:(if(l0.length:Int)=(l1.length:Int)then(laws_eqFileS.l0 k l0 l1 0)else(some false))=some r:=h
 clear h
 by_cases g:(l0.length:Int)=(l1.length:Int)
 ·(
 rw[if_pos g]at H
 have c3b0:((l0.length:Int)==(l1.length:Int))=true:=zE g
 have c3b1:((l0.length:Int) !=(l1.length:Int))=false:=zY g
 have c3b2:(l0.length==l1.length)=true:=by first|simpa using g|(simp at g ⊢;omega)
 clear g
 have H':=zM H
 clear H
 go_enter Try.func49,Try.ntmps49
 go_wp2
 go_loopg [5] k (fun kq v5 w'=>∃(a:Int),v5= .int .i64 a∧Aside0 (laws_eqFileS.l0 kq l0 l1 a=some r)∧Aside0 (kq≤k)∧Aside0 (Below w.heap.size w w'))
 case atStart=>exact⟨(0),sr,H',⟨Nat.le_refl _⟩,⟨sb⟩⟩
 case round=>(
 clear H'
 try clear c1
 try clear g
 try clear c3b0
 try clear c3b1
 try clear c3b2
 obtain⟨a,rfl,HA,ag,HB⟩:=hrel
 cases gk with
 |zero=>exact absurd HA.out (by simp[laws_eqFileS.l0])
 |succ k1=>(
 have H:=HA.out
 clear HA
 simp only[laws_eqFileS.l0]at H
 by_cases L:a<(l0.length:Int)
 ·(
 rw[if_pos L]at H
 have c4b0:=zT L
 clear L
 by_cases Z:0≤a
 ·(
 rw[if_pos Z]at H
 have c5b0:=zT Z
 clear Z
 by_cases c6:a<(l1.length:Int)
 ·(
 rw[if_pos c6]at H
 have c6b0:=zT c6
 clear c6
 obtain⟨ah,A7,H⟩:=sO H
 by_cases c8:ah=true
 ·(
 subst c8
 rewrite[if_pos rfl]at H
 have H':=zM H
 clear H
 try go_wp2
 replace HB:=zM (below_drew1 HB.out)
 have F:0≤(a:Int):=zO (by first|(with_reducible assumption)|assumption)
 have G:a<(l0.length:Int):=zO (by first|(with_reducible assumption)|assumption)
 obtain⟨c,M,O,aa,j,l,m,o,P,Q⟩:=at_T87 ae.out a F G
 have p:=o
 have q:=m
 have s:=l
 have t:=j
 cases aa
 replace j:=sX HB j
 replace l:=sX HB l
 replace m:=sX HB m
 replace o:=sX HB o
 have R:=zM Q
 have ab:=zM P
 clear Q P
 replace F:=eq_true F
 replace G:=eq_true G
 have I:0≤(a:Int):=zO (by first|(with_reducible assumption)|assumption)
 have J:a<(l1.length:Int):=zO (by first|(with_reducible assumption)|assumption)
 obtain⟨d,T,U,ac,u,x,y,z,V,W⟩:=at_T87 af.out a I J
 have A:=z
 have B:=y
 have D:=x
 have E:=u
 cases ac
 replace u:=sX HB u
 replace x:=sX HB x
 replace y:=sX HB y
 replace z:=sX HB z
 have X:=zM W
 have ad:=zM V
 clear W V
 replace I:=eq_true I
 replace J:=eq_true J
 refine start_ (n:=10) (S:=fun w'=>w'.cell? (c.add ((a).toNat*4))=some (.string ((rd_T87 l0 a).f0))∧w'.cell? ⟨(c.add ((a).toNat*4)).block,(c.add ((a).toNat*4)).off+1,none⟩=some (.slice M ((rd_T87 l0 a).f1).length O)∧w'.cell? ⟨(c.add ((a).toNat*4)).block,(c.add ((a).toNat*4)).off+2,none⟩=some (.int .i64 ((rd_T87 l0 a).f2))∧w'.cell? ⟨(c.add ((a).toNat*4)).block,(c.add ((a).toNat*4)).off+3,none⟩=some (.int .i64 ((rd_T87 l0 a).f3))∧w'.cell? (d.add ((a).toNat*4))=some (.string ((rd_T87 l1 a).f0))∧w'.cell? ⟨(d.add ((a).toNat*4)).block,(d.add ((a).toNat*4)).off+1,none⟩=some (.slice T ((rd_T87 l1 a).f1).length U)∧w'.cell? ⟨(d.add ((a).toNat*4)).block,(d.add ((a).toNat*4)).off+2,none⟩=some (.int .i64 ((rd_T87 l1 a).f2))∧w'.cell? ⟨(d.add ((a).toNat*4)).block,(d.add ((a).toNat*4)).off+3,none⟩=some (.int .i64 ((rd_T87 l1 a).f3))) (ds:=[]) #[false,false,false,false,false,false,false,false,false,false] (by kernel_rfl) rfl rfl ⟨((HB.out.cell (zL w _ t)).trans t),((HB.out.cell (zL w _ s)).trans s),((HB.out.cell (zL w _ q)).trans q),((HB.out.cell (zL w _ p)).trans p),((HB.out.cell (zL w _ E)).trans E),((HB.out.cell (zL w _ D)).trans D),((HB.out.cell (zL w _ B)).trans B),((HB.out.cell (zL w _ A)).trans A)⟩ (fun hHeld=>?_);refine with_tabW laws_eqFileS.tab6 laws_eqFileS.bits6 (fun b Y=>?_)
 generalize wr.drew=w9 at HB R X j l m o u x y z hHeld ⊢
 refine pure_ (i:=0) (N:=some 17) (v:=?_) (a':=?_) (bN 10 1) rfl rfl (any_of b.out (by kernel_rfl)) (fun _ _ _ h=>h) (Or.inl ⟨by rfl,?_⟩) ?_ ?_
 rotate_left
 ·(
 intro w'
 go_simp
 with_reducible rfl)
 rotate_left
 ·(
 simp only[zP,i64_w,i32_w]
 rfl)
 refine pure_ (i:=1) (N:=some 18) (v:=?_) (a':=?_) (bN 10 3) rfl rfl (any_of b.out (by kernel_rfl)) (fun _ _ _ h=>h) (Or.inl ⟨by rfl,?_⟩) ?_ ?_
 rotate_left
 ·(
 intro w'
 go_simp
 with_reducible rfl)
 rotate_left
 ·(
 simp only[zP,i64_w,i32_w]
 rfl)
 refine pure_ (i:=2) (N:=some 19) (v:=?_) (a':=?_) (bN 10 7) rfl rfl (any_of b.out (by kernel_rfl)) (fun _ _ _ h=>h) (Or.inl ⟨by rfl,?_⟩) ?_ ?_
 rotate_left
 ·(
 intro w'
 go_simp
 with_reducible rfl)
 rotate_left
 ·(
 simp only[zP,i64_w,i32_w]
 rfl)
 refine pure_ (i:=4) (N:=some 21) (v:=?_) (a':=?_) (bN 10 23) rfl rfl (any_of b.out (by kernel_rfl)) (fun _ _ _ h=>h) (Or.inl ⟨by rfl,?_⟩) ?_ ?_
 rotate_left
 ·(
 intro w'
 go_simp
 with_reducible rfl)
 rotate_left
 ·(
 simp only[zP,i64_w,i32_w]
 rfl)
 refine pure_ (i:=5) (N:=some 22) (v:=?_) (a':=?_) (bN 10 55) rfl rfl (any_of b.out (by kernel_rfl)) (fun _ _ _ h=>h) (Or.inl ⟨by rfl,?_⟩) ?_ ?_
 rotate_left
 ·(
 intro w'
 go_simp
 with_reducible rfl)
 rotate_left
 ·(
 simp only[zP,i64_w,i32_w]
 rfl)
 refine pure_ (i:=6) (N:=some 23) (v:=?_) (a':=?_) (bN 10 119) rfl rfl (any_of b.out (by kernel_rfl)) (fun _ _ _ h=>h) (Or.inl ⟨by rfl,?_⟩) ?_ ?_
 rotate_left
 ·(
 intro w'
 go_simp
 with_reducible rfl)
 rotate_left
 ·(
 simp only[zP,i64_w,i32_w]
 rfl)
 refine take_ (i:=3) (N:=some 20) (v:=?_) (a':=?_) (bN 10 127) rfl rfl (take_ofW b.out Y.out (by kernel_rfl)) (fun _ _ _ h=>h) (Or.inl ⟨by rfl,?_⟩) hHeld ?_ ?_
 rotate_left
 ·(
 rintro w' ⟨s0,s1,s2,s3,s4,s5,s6,s7⟩
 go_simp
 with_reducible rfl)
 rotate_left
 ·(
 simp only[zP,i64_w,i32_w]
 rfl)
 refine take_ (i:=7) (N:=some 24) (v:=?_) (a':=?_) (bN 10 255) rfl rfl (take_ofW b.out Y.out (by kernel_rfl)) (fun _ _ _ h=>h) (Or.inl ⟨by rfl,?_⟩) hHeld ?_ ?_
 rotate_left
 ·(
 rintro w' ⟨s0,s1,s2,s3,s4,s5,s6,s7⟩
 go_simp
 with_reducible rfl)
 rotate_left
 ·(
 simp only[zP,i64_w,i32_w]
 rfl)
 refine one_ (i:=8) (N:=some 25) (bN 10 511) rfl rfl (one_of b.out (by kernel_rfl)) (by decide) (fun K hK=>?_)
 refine goes_ Try.func82 (by kernel_rfl) rfl #[.agg #[.string ((rd_T87 l0 a).f0),.slice M ((rd_T87 l0 a).f1).length O,.int .i64 ((rd_T87 l0 a).f2),.int .i64 ((rd_T87 l0 a).f3)],.agg #[.string ((rd_T87 l1 a).f0),.slice T ((rd_T87 l1 a).f1).length U,.int .i64 ((rd_T87 l1 a).f2),.int .i64 ((rd_T87 l1 a).f3)]] (by rfl) rfl rfl (by(try simp only[List.map_toArray,List.map_cons,List.map_nil]);first|done|rfl|(simp only[List.length_drop,List.length_take];rfl)) ?_
 with_reducible refine(laws_eqFile.calls k1 ((rd_T87 l0 a).f0) _ _ ((rd_T87 l0 a).f1) ((rd_T87 l0 a).f2) ((rd_T87 l0 a).f3) ((rd_T87 l1 a).f0) _ _ ((rd_T87 l1 a).f1) ((rd_T87 l1 a).f2) ((rd_T87 l1 a).f3) true _ ?side1 ?side2 ?side3 ?side4 A7.out).mono ?_
 (case side1=>exact sD (zC R.out HB.out))
 (case side2=>exact ab.out)
 (case side3=>exact sD (zC X.out HB.out))
 (case side4=>exact ad.out)
 rintro e al ⟨rfl,hb⟩
 refine⟨_,rfl,?_⟩
 replace HB:=sB HB hb
 (try clear hb)
 (try clear hb2)
 (try clear hk)
 (try clear hi)
 refine hK.out _ _ ⟨((HB.out.cell (zL w _ t)).trans t),((HB.out.cell (zL w _ s)).trans s),((HB.out.cell (zL w _ q)).trans q),((HB.out.cell (zL w _ p)).trans p),((HB.out.cell (zL w _ E)).trans E),((HB.out.cell (zL w _ D)).trans D),((HB.out.cell (zL w _ B)).trans B),((HB.out.cell (zL w _ A)).trans A)⟩ (fun hHeld=>?_)
 clear hK K
 refine norm_ (a':=?_) ?_ ?_
 rotate_left
 ·(
 show Act.put _ (some 25) _=_
 simp only[zP,i64_w,i32_w]
 rfl)
 refine pure_ (i:=9) (N:=some 26) (v:=?_) (a':=?_) (bN 10 1023) rfl rfl (any_of b.out (by kernel_rfl)) (fun _ _ _ h=>h) (Or.inl ⟨by rfl,?_⟩) ?_ ?_
 rotate_left
 ·(
 intro w'
 go_simp
 with_reducible rfl)
 rotate_left
 ·(
 simp only[zP,i64_w,i32_w]
 rfl)
 refine done_ (done_of b.out (by kernel_rfl)) ?_
 try go_wp2
 go_roundg k1
 case measure=>have:=ag.out;omega
 case rel=>exact⟨(wrap64 (a+1)),sr,H',⟨by have:=ag.out;omega⟩,⟨sb⟩⟩)
 replace c8:=zB c8
 subst c8
 rewrite[if_neg zQ]at H
 obtain rfl:=zI H
 try go_wp2
 replace HB:=zM (below_drew1 HB.out)
 have F:0≤(a:Int):=zO (by first|(with_reducible assumption)|assumption)
 have G:a<(l0.length:Int):=zO (by first|(with_reducible assumption)|assumption)
 obtain⟨c,M,O,aa,j,l,m,o,P,Q⟩:=at_T87 ae.out a F G
 have p:=o
 have q:=m
 have s:=l
 have t:=j
 cases aa
 replace j:=sX HB j
 replace l:=sX HB l
 replace m:=sX HB m
 replace o:=sX HB o
 have R:=zM Q
 have ab:=zM P
 clear Q P
 replace F:=eq_true F
 replace G:=eq_true G
 have I:0≤(a:Int):=zO (by first|(with_reducible assumption)|assumption)
 have J:a<(l1.length:Int):=zO (by first|(with_reducible assumption)|assumption)
 obtain⟨d,T,U,ac,u,x,y,z,V,W⟩:=at_T87 af.out a I J
 have A:=z
 have B:=y
 have D:=x
 have E:=u
 cases ac
 replace u:=sX HB u
 replace x:=sX HB x
 replace y:=sX HB y
 replace z:=sX HB z
 have X:=zM W
 have ad:=zM V
 clear W V
 replace I:=eq_true I
 replace J:=eq_true J
 refine start_ (n:=10) (S:=fun w'=>w'.cell? (c.add ((a).toNat*4))=some (.string ((rd_T87 l0 a).f0))∧w'.cell? ⟨(c.add ((a).toNat*4)).block,(c.add ((a).toNat*4)).off+1,none⟩=some (.slice M ((rd_T87 l0 a).f1).length O)∧w'.cell? ⟨(c.add ((a).toNat*4)).block,(c.add ((a).toNat*4)).off+2,none⟩=some (.int .i64 ((rd_T87 l0 a).f2))∧w'.cell? ⟨(c.add ((a).toNat*4)).block,(c.add ((a).toNat*4)).off+3,none⟩=some (.int .i64 ((rd_T87 l0 a).f3))∧w'.cell? (d.add ((a).toNat*4))=some (.string ((rd_T87 l1 a).f0))∧w'.cell? ⟨(d.add ((a).toNat*4)).block,(d.add ((a).toNat*4)).off+1,none⟩=some (.slice T ((rd_T87 l1 a).f1).length U)∧w'.cell? ⟨(d.add ((a).toNat*4)).block,(d.add ((a).toNat*4)).off+2,none⟩=some (.int .i64 ((rd_T87 l1 a).f2))∧w'.cell? ⟨(d.add ((a).toNat*4)).block,(d.add ((a).toNat*4)).off+3,none⟩=some (.int .i64 ((rd_T87 l1 a).f3))) (ds:=[]) #[false,false,false,false,false,false,false,false,false,false] (by kernel_rfl) rfl rfl ⟨((HB.out.cell (zL w _ t)).trans t),((HB.out.cell (zL w _ s)).trans s),((HB.out.cell (zL w _ q)).trans q),((HB.out.cell (zL w _ p)).trans p),((HB.out.cell (zL w _ E)).trans E),((HB.out.cell (zL w _ D)).trans D),((HB.out.cell (zL w _ B)).trans B),((HB.out.cell (zL w _ A)).trans A)⟩ (fun hHeld=>?_);refine with_tabW laws_eqFileS.tab6 laws_eqFileS.bits6 (fun b Y=>?_)
 generalize wr.drew=w11 at HB R X j l m o u x y z hHeld ⊢
 refine pure_ (i:=0) (N:=some 17) (v:=?_) (a':=?_) (bN 10 1) rfl rfl (any_of b.out (by kernel_rfl)) (fun _ _ _ h=>h) (Or.inl ⟨by rfl,?_⟩) ?_ ?_
 rotate_left
 ·(
 intro w'
 go_simp
 with_reducible rfl)
 rotate_left
 ·(
 simp only[zP,i64_w,i32_w]
 rfl)
 refine pure_ (i:=1) (N:=some 18) (v:=?_) (a':=?_) (bN 10 3) rfl rfl (any_of b.out (by kernel_rfl)) (fun _ _ _ h=>h) (Or.inl ⟨by rfl,?_⟩) ?_ ?_
 rotate_left
 ·(
 intro w'
 go_simp
 with_reducible rfl)
 rotate_left
 ·(
 simp only[zP,i64_w,i32_w]
 rfl)
 refine pure_ (i:=2) (N:=some 19) (v:=?_) (a':=?_) (bN 10 7) rfl rfl (any_of b.out (by kernel_rfl)) (fun _ _ _ h=>h) (Or.inl ⟨by rfl,?_⟩) ?_ ?_
 rotate_left
 ·(
 intro w'
 go_simp
 with_reducible rfl)
 rotate_left
 ·(
 simp only[zP,i64_w,i32_w]
 rfl)
 refine pure_ (i:=4) (N:=some 21) (v:=?_) (a':=?_) (bN 10 23) rfl rfl (any_of b.out (by kernel_rfl)) (fun _ _ _ h=>h) (Or.inl ⟨by rfl,?_⟩) ?_ ?_
 rotate_left
 ·(
 intro w'
 go_simp
 with_reducible rfl)
 rotate_left
 ·(
 simp only[zP,i64_w,i32_w]
 rfl)
 refine pure_ (i:=5) (N:=some 22) (v:=?_) (a':=?_) (bN 10 55) rfl rfl (any_of b.out (by kernel_rfl)) (fun _ _ _ h=>h) (Or.inl ⟨by rfl,?_⟩) ?_ ?_
 rotate_left
 ·(
 intro w'
 go_simp
 with_reducible rfl)
 rotate_left
 ·(
 simp only[zP,i64_w,i32_w]
 rfl)
 refine pure_ (i:=6) (N:=some 23) (v:=?_) (a':=?_) (bN 10 119) rfl rfl (any_of b.out (by kernel_rfl)) (fun _ _ _ h=>h) (Or.inl ⟨by rfl,?_⟩) ?_ ?_
 rotate_left
 ·(
 intro w'
 go_simp
 with_reducible rfl)
 rotate_left
 ·(
 simp only[zP,i64_w,i32_w]
 rfl)
 refine take_ (i:=3) (N:=some 20) (v:=?_) (a':=?_) (bN 10 127) rfl rfl (take_ofW b.out Y.out (by kernel_rfl)) (fun _ _ _ h=>h) (Or.inl ⟨by rfl,?_⟩) hHeld ?_ ?_
 rotate_left
 ·(
 rintro w' ⟨s0,s1,s2,s3,s4,s5,s6,s7⟩
 go_simp
 with_reducible rfl)
 rotate_left
 ·(
 simp only[zP,i64_w,i32_w]
 rfl)
 refine take_ (i:=7) (N:=some 24) (v:=?_) (a':=?_) (bN 10 255) rfl rfl (take_ofW b.out Y.out (by kernel_rfl)) (fun _ _ _ h=>h) (Or.inl ⟨by rfl,?_⟩) hHeld ?_ ?_
 rotate_left
 ·(
 rintro w' ⟨s0,s1,s2,s3,s4,s5,s6,s7⟩
 go_simp
 with_reducible rfl)
 rotate_left
 ·(
 simp only[zP,i64_w,i32_w]
 rfl)
 refine one_ (i:=8) (N:=some 25) (bN 10 511) rfl rfl (one_of b.out (by kernel_rfl)) (by decide) (fun K hK=>?_)
 refine goes_ Try.func82 (by kernel_rfl) rfl #[.agg #[.string ((rd_T87 l0 a).f0),.slice M ((rd_T87 l0 a).f1).length O,.int .i64 ((rd_T87 l0 a).f2),.int .i64 ((rd_T87 l0 a).f3)],.agg #[.string ((rd_T87 l1 a).f0),.slice T ((rd_T87 l1 a).f1).length U,.int .i64 ((rd_T87 l1 a).f2),.int .i64 ((rd_T87 l1 a).f3)]] (by rfl) rfl rfl (by(try simp only[List.map_toArray,List.map_cons,List.map_nil]);first|done|rfl|(simp only[List.length_drop,List.length_take];rfl)) ?_
 with_reducible refine(laws_eqFile.calls k1 ((rd_T87 l0 a).f0) _ _ ((rd_T87 l0 a).f1) ((rd_T87 l0 a).f2) ((rd_T87 l0 a).f3) ((rd_T87 l1 a).f0) _ _ ((rd_T87 l1 a).f1) ((rd_T87 l1 a).f2) ((rd_T87 l1 a).f3) false _ ?side1 ?side2 ?side3 ?side4 A7.out).mono ?_
 (case side1=>exact sD (zC R.out HB.out))
 (case side2=>exact ab.out)
 (case side3=>exact sD (zC X.out HB.out))
 (case side4=>exact ad.out)
 rintro e am ⟨rfl,hb⟩
 refine⟨_,rfl,?_⟩
 replace HB:=sB HB hb
 (try clear hb)
 (try clear hb2)
 (try clear hk)
 (try clear hi)
 refine hK.out _ _ ⟨((HB.out.cell (zL w _ t)).trans t),((HB.out.cell (zL w _ s)).trans s),((HB.out.cell (zL w _ q)).trans q),((HB.out.cell (zL w _ p)).trans p),((HB.out.cell (zL w _ E)).trans E),((HB.out.cell (zL w _ D)).trans D),((HB.out.cell (zL w _ B)).trans B),((HB.out.cell (zL w _ A)).trans A)⟩ (fun hHeld=>?_)
 clear hK K
 refine norm_ (a':=?_) ?_ ?_
 rotate_left
 ·(
 show Act.put _ (some 25) _=_
 simp only[zP,i64_w,i32_w]
 rfl)
 refine pure_ (i:=9) (N:=some 26) (v:=?_) (a':=?_) (bN 10 1023) rfl rfl (any_of b.out (by kernel_rfl)) (fun _ _ _ h=>h) (Or.inl ⟨by rfl,?_⟩) ?_ ?_
 rotate_left
 ·(
 intro w'
 go_simp
 with_reducible rfl)
 rotate_left
 ·(
 simp only[zP,i64_w,i32_w]
 rfl)
 refine done_ (done_of b.out (by kernel_rfl)) ?_
 try go_wp2
 go_ret
 exact⟨sq,sb⟩)
 rw[if_neg c6]at H
 exact absurd H (by simp))
 rw[if_neg Z]at H
 exact absurd H (by simp))
 rw[if_neg L]at H
 have c4b0:=zF L
 clear L
 obtain rfl:=zI H
 go_wp2
 go_ret
 exact⟨sq,sb⟩)))
 rw[if_neg g]at H
 have c3b0:((l0.length:Int)==(l1.length:Int))=false:=zN g
 have c3b1:((l0.length:Int) !=(l1.length:Int))=true:=zX g
 have c3b2:(l0.length==l1.length)=false:=by first|simpa using g|(simp at g ⊢;omega)
 obtain rfl:=zI H
 go_enter Try.func49,Try.ntmps49
 go_wp2
 go_ret
 exact⟨sq,sb⟩
end Go.Proofs.Ytnneadpahjkhgaa.PFnExactSameMemory
