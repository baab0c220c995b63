/- Printed functions: laws_eqBindingS, laws_eqScope. -/
import Derived.Test.YtnneadpahjkhgaaYSmP0
import Derived.Test.YtnneadpahjkhgaaYSmP29
import Derived.Test.YtnneadpahjkhgaaYSmP34
import Derived.Test.YtnneadpahjkhgaaYSmP35
namespace Go.Proofs.Ytnneadpahjkhgaa.PFnExactSameMemory
open Go.RowKit Go.Proofs.YtnneadpahjkhgaaG Go.Proofs.YtnneadpahjkhgaaW.PrintWords Go.Proofs.YtnneadpahjkhgaaW.PrintLast Go.Proofs.YtnneadpahjkhgaaW.PrintMore
attribute [local go_sem] max2_int min2_int max_two min_two max_three min_three max_four min_four
set_option linter.unusedVariables false
set_option linter.unusedSimpArgs false
def laws_eqBindingS.l0 : Nat → List (S116) → List (S116) → Int → Option (Bool)
 |0,_,_,_=>none
 |k+1,x0,x1,x5=>if x5<(x0.length:Int)then(if 0≤x5 then(if x5<(x1.length:Int)then((laws_eqBinding.f ((rd_T116 x0 x5).f0) ((rd_T116 x0 x5).f1.f0) ((rd_T116 x0 x5).f1.f1) ((rd_T116 x0 x5).f1.f2) ((rd_T116 x0 x5).f1.f3) ((rd_T116 x1 x5).f0) ((rd_T116 x1 x5).f1.f0) ((rd_T116 x1 x5).f1.f1) ((rd_T116 x1 x5).f1.f2) ((rd_T116 x1 x5).f1.f3)).bind fun t463=>(if t463=true then(laws_eqBindingS.l0 k x0 x1 (wrap64 (x5+1)))else(some false)))else(none))else(none))else(some true)
def laws_eqBindingS.f (k:Nat) (l0:List (S116)) (l1:List (S116)):Option (Bool):=if(l0.length:Int)=(l1.length:Int)then(laws_eqBindingS.l0 k l0 l1 0)else(some false)
def laws_eqBindingS.T6:Bool×List (List Nat×List Nat):=(true,[([],[]),([],[]),([0,1],[0,1]),([2],[2]),([],[]),([],[]),([4,5],[4,5]),([6],[6]),([3,7],[3,7]),([8],[8])])
def laws_eqBindingS.B6:List Nat:=[0,0,3,7,0,0,48,112,255,511]
theorem laws_eqBindingS.tab6:rtab .any (opsOf Try.f69 6)=laws_eqBindingS.T6:=by kernel_rfl
theorem laws_eqBindingS.bits6:waitsOk laws_eqBindingS.T6.2 laws_eqBindingS.B6=true:=by kernel_rfl
set_option maxHeartbeats 8000000 in
set_option maxRecDepth 100000 in
theorem laws_eqBindingS.calls (k:Nat) (A0:Option Addr) (c0:Nat) (l0:List (S116)) (A1:Option Addr) (c1:Nat) (l1:List (S116)) (r:Bool) (w:World) (hr0:Kd.C k116 w A0 l0.length l0) (hc0:l0.length≤c0) (hr1:Kd.C k116 w A1 l1.length l1) (hc1:l1.length≤c1) (h:laws_eqBindingS.f k l0 l1=some r):
  Calls Try.prog 69 #[.slice A0 l0.length c0,.slice A1 l1.length c1] w fun e w'=>e= .returned (.bool r)∧Below w.heap.size w w':=by
 have ae:=Try.underlying116
 have aa:=zM hr0
 have af:=zM hc0
 clear hr0 hc0
 have ab:=zM hr1
 have ag:=zM hc1
 clear hr1 hc1
 have HB:=zM (Below.refl w.heap.size w)
 have H:(if(l0.length:Int)=(l1.length:Int)then(laws_eqBindingS.l0 k l0 l1 0)else(some false))=some r:=h
 clear h
 by_cases g:(l0.length:Int)=(l1.length:Int)
 ·(
 rw[if_pos g]at H
 have c3b0:((l0.length:Int)==(l1.length:Int))=true:=zE g
 have c3b1:((l0.length:Int) !=(l1.length:Int))=false:=zY g
 have c3b2:(l0.length==l1.length)=true:=by first|simpa using g|(simp at g ⊢;omega)
 clear g
 have H':=zM H
 clear H
 go_enter Try.func69,Try.ntmps69
 go_wp2
 go_loopg [5] k (fun kq v5 w'=>∃(a:Int),v5= .int .i64 a∧Aside0 (laws_eqBindingS.l0 kq l0 l1 a=some r)∧Aside0 (kq≤k)∧Aside0 (Below w.heap.size w w'))
 case atStart=>exact⟨(0),sr,H',⟨Nat.le_refl _⟩,⟨sb⟩⟩
 case round=>(
 clear H'
 try clear c1
 try clear g
 try clear c3b0
 try clear c3b1
 try clear c3b2
 obtain⟨a,rfl,HA,ac,HB⟩:=hrel
 cases gk with
 |zero=>exact absurd HA.out (by simp[laws_eqBindingS.l0])
 |succ k1=>(
 have H:=HA.out
 clear HA
 simp only[laws_eqBindingS.l0]at H
 by_cases R:a<(l0.length:Int)
 ·(
 rw[if_pos R]at H
 have c4b0:=zT R
 clear R
 by_cases U:0≤a
 ·(
 rw[if_pos U]at H
 have c5b0:=zT U
 clear U
 by_cases V:a<(l1.length:Int)
 ·(
 rw[if_pos V]at H
 have c6b0:=zT V
 clear V
 obtain⟨ad,A7,H⟩:=sO H
 by_cases W:ad=true
 ·(
 subst W
 rewrite[if_pos rfl]at H
 have H':=zM H
 clear H
 try go_wp2
 replace HB:=zM (below_drew1 HB.out)
 have M:0≤(a:Int):=zO (by first|(with_reducible assumption)|assumption)
 have O:a<(l0.length:Int):=zO (by first|(with_reducible assumption)|assumption)
 obtain⟨c,X,j,l,m,o,p⟩:=at_T116 aa.out a M O
 have q:=p
 have s:=o
 have u:=m
 have x:=l
 have y:=j
 cases X
 replace j:=sX HB j
 replace l:=sX HB l
 replace m:=sX HB m
 replace o:=sX HB o
 replace p:=sX HB p
 replace M:=eq_true M
 replace O:=eq_true O
 have P:0≤(a:Int):=zO (by first|(with_reducible assumption)|assumption)
 have Q:a<(l1.length:Int):=zO (by first|(with_reducible assumption)|assumption)
 obtain⟨d,Y,z,A,B,D,E⟩:=at_T116 ab.out a P Q
 have F:=E
 have G:=D
 have I:=B
 have J:=A
 have L:=z
 cases Y
 replace z:=sX HB z
 replace A:=sX HB A
 replace B:=sX HB B
 replace D:=sX HB D
 replace E:=sX HB E
 replace P:=eq_true P
 replace Q:=eq_true Q
 refine start_ (n:=10) (S:=fun w'=>w'.cell? (c.add ((a).toNat*5))=some (.string ((rd_T116 l0 a).f0))∧w'.cell? ⟨(c.add ((a).toNat*5)).block,(c.add ((a).toNat*5)).off+1,none⟩=some (.int .i64 ((rd_T116 l0 a).f1.f0))∧w'.cell? ⟨(c.add ((a).toNat*5)).block,(c.add ((a).toNat*5)).off+2,none⟩=some (.int .i64 ((rd_T116 l0 a).f1.f1))∧w'.cell? ⟨(c.add ((a).toNat*5)).block,(c.add ((a).toNat*5)).off+3,none⟩=some (.string ((rd_T116 l0 a).f1.f2))∧w'.cell? ⟨(c.add ((a).toNat*5)).block,(c.add ((a).toNat*5)).off+4,none⟩=some (.int .i64 ((rd_T116 l0 a).f1.f3))∧w'.cell? (d.add ((a).toNat*5))=some (.string ((rd_T116 l1 a).f0))∧w'.cell? ⟨(d.add ((a).toNat*5)).block,(d.add ((a).toNat*5)).off+1,none⟩=some (.int .i64 ((rd_T116 l1 a).f1.f0))∧w'.cell? ⟨(d.add ((a).toNat*5)).block,(d.add ((a).toNat*5)).off+2,none⟩=some (.int .i64 ((rd_T116 l1 a).f1.f1))∧w'.cell? ⟨(d.add ((a).toNat*5)).block,(d.add ((a).toNat*5)).off+3,none⟩=some (.string ((rd_T116 l1 a).f1.f2))∧w'.cell? ⟨(d.add ((a).toNat*5)).block,(d.add ((a).toNat*5)).off+4,none⟩=some (.int .i64 ((rd_T116 l1 a).f1.f3))) (ds:=[]) #[false,false,false,false,false,false,false,false,false,false] (by kernel_rfl) rfl rfl ⟨((HB.out.cell (zL w _ y)).trans y),((HB.out.cell (zL w _ x)).trans x),((HB.out.cell (zL w _ u)).trans u),((HB.out.cell (zL w _ s)).trans s),((HB.out.cell (zL w _ q)).trans q),((HB.out.cell (zL w _ L)).trans L),((HB.out.cell (zL w _ J)).trans J),((HB.out.cell (zL w _ I)).trans I),((HB.out.cell (zL w _ G)).trans G),((HB.out.cell (zL w _ F)).trans F)⟩ (fun hHeld=>?_);refine with_tabW laws_eqBindingS.tab6 laws_eqBindingS.bits6 (fun b T=>?_)
 generalize wr.drew=w9 at HB j l m o p z A B D E hHeld ⊢
 refine pure_ (i:=0) (N:=some 17) (v:=?_) (a':=?_) (bN 10 1) rfl rfl (any_of b.out (by kernel_rfl)) (fun _ _ _ h=>h) (Or.inl ⟨by rfl,?_⟩) ?_ ?_
 rotate_left
 ·(
 intro w'
 go_simp
 with_reducible rfl)
 rotate_left
 ·(
 simp only[zP,i64_w,i32_w]
 rfl)
 refine pure_ (i:=1) (N:=some 18) (v:=?_) (a':=?_) (bN 10 3) rfl rfl (any_of b.out (by kernel_rfl)) (fun _ _ _ h=>h) (Or.inl ⟨by rfl,?_⟩) ?_ ?_
 rotate_left
 ·(
 intro w'
 go_simp
 with_reducible rfl)
 rotate_left
 ·(
 simp only[zP,i64_w,i32_w]
 rfl)
 refine pure_ (i:=2) (N:=some 19) (v:=?_) (a':=?_) (bN 10 7) rfl rfl (any_of b.out (by kernel_rfl)) (fun _ _ _ h=>h) (Or.inl ⟨by rfl,?_⟩) ?_ ?_
 rotate_left
 ·(
 intro w'
 go_simp
 with_reducible rfl)
 rotate_left
 ·(
 simp only[zP,i64_w,i32_w]
 rfl)
 refine pure_ (i:=4) (N:=some 21) (v:=?_) (a':=?_) (bN 10 23) rfl rfl (any_of b.out (by kernel_rfl)) (fun _ _ _ h=>h) (Or.inl ⟨by rfl,?_⟩) ?_ ?_
 rotate_left
 ·(
 intro w'
 go_simp
 with_reducible rfl)
 rotate_left
 ·(
 simp only[zP,i64_w,i32_w]
 rfl)
 refine pure_ (i:=5) (N:=some 22) (v:=?_) (a':=?_) (bN 10 55) rfl rfl (any_of b.out (by kernel_rfl)) (fun _ _ _ h=>h) (Or.inl ⟨by rfl,?_⟩) ?_ ?_
 rotate_left
 ·(
 intro w'
 go_simp
 with_reducible rfl)
 rotate_left
 ·(
 simp only[zP,i64_w,i32_w]
 rfl)
 refine pure_ (i:=6) (N:=some 23) (v:=?_) (a':=?_) (bN 10 119) rfl rfl (any_of b.out (by kernel_rfl)) (fun _ _ _ h=>h) (Or.inl ⟨by rfl,?_⟩) ?_ ?_
 rotate_left
 ·(
 intro w'
 go_simp
 with_reducible rfl)
 rotate_left
 ·(
 simp only[zP,i64_w,i32_w]
 rfl)
 refine take_ (i:=3) (N:=some 20) (v:=?_) (a':=?_) (bN 10 127) rfl rfl (take_ofW b.out T.out (by kernel_rfl)) (fun _ _ _ h=>h) (Or.inl ⟨by rfl,?_⟩) hHeld ?_ ?_
 rotate_left
 ·(
 rintro w' ⟨Z,s1,s2,s3,s4,s5,s6,s7,s8,s9⟩
 go_simp
 with_reducible rfl)
 rotate_left
 ·(
 simp only[zP,i64_w,i32_w]
 rfl)
 refine take_ (i:=7) (N:=some 24) (v:=?_) (a':=?_) (bN 10 255) rfl rfl (take_ofW b.out T.out (by kernel_rfl)) (fun _ _ _ h=>h) (Or.inl ⟨by rfl,?_⟩) hHeld ?_ ?_
 rotate_left
 ·(
 rintro w' ⟨Z,s1,s2,s3,s4,s5,s6,s7,s8,s9⟩
 go_simp
 with_reducible rfl)
 rotate_left
 ·(
 simp only[zP,i64_w,i32_w]
 rfl)
 refine one_ (i:=8) (N:=some 25) (bN 10 511) rfl rfl (one_of b.out (by kernel_rfl)) (by decide) (fun K hK=>?_)
 refine goes_ Try.func98 (by kernel_rfl) rfl #[.agg #[.string ((rd_T116 l0 a).f0),.int .i64 ((rd_T116 l0 a).f1.f0),.int .i64 ((rd_T116 l0 a).f1.f1),.string ((rd_T116 l0 a).f1.f2),.int .i64 ((rd_T116 l0 a).f1.f3)],.agg #[.string ((rd_T116 l1 a).f0),.int .i64 ((rd_T116 l1 a).f1.f0),.int .i64 ((rd_T116 l1 a).f1.f1),.string ((rd_T116 l1 a).f1.f2),.int .i64 ((rd_T116 l1 a).f1.f3)]] (by rfl) rfl rfl (by(try simp only[List.map_toArray,List.map_cons,List.map_nil]);first|done|rfl|(simp only[List.length_drop,List.length_take];rfl)) ?_
 with_reducible refine(laws_eqBinding.calls ((rd_T116 l0 a).f0) ((rd_T116 l0 a).f1.f0) ((rd_T116 l0 a).f1.f1) ((rd_T116 l0 a).f1.f2) ((rd_T116 l0 a).f1.f3) ((rd_T116 l1 a).f0) ((rd_T116 l1 a).f1.f0) ((rd_T116 l1 a).f1.f1) ((rd_T116 l1 a).f1.f2) ((rd_T116 l1 a).f1.f3) true _ A7.out).mono ?_
 rintro e ah ⟨rfl,hb⟩
 refine⟨_,rfl,?_⟩
 replace HB:=sB HB hb
 (try clear hb)
 (try clear hb2)
 (try clear hk)
 (try clear hi)
 refine hK.out _ _ ⟨((HB.out.cell (zL w _ y)).trans y),((HB.out.cell (zL w _ x)).trans x),((HB.out.cell (zL w _ u)).trans u),((HB.out.cell (zL w _ s)).trans s),((HB.out.cell (zL w _ q)).trans q),((HB.out.cell (zL w _ L)).trans L),((HB.out.cell (zL w _ J)).trans J),((HB.out.cell (zL w _ I)).trans I),((HB.out.cell (zL w _ G)).trans G),((HB.out.cell (zL w _ F)).trans F)⟩ (fun hHeld=>?_)
 clear hK K
 refine norm_ (a':=?_) ?_ ?_
 rotate_left
 ·(
 show Act.put _ (some 25) _=_
 simp only[zP,i64_w,i32_w]
 rfl)
 refine pure_ (i:=9) (N:=some 26) (v:=?_) (a':=?_) (bN 10 1023) rfl rfl (any_of b.out (by kernel_rfl)) (fun _ _ _ h=>h) (Or.inl ⟨by rfl,?_⟩) ?_ ?_
 rotate_left
 ·(
 intro w'
 go_simp
 with_reducible rfl)
 rotate_left
 ·(
 simp only[zP,i64_w,i32_w]
 rfl)
 refine done_ (done_of b.out (by kernel_rfl)) ?_
 try go_wp2
 go_roundg k1
 case measure=>have:=ac.out;omega
 case rel=>exact⟨(wrap64 (a+1)),sr,H',⟨by have:=ac.out;omega⟩,⟨sb⟩⟩)
 replace W:=zB W
 subst W
 rewrite[if_neg zQ]at H
 obtain rfl:=zI H
 try go_wp2
 replace HB:=zM (below_drew1 HB.out)
 have M:0≤(a:Int):=zO (by first|(with_reducible assumption)|assumption)
 have O:a<(l0.length:Int):=zO (by first|(with_reducible assumption)|assumption)
 obtain⟨c,X,j,l,m,o,p⟩:=at_T116 aa.out a M O
 have q:=p
 have s:=o
 have u:=m
 have x:=l
 have y:=j
 cases X
 replace j:=sX HB j
 replace l:=sX HB l
 replace m:=sX HB m
 replace o:=sX HB o
 replace p:=sX HB p
 replace M:=eq_true M
 replace O:=eq_true O
 have P:0≤(a:Int):=zO (by first|(with_reducible assumption)|assumption)
 have Q:a<(l1.length:Int):=zO (by first|(with_reducible assumption)|assumption)
 obtain⟨d,Y,z,A,B,D,E⟩:=at_T116 ab.out a P Q
 have F:=E
 have G:=D
 have I:=B
 have J:=A
 have L:=z
 cases Y
 replace z:=sX HB z
 replace A:=sX HB A
 replace B:=sX HB B
 replace D:=sX HB D
 replace E:=sX HB E
 replace P:=eq_true P
 replace Q:=eq_true Q
 refine start_ (n:=10) (S:=fun w'=>w'.cell? (c.add ((a).toNat*5))=some (.string ((rd_T116 l0 a).f0))∧w'.cell? ⟨(c.add ((a).toNat*5)).block,(c.add ((a).toNat*5)).off+1,none⟩=some (.int .i64 ((rd_T116 l0 a).f1.f0))∧w'.cell? ⟨(c.add ((a).toNat*5)).block,(c.add ((a).toNat*5)).off+2,none⟩=some (.int .i64 ((rd_T116 l0 a).f1.f1))∧w'.cell? ⟨(c.add ((a).toNat*5)).block,(c.add ((a).toNat*5)).off+3,none⟩=some (.string ((rd_T116 l0 a).f1.f2))∧w'.cell? ⟨(c.add ((a).toNat*5)).block,(c.add ((a).toNat*5)).off+4,none⟩=some (.int .i64 ((rd_T116 l0 a).f1.f3))∧w'.cell? (d.add ((a).toNat*5))=some (.string ((rd_T116 l1 a).f0))∧w'.cell? ⟨(d.add ((a).toNat*5)).block,(d.add ((a).toNat*5)).off+1,none⟩=some (.int .i64 ((rd_T116 l1 a).f1.f0))∧w'.cell? ⟨(d.add ((a).toNat*5)).block,(d.add ((a).toNat*5)).off+2,none⟩=some (.int .i64 ((rd_T116 l1 a).f1.f1))∧w'.cell? ⟨(d.add ((a).toNat*5)).block,(d.add ((a).toNat*5)).off+3,none⟩=some (.string ((rd_T116 l1 a).f1.f2))∧w'.cell? ⟨(d.add ((a).toNat*5)).block,(d.add ((a).toNat*5)).off+4,none⟩=some (.int .i64 ((rd_T116 l1 a).f1.f3))) (ds:=[]) #[false,false,false,false,false,false,false,false,false,false] (by kernel_rfl) rfl rfl ⟨((HB.out.cell (zL w _ y)).trans y),((HB.out.cell (zL w _ x)).trans x),((HB.out.cell (zL w _ u)).trans u),((HB.out.cell (zL w _ s)).trans s),((HB.out.cell (zL w _ q)).trans q),((HB.out.cell (zL w _ L)).trans L),((HB.out.cell (zL w _ J)).trans J),((HB.out.cell (zL w _ I)).trans I),((HB.out.cell (zL w _ G)).trans G),((HB.out.cell (zL w _ F)).trans F)⟩ (fun hHeld=>?_);refine with_tabW laws_eqBindingS.tab6 laws_eqBindingS.bits6 (fun b T=>?_)
 generalize wr.drew=w11 at HB j l m o p z A B D E hHeld ⊢
 refine pure_ (i:=0) (N:=some 17) (v:=?_) (a':=?_) (bN 10 1) rfl rfl (any_of b.out (by kernel_rfl)) (fun _ _ _ h=>h) (Or.inl ⟨by rfl,?_⟩) ?_ ?_
 rotate_left
 ·(
 intro w'
 go_simp
 with_reducible rfl)
 rotate_left
 ·(
 simp only[zP,i64_w,i32_w]
 rfl)
 refine pure_ (i:=1) (N:=some 18) (v:=?_) (a':=?_) (bN 10 3) rfl rfl (any_of b.out (by kernel_rfl)) (fun _ _ _ h=>h) (Or.inl ⟨by rfl,?_⟩) ?_ ?_
 rotate_left
 ·(
 intro w'
 go_simp
 with_reducible rfl)
 rotate_left
 ·(
 simp only[zP,i64_w,i32_w]
 rfl)
 refine pure_ (i:=2) (N:=some 19) (v:=?_) (a':=?_) (bN 10 7) rfl rfl (any_of b.out (by kernel_rfl)) (fun _ _ _ h=>h) (Or.inl ⟨by rfl,?_⟩) ?_ ?_
 rotate_left
 ·(
 intro w'
 go_simp
 with_reducible rfl)
 rotate_left
 ·(
 simp only[zP,i64_w,i32_w]
 rfl)
 refine pure_ (i:=4) (N:=some 21) (v:=?_) (a':=?_) (bN 10 23) rfl rfl (any_of b.out (by kernel_rfl)) (fun _ _ _ h=>h) (Or.inl ⟨by rfl,?_⟩) ?_ ?_
 rotate_left
 ·(
 intro w'
 go_simp
 with_reducible rfl)
 rotate_left
 ·(
 simp only[zP,i64_w,i32_w]
 rfl)
 refine pure_ (i:=5) (N:=some 22) (v:=?_) (a':=?_) (bN 10 55) rfl rfl (any_of b.out (by kernel_rfl)) (fun _ _ _ h=>h) (Or.inl ⟨by rfl,?_⟩) ?_ ?_
 rotate_left
 ·(
 intro w'
 go_simp
 with_reducible rfl)
 rotate_left
 ·(
 simp only[zP,i64_w,i32_w]
 rfl)
 refine pure_ (i:=6) (N:=some 23) (v:=?_) (a':=?_) (bN 10 119) rfl rfl (any_of b.out (by kernel_rfl)) (fun _ _ _ h=>h) (Or.inl ⟨by rfl,?_⟩) ?_ ?_
 rotate_left
 ·(
 intro w'
 go_simp
 with_reducible rfl)
 rotate_left
 ·(
 simp only[zP,i64_w,i32_w]
 rfl)
 refine take_ (i:=3) (N:=some 20) (v:=?_) (a':=?_) (bN 10 127) rfl rfl (take_ofW b.out T.out (by kernel_rfl)) (fun _ _ _ h=>h) (Or.inl ⟨by rfl,?_⟩) hHeld ?_ ?_
 rotate_left
 ·(
 rintro w' ⟨Z,s1,s2,s3,s4,s5,s6,s7,s8,s9⟩
 go_simp
 with_reducible rfl)
 rotate_left
 ·(
 simp only[zP,i64_w,i32_w]
 rfl)
 refine take_ (i:=7) (N:=some 24) (v:=?_) (a':=?_) (bN 10 255) rfl rfl (take_ofW b.out T.out (by kernel_rfl)) (fun _ _ _ h=>h) (Or.inl ⟨by rfl,?_⟩) hHeld ?_ ?_
 rotate_left
 ·(
 rintro w' ⟨Z,s1,s2,s3,s4,s5,s6,s7,s8,s9⟩
 go_simp
 with_reducible rfl)
 rotate_left
 ·(
 simp only[zP,i64_w,i32_w]
 rfl)
 refine one_ (i:=8) (N:=some 25) (bN 10 511) rfl rfl (one_of b.out (by kernel_rfl)) (by decide) (fun K hK=>?_)
 refine goes_ Try.func98 (by kernel_rfl) rfl #[.agg #[.string ((rd_T116 l0 a).f0),.int .i64 ((rd_T116 l0 a).f1.f0),.int .i64 ((rd_T116 l0 a).f1.f1),.string ((rd_T116 l0 a).f1.f2),.int .i64 ((rd_T116 l0 a).f1.f3)],.agg #[.string ((rd_T116 l1 a).f0),.int .i64 ((rd_T116 l1 a).f1.f0),.int .i64 ((rd_T116 l1 a).f1.f1),.string ((rd_T116 l1 a).f1.f2),.int .i64 ((rd_T116 l1 a).f1.f3)]] (by rfl) rfl rfl (by(try simp only[List.map_toArray,List.map_cons,List.map_nil]);first|done|rfl|(simp only[List.length_drop,List.length_take];rfl)) ?_
 with_reducible refine(laws_eqBinding.calls ((rd_T116 l0 a).f0) ((rd_T116 l0 a).f1.f0) ((rd_T116 l0 a).f1.f1) ((rd_T116 l0 a).f1.f2) ((rd_T116 l0 a).f1.f3) ((rd_T116 l1 a).f0) ((rd_T116 l1 a).f1.f0) ((rd_T116 l1 a).f1.f1) ((rd_T116 l1 a).f1.f2) ((rd_T116 l1 a).f1.f3) false _ A7.out).mono ?_
 rintro e ai ⟨rfl,hb⟩
 refine⟨_,rfl,?_⟩
 replace HB:=sB HB hb
 (try clear hb)
 (try clear hb2)
 (try clear hk)
 (try clear hi)
 refine hK.out _ _ ⟨((HB.out.cell (zL w _ y)).trans y),((HB.out.cell (zL w _ x)).trans x),((HB.out.cell (zL w _ u)).trans u),((HB.out.cell (zL w _ s)).trans s),((HB.out.cell (zL w _ q)).trans q),((HB.out.cell (zL w _ L)).trans L),((HB.out.cell (zL w _ J)).trans J),((HB.out.cell (zL w _ I)).trans I),((HB.out.cell (zL w _ G)).trans G),((HB.out.cell (zL w _ F)).trans F)⟩ (fun hHeld=>?_)
 clear hK K
 refine norm_ (a':=?_) ?_ ?_
 rotate_left
 ·(
 show Act.put _ (some 25) _=_
 simp only[zP,i64_w,i32_w]
 rfl)
 refine pure_ (i:=9) (N:=some 26) (v:=?_) (a':=?_) (bN 10 1023) rfl rfl (any_of b.out (by kernel_rfl)) (fun _ _ _ h=>h) (Or.inl ⟨by rfl,?_⟩) ?_ ?_
 rotate_left
 ·(
 intro w'
 go_simp
 with_reducible rfl)
 rotate_left
 ·(
 simp only[zP,i64_w,i32_w]
 rfl)
 refine done_ (done_of b.out (by kernel_rfl)) ?_
 try go_wp2
 go_ret
 exact⟨sq,sb⟩)
 rw[if_neg V]at H
 exact absurd H (by simp))
 rw[if_neg U]at H
 exact absurd H (by simp))
 rw[if_neg R]at H
 have c4b0:=zF R
 clear R
 obtain rfl:=zI H
 go_wp2
 go_ret
 exact⟨sq,sb⟩)))
 rw[if_neg g]at H
 have c3b0:((l0.length:Int)==(l1.length:Int))=false:=zN g
 have c3b1:((l0.length:Int) !=(l1.length:Int))=true:=zX g
 have c3b2:(l0.length==l1.length)=false:=by first|simpa using g|(simp at g ⊢;omega)
 obtain rfl:=zI H
 go_enter Try.func69,Try.ntmps69
 go_wp2
 go_ret
 exact⟨sq,sb⟩
def laws_eqScope.f (k:Nat) (l0_0:List (S116)) (l0_1:List (S107)) (l0_2:List (S109)) (l1_0:List (S116)) (l1_1:List (S107)) (l1_2:List (S109)):Option (Bool):=(laws_eqBindingS.f k l0_0 l1_0).bind fun t481=>(if t481=true then((laws_eqFunctionS.f k l0_1 l1_1).bind fun t482=>(if t482=true then((laws_eqRecordTypeS.f k l0_2 l1_2).bind fun t483=>(if t483=true then(some true)else(some false)))else(some false)))else(some false))
set_option maxHeartbeats 8000000 in
set_option maxRecDepth 100000 in
theorem laws_eqScope.calls (k:Nat) (A0_0:Option Addr) (c0_0:Nat) (l0_0:List (S116)) (A0_1:Option Addr) (c0_1:Nat) (l0_1:List (S107)) (A0_2:Option Addr) (c0_2:Nat) (l0_2:List (S109)) (A1_0:Option Addr) (c1_0:Nat) (l1_0:List (S116)) (A1_1:Option Addr) (c1_1:Nat) (l1_1:List (S107)) (A1_2:Option Addr) (c1_2:Nat) (l1_2:List (S109)) (r:Bool) (w:World) (hr0_0:Kd.C k116 w A0_0 l0_0.length l0_0) (hc0_0:l0_0.length≤c0_0) (hr0_1:Kd.C k107 w A0_1 l0_1.length l0_1) (hc0_1:l0_1.length≤c0_1) (hr0_2:Kd.C k109 w A0_2 l0_2.length l0_2) (hc0_2:l0_2.length≤c0_2) (hr1_0:Kd.C k116 w A1_0 l1_0.length l1_0) (hc1_0:l1_0.length≤c1_0) (hr1_1:Kd.C k107 w A1_1 l1_1.length l1_1) (hc1_1:l1_1.length≤c1_1) (hr1_2:Kd.C k109 w A1_2 l1_2.length l1_2) (hc1_2:l1_2.length≤c1_2) (h:laws_eqScope.f k l0_0 l0_1 l0_2 l1_0 l1_1 l1_2=some r):
  Calls Try.prog 24 #[.agg #[.slice A0_0 l0_0.length c0_0,.slice A0_1 l0_1.length c0_1,.slice A0_2 l0_2.length c0_2],.agg #[.slice A1_0 l1_0.length c1_0,.slice A1_1 l1_1.length c1_1,.slice A1_2 l1_2.length c1_2]] w fun e w'=>e= .returned (.bool r)∧Below w.heap.size w w':=by
 have U:=Try.underlying57
 have g:=zM hr0_0
 have j:=zM hc0_0
 clear hr0_0 hc0_0
 have u:=zM hr0_1
 have x:=zM hc0_1
 clear hr0_1 hc0_1
 have O:=zM hr0_2
 have P:=zM hc0_2
 clear hr0_2 hc0_2
 have l:=zM hr1_0
 have m:=zM hc1_0
 clear hr1_0 hc1_0
 have y:=zM hr1_1
 have z:=zM hc1_1
 clear hr1_1 hc1_1
 have Q:=zM hr1_2
 have R:=zM hc1_2
 clear hr1_2 hc1_2
 have HB:=zM (Below.refl w.heap.size w)
 have H:((laws_eqBindingS.f k l0_0 l1_0).bind fun A=>(if A=true then((laws_eqFunctionS.f k l0_1 l1_1).bind fun B=>(if B=true then((laws_eqRecordTypeS.f k l0_2 l1_2).bind fun D=>(if D=true then(some true)else(some false)))else(some false)))else(some false)))=some r:=h
 clear h
 obtain⟨A,o,H⟩:=sO H
 by_cases p:A=true
 ·(
 subst p
 rewrite[if_pos rfl]at H
 obtain⟨B,E,H⟩:=sO H
 by_cases q:B=true
 ·(
 subst q
 rewrite[if_pos rfl]at H
 obtain⟨D,T,H⟩:=sO H
 by_cases s:D=true
 ·(
 subst s
 rewrite[if_pos rfl]at H
 obtain rfl:=zI H
 go_enter Try.func24,Try.ntmps24
 go_wp2_with (first|((with_reducible refine gate_dst (N:=2) rfl ?_);refine sV (N:=2) (cs:= #[.slice A0_0 l0_0.length c0_0,.slice A0_1 l0_1.length c0_1,.slice A0_2 l0_2.length c0_2]) (t:=57) ?_;intro F hg V hbox hb;have a:=zM (hbox);have G:=sG HB hg;have I:=sG HB hg;replace HB:=sB HB hb;clear hb hbox hg)|((with_reducible refine gate_dst (N:=3) rfl ?_);refine sV (N:=3) (cs:= #[.slice A1_0 l1_0.length c1_0,.slice A1_1 l1_1.length c1_1,.slice A1_2 l1_2.length c1_2]) (t:=57) ?_;intro J hg W hbox hb;have b:=zM (hbox);have L:=sG HB hg;have M:=sG HB hg;replace HB:=sB HB hb;have c:=sN a hg;have d:=sM a hg;replace a:=sK a hb;clear hb hbox hg;have X:=c.out;have Y:=d.out;obtain⟨Z,aa,ab,ac,ad,ae⟩:=cells3 a.out;obtain⟨af,ag,ah,ai,aj,ak⟩:=cells3 b.out)|((with_reducible refine gate_callee (f:=69) rfl ?_);refine sC (some 9) Try.func69 #[.slice A0_0 l0_0.length c0_0,.slice A1_0 l1_0.length c1_0] (laws_eqBindingS.calls k _ _ l0_0 _ _ l1_0 true _ ?side1 ?side2 ?side3 ?side4 o.out) ?_;(case side1=>exact sD (zC g.out HB.out));(case side2=>exact j.out);(case side3=>exact sD (zC l.out HB.out));(case side4=>exact m.out);rintro e al ⟨rfl,hb⟩;refine⟨_,rfl,?_⟩;replace a:=sK a hb;replace b:=sK b hb;replace HB:=sB HB hb;(try clear hb);obtain⟨am,an,ao,ap,aq,ar⟩:=cells3 a.out;obtain⟨au,av,aw,ax,ay,az⟩:=cells3 b.out)|((with_reducible refine gate_callee (f:=70) rfl ?_);refine sC (some 15) Try.func70 #[.slice A0_1 l0_1.length c0_1,.slice A1_1 l1_1.length c1_1] (laws_eqFunctionS.calls k _ _ l0_1 _ _ l1_1 true _ ?side1 ?side2 ?side3 ?side4 E.out) ?_;(case side1=>exact sD (zC u.out HB.out));(case side2=>exact x.out);(case side3=>exact sD (zC y.out HB.out));(case side4=>exact z.out);rintro e aA ⟨rfl,hb⟩;refine⟨_,rfl,?_⟩;replace a:=sK a hb;replace b:=sK b hb;replace HB:=sB HB hb;(try clear hb);obtain⟨aB,aC,aD,aE,aF,aG⟩:=cells3 a.out;obtain⟨aH,aI,aJ,aK,aL,aM⟩:=cells3 b.out)|((with_reducible refine gate_callee (f:=71) rfl ?_);refine sC (some 21) Try.func71 #[.slice A0_2 l0_2.length c0_2,.slice A1_2 l1_2.length c1_2] (laws_eqRecordTypeS.calls k _ _ l0_2 _ _ l1_2 true _ ?side1 ?side2 ?side3 ?side4 T.out) ?_;(case side1=>exact sD (zC O.out HB.out));(case side2=>exact P.out);(case side3=>exact sD (zC Q.out HB.out));(case side4=>exact R.out);rintro e aN ⟨rfl,hb⟩;refine⟨_,rfl,?_⟩;replace a:=sK a hb;replace b:=sK b hb;replace HB:=sB HB hb;(try clear hb)))
 go_ret
 exact⟨sq,sb⟩)
 replace s:=zB s
 subst s
 rewrite[if_neg zQ]at H
 obtain rfl:=zI H
 go_enter Try.func24,Try.ntmps24
 go_wp2_with (first|((with_reducible refine gate_dst (N:=2) rfl ?_);refine sV (N:=2) (cs:= #[.slice A0_0 l0_0.length c0_0,.slice A0_1 l0_1.length c0_1,.slice A0_2 l0_2.length c0_2]) (t:=57) ?_;intro F hg aO hbox hb;have a:=zM (hbox);have G:=sG HB hg;have I:=sG HB hg;replace HB:=sB HB hb;clear hb hbox hg)|((with_reducible refine gate_dst (N:=3) rfl ?_);refine sV (N:=3) (cs:= #[.slice A1_0 l1_0.length c1_0,.slice A1_1 l1_1.length c1_1,.slice A1_2 l1_2.length c1_2]) (t:=57) ?_;intro J hg aP hbox hb;have b:=zM (hbox);have L:=sG HB hg;have M:=sG HB hg;replace HB:=sB HB hb;have c:=sN a hg;have d:=sM a hg;replace a:=sK a hb;clear hb hbox hg;have aQ:=c.out;have aR:=d.out;obtain⟨aS,aT,aU,aV,aW,aX⟩:=cells3 a.out;obtain⟨aY,aZ,a0,a1,a2,a3⟩:=cells3 b.out)|((with_reducible refine gate_callee (f:=69) rfl ?_);refine sC (some 9) Try.func69 #[.slice A0_0 l0_0.length c0_0,.slice A1_0 l1_0.length c1_0] (laws_eqBindingS.calls k _ _ l0_0 _ _ l1_0 true _ ?side1 ?side2 ?side3 ?side4 o.out) ?_;(case side1=>exact sD (zC g.out HB.out));(case side2=>exact j.out);(case side3=>exact sD (zC l.out HB.out));(case side4=>exact m.out);rintro e a4 ⟨rfl,hb⟩;refine⟨_,rfl,?_⟩;replace a:=sK a hb;replace b:=sK b hb;replace HB:=sB HB hb;(try clear hb);obtain⟨a5,a6,a7,a8,a9,ba⟩:=cells3 a.out;obtain⟨bb,bc,bd,be,bf,bg⟩:=cells3 b.out)|((with_reducible refine gate_callee (f:=70) rfl ?_);refine sC (some 15) Try.func70 #[.slice A0_1 l0_1.length c0_1,.slice A1_1 l1_1.length c1_1] (laws_eqFunctionS.calls k _ _ l0_1 _ _ l1_1 true _ ?side1 ?side2 ?side3 ?side4 E.out) ?_;(case side1=>exact sD (zC u.out HB.out));(case side2=>exact x.out);(case side3=>exact sD (zC y.out HB.out));(case side4=>exact z.out);rintro e bh ⟨rfl,hb⟩;refine⟨_,rfl,?_⟩;replace a:=sK a hb;replace b:=sK b hb;replace HB:=sB HB hb;(try clear hb);obtain⟨bi,bj,bk,bl,bm,bn⟩:=cells3 a.out;obtain⟨bo,bp,bq,br,bs,bt⟩:=cells3 b.out)|((with_reducible refine gate_callee (f:=71) rfl ?_);refine sC (some 21) Try.func71 #[.slice A0_2 l0_2.length c0_2,.slice A1_2 l1_2.length c1_2] (laws_eqRecordTypeS.calls k _ _ l0_2 _ _ l1_2 false _ ?side1 ?side2 ?side3 ?side4 T.out) ?_;(case side1=>exact sD (zC O.out HB.out));(case side2=>exact P.out);(case side3=>exact sD (zC Q.out HB.out));(case side4=>exact R.out);rintro e bu ⟨rfl,hb⟩;refine⟨_,rfl,?_⟩;replace a:=sK a hb;replace b:=sK b hb;replace HB:=sB HB hb;(try clear hb)))
 go_ret
 exact⟨sq,sb⟩)
 replace q:=zB q
 subst q
 rewrite[if_neg zQ]at H
 obtain rfl:=zI H
 go_enter Try.func24,Try.ntmps24
 go_wp2_with (first|((with_reducible refine gate_dst (N:=2) rfl ?_);refine sV (N:=2) (cs:= #[.slice A0_0 l0_0.length c0_0,.slice A0_1 l0_1.length c0_1,.slice A0_2 l0_2.length c0_2]) (t:=57) ?_;intro F hg bv hbox hb;have a:=zM (hbox);have G:=sG HB hg;have I:=sG HB hg;replace HB:=sB HB hb;clear hb hbox hg)|((with_reducible refine gate_dst (N:=3) rfl ?_);refine sV (N:=3) (cs:= #[.slice A1_0 l1_0.length c1_0,.slice A1_1 l1_1.length c1_1,.slice A1_2 l1_2.length c1_2]) (t:=57) ?_;intro J hg bw hbox hb;have b:=zM (hbox);have L:=sG HB hg;have M:=sG HB hg;replace HB:=sB HB hb;have c:=sN a hg;have d:=sM a hg;replace a:=sK a hb;clear hb hbox hg;have bx:=c.out;have bz:=d.out;obtain⟨bA,bB,bC,bD,bE,bF⟩:=cells3 a.out;obtain⟨bG,bH,bI,bJ,bK,bL⟩:=cells3 b.out)|((with_reducible refine gate_callee (f:=69) rfl ?_);refine sC (some 9) Try.func69 #[.slice A0_0 l0_0.length c0_0,.slice A1_0 l1_0.length c1_0] (laws_eqBindingS.calls k _ _ l0_0 _ _ l1_0 true _ ?side1 ?side2 ?side3 ?side4 o.out) ?_;(case side1=>exact sD (zC g.out HB.out));(case side2=>exact j.out);(case side3=>exact sD (zC l.out HB.out));(case side4=>exact m.out);rintro e bM ⟨rfl,hb⟩;refine⟨_,rfl,?_⟩;replace a:=sK a hb;replace b:=sK b hb;replace HB:=sB HB hb;(try clear hb);obtain⟨bO,bP,bQ,bR,bS,bT⟩:=cells3 a.out;obtain⟨bU,bV,bW,bX,bY,bZ⟩:=cells3 b.out)|((with_reducible refine gate_callee (f:=70) rfl ?_);refine sC (some 15) Try.func70 #[.slice A0_1 l0_1.length c0_1,.slice A1_1 l1_1.length c1_1] (laws_eqFunctionS.calls k _ _ l0_1 _ _ l1_1 false _ ?side1 ?side2 ?side3 ?side4 E.out) ?_;(case side1=>exact sD (zC u.out HB.out));(case side2=>exact x.out);(case side3=>exact sD (zC y.out HB.out));(case side4=>exact z.out);rintro e b0 ⟨rfl,hb⟩;refine⟨_,rfl,?_⟩;replace a:=sK a hb;replace b:=sK b hb;replace HB:=sB HB hb;(try clear hb)))
 go_ret
 exact⟨sq,sb⟩)
 replace p:=zB p
 subst p
 rewrite[if_neg zQ]at H
 obtain rfl:=zI H
 go_enter Try.func24,Try.ntmps24
 go_wp2_with (first|((with_reducible refine gate_dst (N:=2) rfl ?_);refine sV (N:=2) (cs:= #[.slice A0_0 l0_0.length c0_0,.slice A0_1 l0_1.length c0_1,.slice A0_2 l0_2.length c0_2]) (t:=57) ?_;intro F hg b1 hbox hb;have a:=zM (hbox);have G:=sG HB hg;have I:=sG HB hg;replace HB:=sB HB hb;clear hb hbox hg)|((with_reducible refine gate_dst (N:=3) rfl ?_);refine sV (N:=3) (cs:= #[.slice A1_0 l1_0.length c1_0,.slice A1_1 l1_1.length c1_1,.slice A1_2 l1_2.length c1_2]) (t:=57) ?_;intro J hg b2 hbox hb;have b:=zM (hbox);have L:=sG HB hg;have M:=sG HB hg;replace HB:=sB HB hb;have c:=sN a hg;have d:=sM a hg;replace a:=sK a hb;clear hb hbox hg;have b3:=c.out;have b4:=d.out;obtain⟨b5,b6,b7,b8,b9,ca⟩:=cells3 a.out;obtain⟨cb,cc,cd,ce,cf,cg⟩:=cells3 b.out)|((with_reducible refine gate_callee (f:=69) rfl ?_);refine sC (some 9) Try.func69 #[.slice A0_0 l0_0.length c0_0,.slice A1_0 l1_0.length c1_0] (laws_eqBindingS.calls k _ _ l0_0 _ _ l1_0 false _ ?side1 ?side2 ?side3 ?side4 o.out) ?_;(case side1=>exact sD (zC g.out HB.out));(case side2=>exact j.out);(case side3=>exact sD (zC l.out HB.out));(case side4=>exact m.out);rintro e ch ⟨rfl,hb⟩;refine⟨_,rfl,?_⟩;replace a:=sK a hb;replace b:=sK b hb;replace HB:=sB HB hb;(try clear hb)))
 go_ret
 exact⟨sq,sb⟩
end Go.Proofs.Ytnneadpahjkhgaa.PFnExactSameMemory
