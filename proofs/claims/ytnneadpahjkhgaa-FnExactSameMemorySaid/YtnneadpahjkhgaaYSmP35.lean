/- Printed functions: laws_eqRecordTypeS. -/
import Derived.Test.YtnneadpahjkhgaaYSmP0
import Derived.Test.YtnneadpahjkhgaaYSmP33
namespace Go.Proofs.Ytnneadpahjkhgaa.PFnExactSameMemory
open Go.RowKit Go.Proofs.YtnneadpahjkhgaaG Go.Proofs.YtnneadpahjkhgaaW.PrintWords Go.Proofs.YtnneadpahjkhgaaW.PrintLast Go.Proofs.YtnneadpahjkhgaaW.PrintMore
attribute [local go_sem] max2_int min2_int max_two min_two max_three min_three max_four min_four
set_option linter.unusedVariables false
set_option linter.unusedSimpArgs false
def laws_eqRecordTypeS.l0 : Nat → List (S109) → List (S109) → Int → Option (Bool)
 |0,_,_,_=>none
 |k+1,x0,x1,x5=>if x5<(x0.length:Int)then(if 0≤x5 then(if x5<(x1.length:Int)then((laws_eqRecordType.f k ((rd_T109 x0 x5).f0) ((rd_T109 x0 x5).f1) ((rd_T109 x1 x5).f0) ((rd_T109 x1 x5).f1)).bind fun t478=>(if t478=true then(laws_eqRecordTypeS.l0 k x0 x1 (wrap64 (x5+1)))else(some false)))else(none))else(none))else(some true)
def laws_eqRecordTypeS.f (k:Nat) (l0:List (S109)) (l1:List (S109)):Option (Bool):=if(l0.length:Int)=(l1.length:Int)then(laws_eqRecordTypeS.l0 k l0 l1 0)else(some false)
def laws_eqRecordTypeS.T6:Bool×List (List Nat×List Nat):=(true,[([],[]),([],[]),([0,1],[0,1]),([2],[2]),([],[]),([],[]),([4,5],[4,5]),([6],[6]),([3,7],[3,7]),([8],[8])])
def laws_eqRecordTypeS.B6:List Nat:=[0,0,3,7,0,0,48,112,255,511]
theorem laws_eqRecordTypeS.tab6:rtab .any (opsOf Try.f71 6)=laws_eqRecordTypeS.T6:=by kernel_rfl
theorem laws_eqRecordTypeS.bits6:waitsOk laws_eqRecordTypeS.T6.2 laws_eqRecordTypeS.B6=true:=by kernel_rfl
set_option maxHeartbeats 8000000 in
set_option maxRecDepth 100000 in
theorem laws_eqRecordTypeS.calls (k:Nat) (A0:Option Addr) (c0:Nat) (l0:List (S109)) (A1:Option Addr) (c1:Nat) (l1:List (S109)) (r:Bool) (w:World) (hr0:Kd.C k109 w A0 l0.length l0) (hc0:l0.length≤c0) (hr1:Kd.C k109 w A1 l1.length l1) (hc1:l1.length≤c1) (h:laws_eqRecordTypeS.f k l0 l1=some r):
  Calls Try.prog 71 #[.slice A0 l0.length c0,.slice A1 l1.length c1] w fun e w'=>e= .returned (.bool r)∧Below w.heap.size w w':=by
 have ae:=Try.underlying109
 have aa:=zM hr0
 have af:=zM hc0
 clear hr0 hc0
 have ab:=zM hr1
 have ag:=zM hc1
 clear hr1 hc1
 have HB:=zM (Below.refl w.heap.size w)
 have H:(if(l0.length:Int)=(l1.length:Int)then(laws_eqRecordTypeS.l0 k l0 l1 0)else(some false))=some r:=h
 clear h
 by_cases c:(l0.length:Int)=(l1.length:Int)
 ·(
 rw[if_pos c]at H
 have c3b0:((l0.length:Int)==(l1.length:Int))=true:=zE c
 have c3b1:((l0.length:Int) !=(l1.length:Int))=false:=zY c
 have c3b2:(l0.length==l1.length)=true:=by first|simpa using c|(simp at c ⊢;omega)
 clear c
 have H':=zM H
 clear H
 go_enter Try.func71,Try.ntmps71
 go_wp2
 go_loopg [5] k (fun kq v5 w'=>∃(a:Int),v5= .int .i64 a∧Aside0 (laws_eqRecordTypeS.l0 kq l0 l1 a=some r)∧Aside0 (kq≤k)∧Aside0 (Below w.heap.size w w'))
 case atStart=>exact⟨(0),sr,H',⟨Nat.le_refl _⟩,⟨sb⟩⟩
 case round=>(
 clear H'
 try clear c1
 try clear c
 try clear c3b0
 try clear c3b1
 try clear c3b2
 obtain⟨a,rfl,HA,ac,HB⟩:=hrel
 cases gk with
 |zero=>exact absurd HA.out (by simp[laws_eqRecordTypeS.l0])
 |succ k1=>(
 have H:=HA.out
 clear HA
 simp only[laws_eqRecordTypeS.l0]at H
 by_cases A:a<(l0.length:Int)
 ·(
 rw[if_pos A]at H
 have c4b0:=zT A
 clear A
 by_cases Q:0≤a
 ·(
 rw[if_pos Q]at H
 have c5b0:=zT Q
 clear Q
 by_cases R:a<(l1.length:Int)
 ·(
 rw[if_pos R]at H
 have c6b0:=zT R
 clear R
 obtain⟨ad,A7,H⟩:=sO H
 by_cases T:ad=true
 ·(
 subst T
 rewrite[if_pos rfl]at H
 have H':=zM H
 clear H
 try go_wp2
 replace HB:=zM (below_drew1 HB.out)
 have s:0≤(a:Int):=zO (by first|(with_reducible assumption)|assumption)
 have t:a<(l0.length:Int):=zO (by first|(with_reducible assumption)|assumption)
 obtain⟨u,B,D,U,d,g,E,F⟩:=at_T109 aa.out a s t
 have j:=g
 have l:=d
 cases U
 replace d:=sX HB d
 replace g:=sX HB g
 have G:=zM F
 have V:=zM E
 clear F E
 replace s:=eq_true s
 replace t:=eq_true t
 have x:0≤(a:Int):=zO (by first|(with_reducible assumption)|assumption)
 have y:a<(l1.length:Int):=zO (by first|(with_reducible assumption)|assumption)
 obtain⟨z,I,J,W,m,o,L,M⟩:=at_T109 ab.out a x y
 have p:=o
 have q:=m
 cases W
 replace m:=sX HB m
 replace o:=sX HB o
 have O:=zM M
 have X:=zM L
 clear M L
 replace x:=eq_true x
 replace y:=eq_true y
 refine start_ (n:=10) (S:=fun w'=>w'.cell? (u.add ((a).toNat*2))=some (.string ((rd_T109 l0 a).f0))∧w'.cell? ⟨(u.add ((a).toNat*2)).block,(u.add ((a).toNat*2)).off+1,none⟩=some (.slice B ((rd_T109 l0 a).f1).length D)∧w'.cell? (z.add ((a).toNat*2))=some (.string ((rd_T109 l1 a).f0))∧w'.cell? ⟨(z.add ((a).toNat*2)).block,(z.add ((a).toNat*2)).off+1,none⟩=some (.slice I ((rd_T109 l1 a).f1).length J)) (ds:=[]) #[false,false,false,false,false,false,false,false,false,false] (by kernel_rfl) rfl rfl ⟨((HB.out.cell (zL w _ l)).trans l),((HB.out.cell (zL w _ j)).trans j),((HB.out.cell (zL w _ q)).trans q),((HB.out.cell (zL w _ p)).trans p)⟩ (fun hHeld=>?_);refine with_tabW laws_eqRecordTypeS.tab6 laws_eqRecordTypeS.bits6 (fun b P=>?_)
 generalize wr.drew=w9 at HB G O d g m o hHeld ⊢
 refine pure_ (i:=0) (N:=some 17) (v:=?_) (a':=?_) (bN 10 1) rfl rfl (any_of b.out (by kernel_rfl)) (fun _ _ _ h=>h) (Or.inl ⟨by rfl,?_⟩) ?_ ?_
 rotate_left
 ·(
 intro w'
 go_simp
 with_reducible rfl)
 rotate_left
 ·(
 simp only[zP,i64_w,i32_w]
 rfl)
 refine pure_ (i:=1) (N:=some 18) (v:=?_) (a':=?_) (bN 10 3) rfl rfl (any_of b.out (by kernel_rfl)) (fun _ _ _ h=>h) (Or.inl ⟨by rfl,?_⟩) ?_ ?_
 rotate_left
 ·(
 intro w'
 go_simp
 with_reducible rfl)
 rotate_left
 ·(
 simp only[zP,i64_w,i32_w]
 rfl)
 refine pure_ (i:=2) (N:=some 19) (v:=?_) (a':=?_) (bN 10 7) rfl rfl (any_of b.out (by kernel_rfl)) (fun _ _ _ h=>h) (Or.inl ⟨by rfl,?_⟩) ?_ ?_
 rotate_left
 ·(
 intro w'
 go_simp
 with_reducible rfl)
 rotate_left
 ·(
 simp only[zP,i64_w,i32_w]
 rfl)
 refine pure_ (i:=4) (N:=some 21) (v:=?_) (a':=?_) (bN 10 23) rfl rfl (any_of b.out (by kernel_rfl)) (fun _ _ _ h=>h) (Or.inl ⟨by rfl,?_⟩) ?_ ?_
 rotate_left
 ·(
 intro w'
 go_simp
 with_reducible rfl)
 rotate_left
 ·(
 simp only[zP,i64_w,i32_w]
 rfl)
 refine pure_ (i:=5) (N:=some 22) (v:=?_) (a':=?_) (bN 10 55) rfl rfl (any_of b.out (by kernel_rfl)) (fun _ _ _ h=>h) (Or.inl ⟨by rfl,?_⟩) ?_ ?_
 rotate_left
 ·(
 intro w'
 go_simp
 with_reducible rfl)
 rotate_left
 ·(
 simp only[zP,i64_w,i32_w]
 rfl)
 refine pure_ (i:=6) (N:=some 23) (v:=?_) (a':=?_) (bN 10 119) rfl rfl (any_of b.out (by kernel_rfl)) (fun _ _ _ h=>h) (Or.inl ⟨by rfl,?_⟩) ?_ ?_
 rotate_left
 ·(
 intro w'
 go_simp
 with_reducible rfl)
 rotate_left
 ·(
 simp only[zP,i64_w,i32_w]
 rfl)
 refine take_ (i:=3) (N:=some 20) (v:=?_) (a':=?_) (bN 10 127) rfl rfl (take_ofW b.out P.out (by kernel_rfl)) (fun _ _ _ h=>h) (Or.inl ⟨by rfl,?_⟩) hHeld ?_ ?_
 rotate_left
 ·(
 rintro w' ⟨Y,Z,s2,s3⟩
 go_simp
 with_reducible rfl)
 rotate_left
 ·(
 simp only[zP,i64_w,i32_w]
 rfl)
 refine take_ (i:=7) (N:=some 24) (v:=?_) (a':=?_) (bN 10 255) rfl rfl (take_ofW b.out P.out (by kernel_rfl)) (fun _ _ _ h=>h) (Or.inl ⟨by rfl,?_⟩) hHeld ?_ ?_
 rotate_left
 ·(
 rintro w' ⟨Y,Z,s2,s3⟩
 go_simp
 with_reducible rfl)
 rotate_left
 ·(
 simp only[zP,i64_w,i32_w]
 rfl)
 refine one_ (i:=8) (N:=some 25) (bN 10 511) rfl rfl (one_of b.out (by kernel_rfl)) (by decide) (fun K hK=>?_)
 refine goes_ Try.func100 (by kernel_rfl) rfl #[.agg #[.string ((rd_T109 l0 a).f0),.slice B ((rd_T109 l0 a).f1).length D],.agg #[.string ((rd_T109 l1 a).f0),.slice I ((rd_T109 l1 a).f1).length J]] (by rfl) rfl rfl (by(try simp only[List.map_toArray,List.map_cons,List.map_nil]);first|done|rfl|(simp only[List.length_drop,List.length_take];rfl)) ?_
 with_reducible refine(laws_eqRecordType.calls k1 ((rd_T109 l0 a).f0) _ _ ((rd_T109 l0 a).f1) ((rd_T109 l1 a).f0) _ _ ((rd_T109 l1 a).f1) true _ ?side1 ?side2 ?side3 ?side4 A7.out).mono ?_
 (case side1=>exact sD (zC G.out HB.out))
 (case side2=>exact V.out)
 (case side3=>exact sD (zC O.out HB.out))
 (case side4=>exact X.out)
 rintro e ah ⟨rfl,hb⟩
 refine⟨_,rfl,?_⟩
 replace HB:=sB HB hb
 (try clear hb)
 (try clear hb2)
 (try clear hk)
 (try clear hi)
 refine hK.out _ _ ⟨((HB.out.cell (zL w _ l)).trans l),((HB.out.cell (zL w _ j)).trans j),((HB.out.cell (zL w _ q)).trans q),((HB.out.cell (zL w _ p)).trans p)⟩ (fun hHeld=>?_)
 clear hK K
 refine norm_ (a':=?_) ?_ ?_
 rotate_left
 ·(
 show Act.put _ (some 25) _=_
 simp only[zP,i64_w,i32_w]
 rfl)
 refine pure_ (i:=9) (N:=some 26) (v:=?_) (a':=?_) (bN 10 1023) rfl rfl (any_of b.out (by kernel_rfl)) (fun _ _ _ h=>h) (Or.inl ⟨by rfl,?_⟩) ?_ ?_
 rotate_left
 ·(
 intro w'
 go_simp
 with_reducible rfl)
 rotate_left
 ·(
 simp only[zP,i64_w,i32_w]
 rfl)
 refine done_ (done_of b.out (by kernel_rfl)) ?_
 try go_wp2
 go_roundg k1
 case measure=>have:=ac.out;omega
 case rel=>exact⟨(wrap64 (a+1)),sr,H',⟨by have:=ac.out;omega⟩,⟨sb⟩⟩)
 replace T:=zB T
 subst T
 rewrite[if_neg zQ]at H
 obtain rfl:=zI H
 try go_wp2
 replace HB:=zM (below_drew1 HB.out)
 have s:0≤(a:Int):=zO (by first|(with_reducible assumption)|assumption)
 have t:a<(l0.length:Int):=zO (by first|(with_reducible assumption)|assumption)
 obtain⟨u,B,D,U,d,g,E,F⟩:=at_T109 aa.out a s t
 have j:=g
 have l:=d
 cases U
 replace d:=sX HB d
 replace g:=sX HB g
 have G:=zM F
 have V:=zM E
 clear F E
 replace s:=eq_true s
 replace t:=eq_true t
 have x:0≤(a:Int):=zO (by first|(with_reducible assumption)|assumption)
 have y:a<(l1.length:Int):=zO (by first|(with_reducible assumption)|assumption)
 obtain⟨z,I,J,W,m,o,L,M⟩:=at_T109 ab.out a x y
 have p:=o
 have q:=m
 cases W
 replace m:=sX HB m
 replace o:=sX HB o
 have O:=zM M
 have X:=zM L
 clear M L
 replace x:=eq_true x
 replace y:=eq_true y
 refine start_ (n:=10) (S:=fun w'=>w'.cell? (u.add ((a).toNat*2))=some (.string ((rd_T109 l0 a).f0))∧w'.cell? ⟨(u.add ((a).toNat*2)).block,(u.add ((a).toNat*2)).off+1,none⟩=some (.slice B ((rd_T109 l0 a).f1).length D)∧w'.cell? (z.add ((a).toNat*2))=some (.string ((rd_T109 l1 a).f0))∧w'.cell? ⟨(z.add ((a).toNat*2)).block,(z.add ((a).toNat*2)).off+1,none⟩=some (.slice I ((rd_T109 l1 a).f1).length J)) (ds:=[]) #[false,false,false,false,false,false,false,false,false,false] (by kernel_rfl) rfl rfl ⟨((HB.out.cell (zL w _ l)).trans l),((HB.out.cell (zL w _ j)).trans j),((HB.out.cell (zL w _ q)).trans q),((HB.out.cell (zL w _ p)).trans p)⟩ (fun hHeld=>?_);refine with_tabW laws_eqRecordTypeS.tab6 laws_eqRecordTypeS.bits6 (fun b P=>?_)
 generalize wr.drew=w11 at HB G O d g m o hHeld ⊢
 refine pure_ (i:=0) (N:=some 17) (v:=?_) (a':=?_) (bN 10 1) rfl rfl (any_of b.out (by kernel_rfl)) (fun _ _ _ h=>h) (Or.inl ⟨by rfl,?_⟩) ?_ ?_
 rotate_left
 ·(
 intro w'
 go_simp
 with_reducible rfl)
 rotate_left
 ·(
 simp only[zP,i64_w,i32_w]
 rfl)
 refine pure_ (i:=1) (N:=some 18) (v:=?_) (a':=?_) (bN 10 3) rfl rfl (any_of b.out (by kernel_rfl)) (fun _ _ _ h=>h) (Or.inl ⟨by rfl,?_⟩) ?_ ?_
 rotate_left
 ·(
 intro w'
 go_simp
 with_reducible rfl)
 rotate_left
 ·(
 simp only[zP,i64_w,i32_w]
 rfl)
 refine pure_ (i:=2) (N:=some 19) (v:=?_) (a':=?_) (bN 10 7) rfl rfl (any_of b.out (by kernel_rfl)) (fun _ _ _ h=>h) (Or.inl ⟨by rfl,?_⟩) ?_ ?_
 rotate_left
 ·(
 intro w'
 go_simp
 with_reducible rfl)
 rotate_left
 ·(
 simp only[zP,i64_w,i32_w]
 rfl)
 refine pure_ (i:=4) (N:=some 21) (v:=?_) (a':=?_) (bN 10 23) rfl rfl (any_of b.out (by kernel_rfl)) (fun _ _ _ h=>h) (Or.inl ⟨by rfl,?_⟩) ?_ ?_
 rotate_left
 ·(
 intro w'
 go_simp
 with_reducible rfl)
 rotate_left
 ·(
 simp only[zP,i64_w,i32_w]
 rfl)
 refine pure_ (i:=5) (N:=some 22) (v:=?_) (a':=?_) (bN 10 55) rfl rfl (any_of b.out (by kernel_rfl)) (fun _ _ _ h=>h) (Or.inl ⟨by rfl,?_⟩) ?_ ?_
 rotate_left
 ·(
 intro w'
 go_simp
 with_reducible rfl)
 rotate_left
 ·(
 simp only[zP,i64_w,i32_w]
 rfl)
 refine pure_ (i:=6) (N:=some 23) (v:=?_) (a':=?_) (bN 10 119) rfl rfl (any_of b.out (by kernel_rfl)) (fun _ _ _ h=>h) (Or.inl ⟨by rfl,?_⟩) ?_ ?_
 rotate_left
 ·(
 intro w'
 go_simp
 with_reducible rfl)
 rotate_left
 ·(
 simp only[zP,i64_w,i32_w]
 rfl)
 refine take_ (i:=3) (N:=some 20) (v:=?_) (a':=?_) (bN 10 127) rfl rfl (take_ofW b.out P.out (by kernel_rfl)) (fun _ _ _ h=>h) (Or.inl ⟨by rfl,?_⟩) hHeld ?_ ?_
 rotate_left
 ·(
 rintro w' ⟨Y,Z,s2,s3⟩
 go_simp
 with_reducible rfl)
 rotate_left
 ·(
 simp only[zP,i64_w,i32_w]
 rfl)
 refine take_ (i:=7) (N:=some 24) (v:=?_) (a':=?_) (bN 10 255) rfl rfl (take_ofW b.out P.out (by kernel_rfl)) (fun _ _ _ h=>h) (Or.inl ⟨by rfl,?_⟩) hHeld ?_ ?_
 rotate_left
 ·(
 rintro w' ⟨Y,Z,s2,s3⟩
 go_simp
 with_reducible rfl)
 rotate_left
 ·(
 simp only[zP,i64_w,i32_w]
 rfl)
 refine one_ (i:=8) (N:=some 25) (bN 10 511) rfl rfl (one_of b.out (by kernel_rfl)) (by decide) (fun K hK=>?_)
 refine goes_ Try.func100 (by kernel_rfl) rfl #[.agg #[.string ((rd_T109 l0 a).f0),.slice B ((rd_T109 l0 a).f1).length D],.agg #[.string ((rd_T109 l1 a).f0),.slice I ((rd_T109 l1 a).f1).length J]] (by rfl) rfl rfl (by(try simp only[List.map_toArray,List.map_cons,List.map_nil]);first|done|rfl|(simp only[List.length_drop,List.length_take];rfl)) ?_
 with_reducible refine(laws_eqRecordType.calls k1 ((rd_T109 l0 a).f0) _ _ ((rd_T109 l0 a).f1) ((rd_T109 l1 a).f0) _ _ ((rd_T109 l1 a).f1) false _ ?side1 ?side2 ?side3 ?side4 A7.out).mono ?_
 (case side1=>exact sD (zC G.out HB.out))
 (case side2=>exact V.out)
 (case side3=>exact sD (zC O.out HB.out))
 (case side4=>exact X.out)
 rintro e ai ⟨rfl,hb⟩
 refine⟨_,rfl,?_⟩
 replace HB:=sB HB hb
 (try clear hb)
 (try clear hb2)
 (try clear hk)
 (try clear hi)
 refine hK.out _ _ ⟨((HB.out.cell (zL w _ l)).trans l),((HB.out.cell (zL w _ j)).trans j),((HB.out.cell (zL w _ q)).trans q),((HB.out.cell (zL w _ p)).trans p)⟩ (fun hHeld=>?_)
 clear hK K
 refine norm_ (a':=?_) ?_ ?_
 rotate_left
 ·(
 show Act.put _ (some 25) _=_
 simp only[zP,i64_w,i32_w]
 rfl)
 refine pure_ (i:=9) (N:=some 26) (v:=?_) (a':=?_) (bN 10 1023) rfl rfl (any_of b.out (by kernel_rfl)) (fun _ _ _ h=>h) (Or.inl ⟨by rfl,?_⟩) ?_ ?_
 rotate_left
 ·(
 intro w'
 go_simp
 with_reducible rfl)
 rotate_left
 ·(
 simp only[zP,i64_w,i32_w]
 rfl)
 refine done_ (done_of b.out (by kernel_rfl)) ?_
 try go_wp2
 go_ret
 exact⟨sq,sb⟩)
 rw[if_neg R]at H
 exact absurd H (by simp))
 rw[if_neg Q]at H
 exact absurd H (by simp))
 rw[if_neg A]at H
 have c4b0:=zF A
 clear A
 obtain rfl:=zI H
 go_wp2
 go_ret
 exact⟨sq,sb⟩)))
 rw[if_neg c]at H
 have c3b0:((l0.length:Int)==(l1.length:Int))=false:=zN c
 have c3b1:((l0.length:Int) !=(l1.length:Int))=true:=zX c
 have c3b2:(l0.length==l1.length)=false:=by first|simpa using c|(simp at c ⊢;omega)
 obtain rfl:=zI H
 go_enter Try.func71,Try.ntmps71
 go_wp2
 go_ret
 exact⟨sq,sb⟩
end Go.Proofs.Ytnneadpahjkhgaa.PFnExactSameMemory
