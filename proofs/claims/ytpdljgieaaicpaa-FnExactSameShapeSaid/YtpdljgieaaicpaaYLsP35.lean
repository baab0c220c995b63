/- Printed functions: spec_l07Same. -/
import Derived.Test.YtpdljgieaaicpaaYLsP0
import Derived.Test.YtpdljgieaaicpaaYLsP34
namespace Go.Proofs.Ytpdljgieaaicpaa.PFnExactLiveSize
open Go.RowKit Go.Proofs.YtpdljgieaaicpaaG Go.Proofs.YtpdljgieaaicpaaW.PrintWords Go.Proofs.YtpdljgieaaicpaaW.PrintLast Go.Proofs.YtpdljgieaaicpaaW.PrintMore
attribute [local go_sem] max2_int min2_int max_two min_two max_three min_three max_four min_four
set_option linter.unusedVariables false
set_option linter.unusedSimpArgs false
mutual
def spec_l07Same.j0 : Nat → List (S32) → List (S32) → Bool → Option (Bool)
 |0,_,_,_=>none
 |k+1,x0,x1,x27=>if x27=true then(some false)else(spec_l07Same.l0 k x0 x1 0)
def spec_l07Same.l0 : Nat → List (S32) → List (S32) → Int → Option (Bool)
 |0,_,_,_=>none
 |k+1,x0,x1,x5=>if 0<(x0.length:Int)then(if x5<(((rd_T32 x0 0).f1).length:Int)then(if 0≤x5 then(if 0<(x1.length:Int)then(if x5<(((rd_T32 x1 0).f1).length:Int)then((spec_l07SameObject.f k ((rd_T64 ((rd_T32 x0 0).f1) x5).f0) ((rd_T64 ((rd_T32 x0 0).f1) x5).f1) ((rd_T64 ((rd_T32 x0 0).f1) x5).f2) ((rd_T64 ((rd_T32 x0 0).f1) x5).f3) ((rd_T64 ((rd_T32 x0 0).f1) x5).f4) ((rd_T64 ((rd_T32 x0 0).f1) x5).f5) ((rd_T64 ((rd_T32 x0 0).f1) x5).f6.f0) ((rd_T64 ((rd_T32 x0 0).f1) x5).f6.f1) ((rd_T64 ((rd_T32 x0 0).f1) x5).f6.f2) ((rd_T64 ((rd_T32 x0 0).f1) x5).f6.f3) ((rd_T64 ((rd_T32 x1 0).f1) x5).f0) ((rd_T64 ((rd_T32 x1 0).f1) x5).f1) ((rd_T64 ((rd_T32 x1 0).f1) x5).f2) ((rd_T64 ((rd_T32 x1 0).f1) x5).f3) ((rd_T64 ((rd_T32 x1 0).f1) x5).f4) ((rd_T64 ((rd_T32 x1 0).f1) x5).f5) ((rd_T64 ((rd_T32 x1 0).f1) x5).f6.f0) ((rd_T64 ((rd_T32 x1 0).f1) x5).f6.f1) ((rd_T64 ((rd_T32 x1 0).f1) x5).f6.f2) ((rd_T64 ((rd_T32 x1 0).f1) x5).f6.f3)).bind fun t562=>(if t562=true then(spec_l07Same.l0 k x0 x1 (wrap64 (x5+1)))else(some false)))else(none))else(none))else(none))else(some true))else(none)
end
def spec_l07Same.f (k:Nat) (l0:List (S32)) (l1:List (S32)):Option (Bool):=if 0<(l0.length:Int)then(if 0<(l1.length:Int)then(if((rd_T32 l0 0).f0)=((rd_T32 l1 0).f0)then(spec_l07Same.j0 k l0 l1 ((((rd_T32 l0 0).f1).length:Int) !=(((rd_T32 l1 0).f1).length:Int)))else(spec_l07Same.j0 k l0 l1 true))else(none))else(none)
def spec_l07Same.T1:Bool×List (List Nat×List Nat):=(true,[([],[]),([0],[0]),([1],[1]),([2],[2]),([],[]),([4],[4]),([5],[5]),([6],[6]),([3,7],[3,7]),([8],[8]),([9],[9]),([10,9],[9,10]),([11,9],[9,11]),([12,9],[9,12]),([13,9],[9,13]),([9],[9]),([15,9],[9,15]),([16,9],[9,16]),([17,9],[9,17]),([18,9],[9,18]),([14,19,9],[9,14,19]),([9,20],[9,20])])
def spec_l07Same.B1:List Nat:=[0,1,3,7,0,16,48,112,255,511,1023,2047,4095,8191,16383,1023,33791,99327,230399,492543,1048575,2097151]
theorem spec_l07Same.tab1:rtab .any (opsOf Try.f61 1)=spec_l07Same.T1:=by kernel_rfl
theorem spec_l07Same.bits1:waitsOk spec_l07Same.T1.2 spec_l07Same.B1=true:=by kernel_rfl
def spec_l07Same.T6:Bool×List (List Nat×List Nat):=(true,[([],[]),([0],[0]),([1],[1]),([2],[2]),([],[]),([3,4],[3,4]),([5],[5]),([],[]),([7],[7]),([8],[8]),([9],[9]),([],[]),([10,11],[10,11]),([12],[12]),([6,13],[6,13]),([14],[14])])
def spec_l07Same.B6:List Nat:=[0,1,3,7,0,31,63,0,128,384,896,0,3968,8064,16383,32767]
theorem spec_l07Same.tab6:rtab .any (opsOf Try.f61 6)=spec_l07Same.T6:=by kernel_rfl
theorem spec_l07Same.bits6:waitsOk spec_l07Same.T6.2 spec_l07Same.B6=true:=by kernel_rfl
set_option maxHeartbeats 8000000 in
set_option maxRecDepth 100000 in
theorem spec_l07Same.calls (k:Nat) (A0:Option Addr) (l0:List (S32)) (A1:Option Addr) (l1:List (S32)) (r:Bool) (w:World) (hr0:Kd.C k32 w A0 l0.length l0) (hr1:Kd.C k32 w A1 l1.length l1) (h:spec_l07Same.f k l0 l1=some r):
  Calls Try.prog 61 #[.pointer A0,.pointer A1] w fun e w'=>e= .returned (.bool r)∧Below w.heap.size w w':=by
 have cX:=Try.underlying64
 have aK:=zM hr0
 have cY:=zM (Nat.le_refl l0.length)
 clear hr0
 have bm:=zM hr1
 have cZ:=zM (Nat.le_refl l1.length)
 clear hr1
 have HB:=zM (Below.refl w.heap.size w)
 have H:(if 0<(l0.length:Int)then(if 0<(l1.length:Int)then(if((rd_T32 l0 0).f0)=((rd_T32 l1 0).f0)then(spec_l07Same.j0 k l0 l1 ((((rd_T32 l0 0).f1).length:Int) !=(((rd_T32 l1 0).f1).length:Int)))else(spec_l07Same.j0 k l0 l1 true))else(none))else(none))=some r:=h
 clear h
 have b6:=zM H
 clear H
 go_enter Try.func61,Try.ntmps61
 go_upto_region 1 with(fail)
 go_cut [27] (fun cH wc=>∃(kq:Nat) (bW:Bool),cH= .bool bW∧Aside0 (spec_l07Same.j0 kq l0 l1 bW=some r)∧Aside0 (kq≤k)∧Aside0 (Below w.heap.size w wc))
 case first=>(
 have H:=b6.out
 clear b6
 by_cases c4:0<(l0.length:Int)
 ·(
 rw[if_pos c4]at H
 have c4b0:=zT c4
 have c4b1:decide (0<l0.length)=true:=zT (by omega)
 clear c4
 (first|rw[c4b0]|(simp only[i64_w,i32_w];rw[c4b0])|rw[c4b2]|skip)
 by_cases c5:0<(l1.length:Int)
 ·(
 rw[if_pos c5]at H
 have c5b0:=zT c5
 have c5b1:decide (0<l1.length)=true:=zT (by omega)
 clear c5
 by_cases c6:((rd_T32 l0 0).f0)=((rd_T32 l1 0).f0)
 ·(
 rw[if_pos c6]at H
 have c6b0:(((rd_T32 l0 0).f0)==((rd_T32 l1 0).f0))=true:=zE c6
 have c6b1:(((rd_T32 l0 0).f0) !=((rd_T32 l1 0).f0))=false:=zY c6
 clear c6
 have H':=zM H
 clear H
 try go_wp2
 replace HB:=zM (below_drew1 HB.out)
 have aN:0≤(0:Int):=(by omega)
 have aO:0<(l0.length:Int):=zzA
 obtain⟨s,bX,bY,b7,t,p,bn,bo⟩:=at_T32 aK.out 0 aN aO
 have aP:=p
 (try rw[sZ]at aP)
 have aQ:=t
 (try rw[sZ]at aQ)
 cases b7
 have cI:(0<l0.length)=True:=eq_true (by omega)
 (try rw[sZ]at t)
 (try rw[sZ]at p)
 replace t:=sX HB t
 replace p:=sX HB p
 have b8:=zM bo
 have cJ:=zM bn
 clear bo bn
 replace aN:=eq_true aN
 replace aO:=eq_true aO
 have aR:0≤(0:Int):=(by omega)
 have aS:0<(l1.length:Int):=zzA
 obtain⟨u,bZ,b0,b9,x,q,bp,bq⟩:=at_T32 bm.out 0 aR aS
 have aT:=q
 (try rw[sZ]at aT)
 have aU:=x
 (try rw[sZ]at aU)
 cases b9
 have cK:(0<l1.length)=True:=eq_true (by omega)
 (try rw[sZ]at x)
 (try rw[sZ]at q)
 replace x:=sX HB x
 replace q:=sX HB q
 have ca:=zM bq
 have cL:=zM bp
 clear bq bp
 replace aR:=eq_true aR
 replace aS:=eq_true aS
 have cb:0≤(0:Int):=(by omega)
 have cc:0<(l0.length:Int):=zzA
 obtain⟨ad555,c0,c1,cM,br,bj,cv,cw⟩:=at_T32 aK.out 0 cb cc
 have cd:=bj
 (try rw[sZ]at cd)
 have ce:=br
 (try rw[sZ]at ce)
 obtain rfl:s=ad555:=(by injection cM)
 have c2:(0<l0.length)=True:=eq_true (by omega)
 (try rw[sZ]at br)
 (try rw[sZ]at bj)
 replace br:=sX HB br
 replace bj:=sX HB bj
 have cN:=zM cw
 have c3:=zM cv
 clear cw cv
 replace cb:=eq_true cb
 replace cc:=eq_true cc
 have aV:=zI (p.symm.trans bj)
 injection aV with aV cf cg
 subst aV
 subst cg
 clear cf
 have ch:0≤(0:Int):=(by omega)
 have ci:0<(l1.length:Int):=zzA
 obtain⟨ad556,c7,c8,cO,bs,bk,cx,cy⟩:=at_T32 bm.out 0 ch ci
 have cj:=bk
 (try rw[sZ]at cj)
 have ck:=bs
 (try rw[sZ]at ck)
 obtain rfl:u=ad556:=(by injection cO)
 have da:(0<l1.length)=True:=eq_true (by omega)
 (try rw[sZ]at bs)
 (try rw[sZ]at bk)
 replace bs:=sX HB bs
 replace bk:=sX HB bk
 have cP:=zM cy
 have db:=zM cx
 clear cy cx
 replace ch:=eq_true ch
 replace ci:=eq_true ci
 have aV:=zI (q.symm.trans bk)
 injection aV with aV cf cg
 subst aV
 subst cg
 clear cf
 refine start_ (n:=22) (S:=fun w'=>w'.cell? s=some (.int .i64 ((rd_T32 l0 0).f0))∧w'.cell? ⟨s.block,s.off+1,none⟩=some (.slice bX ((rd_T32 l0 0).f1).length bY)∧w'.cell? u=some (.int .i64 ((rd_T32 l1 0).f0))∧w'.cell? ⟨u.block,u.off+1,none⟩=some (.slice bZ ((rd_T32 l1 0).f1).length b0)∧w'.cell? s=some (.int .i64 ((rd_T32 l0 0).f0))∧w'.cell? ⟨s.block,s.off+1,none⟩=some (.slice bX ((rd_T32 l0 0).f1).length bY)∧w'.cell? u=some (.int .i64 ((rd_T32 l1 0).f0))∧w'.cell? ⟨u.block,u.off+1,none⟩=some (.slice bZ ((rd_T32 l1 0).f1).length b0)) (ds:=[]) #[false,false,false,false,false,false,false,false,false,false,false,false,false,false,false,false,false,false,false,false,false,false] (by kernel_rfl) rfl rfl ⟨((HB.out.cell (zL w _ aQ)).trans aQ),((HB.out.cell (zL w _ aP)).trans aP),((HB.out.cell (zL w _ aU)).trans aU),((HB.out.cell (zL w _ aT)).trans aT),((HB.out.cell (zL w _ ce)).trans ce),((HB.out.cell (zL w _ cd)).trans cd),((HB.out.cell (zL w _ ck)).trans ck),((HB.out.cell (zL w _ cj)).trans cj)⟩ (fun hHeld=>?_);refine with_tabW spec_l07Same.tab1 spec_l07Same.bits1 (fun b g=>?_)
 generalize w.drew=w7 at HB b8 ca cN cP t p x q br bj bs bk hHeld ⊢
 refine pure_ (i:=0) (N:=some 6) (v:=?_) (a':=?_) (bN 22 1) rfl rfl (any_of b.out (by kernel_rfl)) (fun _ _ _ h=>h) (Or.inl ⟨by rfl,?_⟩) ?_ ?_
 rotate_left
 ·(
 intro w'
 go_simp
 with_reducible rfl)
 rotate_left
 ·(
 simp only[zP,i64_w,i32_w]
 rfl)
 refine pure_ (i:=1) (N:=some 7) (v:=?_) (a':=?_) (bN 22 3) rfl rfl (any_of b.out (by kernel_rfl)) (fun _ _ _ h=>h) (Or.inl ⟨by rfl,?_⟩) ?_ ?_
 rotate_left
 ·(
 intro w'
 go_simp
 with_reducible rfl)
 rotate_left
 ·(
 simp only[zP,i64_w,i32_w]
 rfl)
 refine pure_ (i:=2) (N:=some 8) (v:=?_) (a':=?_) (bN 22 7) rfl rfl (any_of b.out (by kernel_rfl)) (fun _ _ _ h=>h) (Or.inl ⟨by rfl,?_⟩) ?_ ?_
 rotate_left
 ·(
 intro w'
 go_simp
 with_reducible rfl)
 rotate_left
 ·(
 simp only[zP,i64_w,i32_w]
 rfl)
 refine pure_ (i:=4) (N:=some 10) (v:=?_) (a':=?_) (bN 22 23) rfl rfl (any_of b.out (by kernel_rfl)) (fun _ _ _ h=>h) (Or.inl ⟨by rfl,?_⟩) ?_ ?_
 rotate_left
 ·(
 intro w'
 go_simp
 with_reducible rfl)
 rotate_left
 ·(
 simp only[zP,i64_w,i32_w]
 rfl)
 refine pure_ (i:=5) (N:=some 11) (v:=?_) (a':=?_) (bN 22 55) rfl rfl (any_of b.out (by kernel_rfl)) (fun _ _ _ h=>h) (Or.inl ⟨by rfl,?_⟩) ?_ ?_
 rotate_left
 ·(
 intro w'
 go_simp
 with_reducible rfl)
 rotate_left
 ·(
 simp only[zP,i64_w,i32_w]
 rfl)
 refine pure_ (i:=6) (N:=some 12) (v:=?_) (a':=?_) (bN 22 119) rfl rfl (any_of b.out (by kernel_rfl)) (fun _ _ _ h=>h) (Or.inl ⟨by rfl,?_⟩) ?_ ?_
 rotate_left
 ·(
 intro w'
 go_simp
 with_reducible rfl)
 rotate_left
 ·(
 simp only[zP,i64_w,i32_w]
 rfl)
 refine take_ (i:=3) (N:=some 9) (v:=?_) (a':=?_) (bN 22 127) rfl rfl (take_ofW b.out g.out (by kernel_rfl)) (fun _ _ _ h=>h) (Or.inl ⟨by rfl,?_⟩) hHeld ?_ ?_
 rotate_left
 ·(
 rintro w' ⟨j,l,m,o,y,z,A,B⟩
 go_simp
 with_reducible rfl)
 rotate_left
 ·(
 simp only[zP,i64_w,i32_w]
 rfl)
 refine take_ (i:=7) (N:=some 13) (v:=?_) (a':=?_) (bN 22 255) rfl rfl (take_ofW b.out g.out (by kernel_rfl)) (fun _ _ _ h=>h) (Or.inl ⟨by rfl,?_⟩) hHeld ?_ ?_
 rotate_left
 ·(
 rintro w' ⟨j,l,m,o,y,z,A,B⟩
 go_simp
 with_reducible rfl)
 rotate_left
 ·(
 simp only[zP,i64_w,i32_w]
 rfl)
 refine pure_ (i:=8) (N:=some 14) (v:=?_) (a':=?_) (bN 22 511) rfl rfl (any_of b.out (by kernel_rfl)) (fun _ _ _ h=>h) (Or.inl ⟨by rfl,?_⟩) ?_ ?_
 rotate_left
 ·(
 intro w'
 go_simp
 with_reducible rfl)
 rotate_left
 ·(
 simp only[zP,i64_w,i32_w]
 rfl)
 refine pure_ (i:=9) (N:=some 15) (v:=?_) (a':=?_) (bN 22 1023) rfl rfl (any_of b.out (by kernel_rfl)) (fun _ _ _ h=>h) (Or.inl ⟨by rfl,?_⟩) ?_ ?_
 rotate_left
 ·(
 intro w'
 go_simp
 with_reducible rfl)
 rotate_left
 ·(
 simp only[zP,i64_w,i32_w]
 rfl)
 refine pure_ (i:=10) (N:=some 16) (v:=?_) (a':=?_) (bN 22 2047) rfl rfl (any_of b.out (by kernel_rfl)) (fun _ _ _ h=>h) (Or.inl ⟨by rfl,?_⟩) ?_ ?_
 rotate_left
 ·(
 intro w'
 go_simp
 with_reducible rfl)
 rotate_left
 ·(
 simp only[zP,i64_w,i32_w]
 rfl)
 refine pure_ (i:=11) (N:=some 17) (v:=?_) (a':=?_) (bN 22 4095) rfl rfl (any_of b.out (by kernel_rfl)) (fun _ _ _ h=>h) (Or.inl ⟨by rfl,?_⟩) ?_ ?_
 rotate_left
 ·(
 intro w'
 go_simp
 with_reducible rfl)
 rotate_left
 ·(
 simp only[zP,i64_w,i32_w]
 rfl)
 refine pure_ (i:=12) (N:=some 18) (v:=?_) (a':=?_) (bN 22 8191) rfl rfl (any_of b.out (by kernel_rfl)) (fun _ _ _ h=>h) (Or.inl ⟨by rfl,?_⟩) ?_ ?_
 rotate_left
 ·(
 intro w'
 go_simp
 with_reducible rfl)
 rotate_left
 ·(
 simp only[zP,i64_w,i32_w]
 rfl)
 refine pure_ (i:=15) (N:=some 21) (v:=?_) (a':=?_) (bN 22 40959) rfl rfl (any_of b.out (by kernel_rfl)) (fun _ _ _ h=>h) (Or.inl ⟨by rfl,?_⟩) ?_ ?_
 rotate_left
 ·(
 intro w'
 go_simp
 with_reducible rfl)
 rotate_left
 ·(
 simp only[zP,i64_w,i32_w]
 rfl)
 refine pure_ (i:=16) (N:=some 22) (v:=?_) (a':=?_) (bN 22 106495) rfl rfl (any_of b.out (by kernel_rfl)) (fun _ _ _ h=>h) (Or.inl ⟨by rfl,?_⟩) ?_ ?_
 rotate_left
 ·(
 intro w'
 go_simp
 with_reducible rfl)
 rotate_left
 ·(
 simp only[zP,i64_w,i32_w]
 rfl)
 refine pure_ (i:=17) (N:=some 23) (v:=?_) (a':=?_) (bN 22 237567) rfl rfl (any_of b.out (by kernel_rfl)) (fun _ _ _ h=>h) (Or.inl ⟨by rfl,?_⟩) ?_ ?_
 rotate_left
 ·(
 intro w'
 go_simp
 with_reducible rfl)
 rotate_left
 ·(
 simp only[zP,i64_w,i32_w]
 rfl)
 refine take_ (i:=13) (N:=some 19) (v:=?_) (a':=?_) (bN 22 245759) rfl rfl (take_ofW b.out g.out (by kernel_rfl)) (fun _ _ _ h=>h) (Or.inl ⟨by rfl,?_⟩) hHeld ?_ ?_
 rotate_left
 ·(
 rintro w' ⟨j,l,m,o,y,z,A,B⟩
 go_simp
 with_reducible rfl)
 rotate_left
 ·(
 simp only[zP,i64_w,i32_w]
 rfl)
 refine pure_ (i:=14) (N:=some 20) (v:=?_) (a':=?_) (bN 22 262143) rfl rfl (any_of b.out (by kernel_rfl)) (fun _ _ _ h=>h) (Or.inl ⟨by rfl,?_⟩) ?_ ?_
 rotate_left
 ·(
 intro w'
 go_simp
 with_reducible rfl)
 rotate_left
 ·(
 simp only[zP,i64_w,i32_w]
 rfl)
 refine take_ (i:=18) (N:=some 24) (v:=?_) (a':=?_) (bN 22 524287) rfl rfl (take_ofW b.out g.out (by kernel_rfl)) (fun _ _ _ h=>h) (Or.inl ⟨by rfl,?_⟩) hHeld ?_ ?_
 rotate_left
 ·(
 rintro w' ⟨j,l,m,o,y,z,A,B⟩
 go_simp
 with_reducible rfl)
 rotate_left
 ·(
 simp only[zP,i64_w,i32_w]
 rfl)
 refine pure_ (i:=19) (N:=some 25) (v:=?_) (a':=?_) (bN 22 1048575) rfl rfl (any_of b.out (by kernel_rfl)) (fun _ _ _ h=>h) (Or.inl ⟨by rfl,?_⟩) ?_ ?_
 rotate_left
 ·(
 intro w'
 go_simp
 with_reducible rfl)
 rotate_left
 ·(
 simp only[zP,i64_w,i32_w]
 rfl)
 refine pure_ (i:=20) (N:=some 26) (v:=?_) (a':=?_) (bN 22 2097151) rfl rfl (any_of b.out (by kernel_rfl)) (fun _ _ _ h=>h) (Or.inl ⟨by rfl,?_⟩) ?_ ?_
 rotate_left
 ·(
 intro w'
 go_simp
 with_reducible rfl)
 rotate_left
 ·(
 simp only[zP,i64_w,i32_w]
 rfl)
 refine pure_ (i:=21) (N:=some 27) (v:=?_) (a':=?_) (bN 22 4194303) rfl rfl (any_of b.out (by kernel_rfl)) (fun _ _ _ h=>h) (Or.inl ⟨by rfl,?_⟩) ?_ ?_
 rotate_left
 ·(
 intro w'
 go_simp
 with_reducible rfl)
 rotate_left
 ·(
 simp only[zP,i64_w,i32_w]
 rfl)
 refine done_ (done_of b.out (by kernel_rfl)) ?_
 try go_wp2
 go_meet
 case rel=>exact⟨_,(((((rd_T32 l0 0).f1).length:Int) !=(((rd_T32 l1 0).f1).length:Int))),sr,H',⟨by first|omega|exact Nat.le_refl _⟩,⟨sb⟩⟩)
 rw[if_neg c6]at H
 have c6b0:(((rd_T32 l0 0).f0)==((rd_T32 l1 0).f0))=false:=zN c6
 have c6b1:(((rd_T32 l0 0).f0) !=((rd_T32 l1 0).f0))=true:=zX c6
 have H':=zM H
 clear H
 try go_wp2
 replace HB:=zM (below_drew1 HB.out)
 have aN:0≤(0:Int):=(by omega)
 have aO:0<(l0.length:Int):=zzA
 obtain⟨s,bX,bY,b7,t,p,bn,bo⟩:=at_T32 aK.out 0 aN aO
 have aP:=p
 (try rw[sZ]at aP)
 have aQ:=t
 (try rw[sZ]at aQ)
 cases b7
 have cI:(0<l0.length)=True:=eq_true (by omega)
 (try rw[sZ]at t)
 (try rw[sZ]at p)
 replace t:=sX HB t
 replace p:=sX HB p
 have b8:=zM bo
 have cJ:=zM bn
 clear bo bn
 replace aN:=eq_true aN
 replace aO:=eq_true aO
 have aR:0≤(0:Int):=(by omega)
 have aS:0<(l1.length:Int):=zzA
 obtain⟨u,bZ,b0,b9,x,q,bp,bq⟩:=at_T32 bm.out 0 aR aS
 have aT:=q
 (try rw[sZ]at aT)
 have aU:=x
 (try rw[sZ]at aU)
 cases b9
 have cK:(0<l1.length)=True:=eq_true (by omega)
 (try rw[sZ]at x)
 (try rw[sZ]at q)
 replace x:=sX HB x
 replace q:=sX HB q
 have ca:=zM bq
 have cL:=zM bp
 clear bq bp
 replace aR:=eq_true aR
 replace aS:=eq_true aS
 refine start_ (n:=22) (S:=fun w'=>w'.cell? s=some (.int .i64 ((rd_T32 l0 0).f0))∧w'.cell? ⟨s.block,s.off+1,none⟩=some (.slice bX ((rd_T32 l0 0).f1).length bY)∧w'.cell? u=some (.int .i64 ((rd_T32 l1 0).f0))∧w'.cell? ⟨u.block,u.off+1,none⟩=some (.slice bZ ((rd_T32 l1 0).f1).length b0)) (ds:=[]) #[false,false,false,false,false,false,false,false,false,false,false,false,false,false,false,false,false,false,false,false,false,false] (by kernel_rfl) rfl rfl ⟨((HB.out.cell (zL w _ aQ)).trans aQ),((HB.out.cell (zL w _ aP)).trans aP),((HB.out.cell (zL w _ aU)).trans aU),((HB.out.cell (zL w _ aT)).trans aT)⟩ (fun hHeld=>?_);refine with_tabW spec_l07Same.tab1 spec_l07Same.bits1 (fun b g=>?_)
 generalize w.drew=w8 at HB b8 ca t p x q hHeld ⊢
 refine pure_ (i:=0) (N:=some 6) (v:=?_) (a':=?_) (bN 22 1) rfl rfl (any_of b.out (by kernel_rfl)) (fun _ _ _ h=>h) (Or.inl ⟨by rfl,?_⟩) ?_ ?_
 rotate_left
 ·(
 intro w'
 go_simp
 with_reducible rfl)
 rotate_left
 ·(
 simp only[zP,i64_w,i32_w]
 rfl)
 refine pure_ (i:=1) (N:=some 7) (v:=?_) (a':=?_) (bN 22 3) rfl rfl (any_of b.out (by kernel_rfl)) (fun _ _ _ h=>h) (Or.inl ⟨by rfl,?_⟩) ?_ ?_
 rotate_left
 ·(
 intro w'
 go_simp
 with_reducible rfl)
 rotate_left
 ·(
 simp only[zP,i64_w,i32_w]
 rfl)
 refine pure_ (i:=2) (N:=some 8) (v:=?_) (a':=?_) (bN 22 7) rfl rfl (any_of b.out (by kernel_rfl)) (fun _ _ _ h=>h) (Or.inl ⟨by rfl,?_⟩) ?_ ?_
 rotate_left
 ·(
 intro w'
 go_simp
 with_reducible rfl)
 rotate_left
 ·(
 simp only[zP,i64_w,i32_w]
 rfl)
 refine pure_ (i:=4) (N:=some 10) (v:=?_) (a':=?_) (bN 22 23) rfl rfl (any_of b.out (by kernel_rfl)) (fun _ _ _ h=>h) (Or.inl ⟨by rfl,?_⟩) ?_ ?_
 rotate_left
 ·(
 intro w'
 go_simp
 with_reducible rfl)
 rotate_left
 ·(
 simp only[zP,i64_w,i32_w]
 rfl)
 refine pure_ (i:=5) (N:=some 11) (v:=?_) (a':=?_) (bN 22 55) rfl rfl (any_of b.out (by kernel_rfl)) (fun _ _ _ h=>h) (Or.inl ⟨by rfl,?_⟩) ?_ ?_
 rotate_left
 ·(
 intro w'
 go_simp
 with_reducible rfl)
 rotate_left
 ·(
 simp only[zP,i64_w,i32_w]
 rfl)
 refine pure_ (i:=6) (N:=some 12) (v:=?_) (a':=?_) (bN 22 119) rfl rfl (any_of b.out (by kernel_rfl)) (fun _ _ _ h=>h) (Or.inl ⟨by rfl,?_⟩) ?_ ?_
 rotate_left
 ·(
 intro w'
 go_simp
 with_reducible rfl)
 rotate_left
 ·(
 simp only[zP,i64_w,i32_w]
 rfl)
 refine take_ (i:=3) (N:=some 9) (v:=?_) (a':=?_) (bN 22 127) rfl rfl (take_ofW b.out g.out (by kernel_rfl)) (fun _ _ _ h=>h) (Or.inl ⟨by rfl,?_⟩) hHeld ?_ ?_
 rotate_left
 ·(
 rintro w' ⟨j,l,m,o⟩
 go_simp
 with_reducible rfl)
 rotate_left
 ·(
 simp only[zP,i64_w,i32_w]
 rfl)
 refine take_ (i:=7) (N:=some 13) (v:=?_) (a':=?_) (bN 22 255) rfl rfl (take_ofW b.out g.out (by kernel_rfl)) (fun _ _ _ h=>h) (Or.inl ⟨by rfl,?_⟩) hHeld ?_ ?_
 rotate_left
 ·(
 rintro w' ⟨j,l,m,o⟩
 go_simp
 with_reducible rfl)
 rotate_left
 ·(
 simp only[zP,i64_w,i32_w]
 rfl)
 refine pure_ (i:=8) (N:=some 14) (v:=?_) (a':=?_) (bN 22 511) rfl rfl (any_of b.out (by kernel_rfl)) (fun _ _ _ h=>h) (Or.inl ⟨by rfl,?_⟩) ?_ ?_
 rotate_left
 ·(
 intro w'
 go_simp
 with_reducible rfl)
 rotate_left
 ·(
 simp only[zP,i64_w,i32_w]
 rfl)
 refine pure_ (i:=9) (N:=some 15) (v:=?_) (a':=?_) (bN 22 1023) rfl rfl (any_of b.out (by kernel_rfl)) (fun _ _ _ h=>h) (Or.inl ⟨by rfl,?_⟩) ?_ ?_
 rotate_left
 ·(
 intro w'
 go_simp
 with_reducible rfl)
 rotate_left
 ·(
 simp only[zP,i64_w,i32_w]
 rfl)
 refine pure_ (i:=10) (N:=some 16) (v:=undef) (a':=?_) (bN 22 2047) rfl rfl (any_of b.out (by kernel_rfl)) (fun _ _ _ h=>h) (Or.inr ⟨by rfl,rfl⟩) ?_ ?_
 rotate_left
 ·(
 simp only[zP,i64_w,i32_w]
 rfl)
 refine pure_ (i:=11) (N:=some 17) (v:=undef) (a':=?_) (bN 22 4095) rfl rfl (any_of b.out (by kernel_rfl)) (fun _ _ _ h=>h) (Or.inr ⟨by rfl,rfl⟩) ?_ ?_
 rotate_left
 ·(
 simp only[zP,i64_w,i32_w]
 rfl)
 refine pure_ (i:=12) (N:=some 18) (v:=undef) (a':=?_) (bN 22 8191) rfl rfl (any_of b.out (by kernel_rfl)) (fun _ _ _ h=>h) (Or.inr ⟨by rfl,rfl⟩) ?_ ?_
 rotate_left
 ·(
 simp only[zP,i64_w,i32_w]
 rfl)
 refine pure_ (i:=13) (N:=some 19) (v:=undef) (a':=?_) (bN 22 16383) rfl rfl (any_of b.out (by kernel_rfl)) (fun _ _ _ h=>h) (Or.inr ⟨by rfl,rfl⟩) ?_ ?_
 rotate_left
 ·(
 simp only[zP,i64_w,i32_w]
 rfl)
 refine pure_ (i:=14) (N:=some 20) (v:=undef) (a':=?_) (bN 22 32767) rfl rfl (any_of b.out (by kernel_rfl)) (fun _ _ _ h=>h) (Or.inr ⟨by rfl,rfl⟩) ?_ ?_
 rotate_left
 ·(
 simp only[zP,i64_w,i32_w]
 rfl)
 refine pure_ (i:=15) (N:=some 21) (v:=undef) (a':=?_) (bN 22 65535) rfl rfl (any_of b.out (by kernel_rfl)) (fun _ _ _ h=>h) (Or.inr ⟨by rfl,rfl⟩) ?_ ?_
 rotate_left
 ·(
 simp only[zP,i64_w,i32_w]
 rfl)
 refine pure_ (i:=16) (N:=some 22) (v:=undef) (a':=?_) (bN 22 131071) rfl rfl (any_of b.out (by kernel_rfl)) (fun _ _ _ h=>h) (Or.inr ⟨by rfl,rfl⟩) ?_ ?_
 rotate_left
 ·(
 simp only[zP,i64_w,i32_w]
 rfl)
 refine pure_ (i:=17) (N:=some 23) (v:=undef) (a':=?_) (bN 22 262143) rfl rfl (any_of b.out (by kernel_rfl)) (fun _ _ _ h=>h) (Or.inr ⟨by rfl,rfl⟩) ?_ ?_
 rotate_left
 ·(
 simp only[zP,i64_w,i32_w]
 rfl)
 refine pure_ (i:=18) (N:=some 24) (v:=undef) (a':=?_) (bN 22 524287) rfl rfl (any_of b.out (by kernel_rfl)) (fun _ _ _ h=>h) (Or.inr ⟨by rfl,rfl⟩) ?_ ?_
 rotate_left
 ·(
 simp only[zP,i64_w,i32_w]
 rfl)
 refine pure_ (i:=19) (N:=some 25) (v:=undef) (a':=?_) (bN 22 1048575) rfl rfl (any_of b.out (by kernel_rfl)) (fun _ _ _ h=>h) (Or.inr ⟨by rfl,rfl⟩) ?_ ?_
 rotate_left
 ·(
 simp only[zP,i64_w,i32_w]
 rfl)
 refine pure_ (i:=20) (N:=some 26) (v:=undef) (a':=?_) (bN 22 2097151) rfl rfl (any_of b.out (by kernel_rfl)) (fun _ _ _ h=>h) (Or.inr ⟨by rfl,rfl⟩) ?_ ?_
 rotate_left
 ·(
 simp only[zP,i64_w,i32_w]
 rfl)
 refine pure_ (i:=21) (N:=some 27) (v:=?_) (a':=?_) (bN 22 4194303) rfl rfl (any_of b.out (by kernel_rfl)) (fun _ _ _ h=>h) (Or.inl ⟨by rfl,?_⟩) ?_ ?_
 rotate_left
 ·(
 intro w'
 go_simp
 with_reducible rfl)
 rotate_left
 ·(
 simp only[zP,i64_w,i32_w]
 rfl)
 refine done_ (done_of b.out (by kernel_rfl)) ?_
 try go_wp2
 go_meet
 case rel=>exact⟨_,(true),sr,H',⟨by first|omega|exact Nat.le_refl _⟩,⟨sb⟩⟩)
 rw[if_neg c5]at H
 exact absurd H (by simp))
 rw[if_neg c4]at H
 exact absurd H (by simp))
 case rest=>(
 clear b6
 obtain⟨kq,bW,rfl,HA,cz,HB⟩:=hcut
 cases kq with
 |zero=>exact absurd HA.out (by simp[spec_l07Same.j0])
 |succ kj2=>(
 have H:=HA.out
 clear HA
 simp only[spec_l07Same.j0]at H
 by_cases c9:bW=true
 ·(
 subst c9
 rewrite[if_pos rfl]at H
 obtain rfl:=zI H
 go_wp2
 go_ret
 exact⟨sq,sb⟩)
 replace c9:=zB c9
 subst c9
 rewrite[if_neg zQ]at H
 have H':=zM H
 clear H
 go_wp2
 go_loopg [5] kj2 (fun kq v5 w'=>∃(a:Int),v5= .int .i64 a∧Aside0 (spec_l07Same.l0 kq l0 l1 a=some r)∧Aside0 (kq≤kj2)∧Aside0 (Below w.heap.size w w'))
 case atStart=>exact⟨(0),sr,H',⟨Nat.le_refl _⟩,⟨sb⟩⟩
 case round=>(
 clear H'
 try clear c9
 obtain⟨a,rfl,HA,cA,HB⟩:=hrel
 cases gk with
 |zero=>exact absurd HA.out (by simp[spec_l07Same.l0])
 |succ k2=>(
 have H:=HA.out
 clear HA
 simp only[spec_l07Same.l0]at H
 by_cases b1:0<(l0.length:Int)
 ·(
 rw[if_pos b1]at H
 have c10b0:=zT b1
 have c10b1:decide (0<l0.length)=true:=zT (by omega)
 clear b1
 by_cases bl:a<(((rd_T32 l0 0).f1).length:Int)
 ·(
 rw[if_pos bl]at H
 have c11b0:=zT bl
 clear bl
 by_cases b2:0≤a
 ·(
 rw[if_pos b2]at H
 have c12b0:=zT b2
 clear b2
 by_cases b3:0<(l1.length:Int)
 ·(
 rw[if_pos b3]at H
 have c13b0:=zT b3
 have c13b1:decide (0<l1.length)=true:=zT (by omega)
 clear b3
 by_cases b4:a<(((rd_T32 l1 0).f1).length:Int)
 ·(
 rw[if_pos b4]at H
 have c14b0:=zT b4
 clear b4
 obtain⟨cQ,cB,H⟩:=sO H
 by_cases b5:cQ=true
 ·(
 subst b5
 rewrite[if_pos rfl]at H
 have H':=zM H
 clear H
 have D:0≤(0:Int):=(by omega)
 have E:0<(l0.length:Int):=zzA
 obtain⟨T,cC,cD,bt,F,G,aL,aM⟩:=at_T32 aK.out 0 D E
 cases bt
 have cE:(0<l0.length)=True:=eq_true (by omega)
 (try rw[sZ]at F)
 (try rw[sZ]at G)
 replace F:=sX HB F
 replace G:=sX HB G
 have cF:=zM aM
 have cG:=zM aL
 clear aM aL
 replace D:=eq_true D
 replace E:=eq_true E
 try go_wp2
 replace HB:=zM (below_drew1 HB.out)
 have aW:0≤(0:Int):=(by omega)
 have aX:0<(l0.length:Int):=zzA
 obtain⟨ad558,cR,cl,cm,I,J,bu,bv⟩:=at_T32 aK.out 0 aW aX
 have L:=J
 (try rw[sZ]at L)
 have M:=I
 (try rw[sZ]at M)
 obtain rfl:T=ad558:=(by injection cm)
 have cS:(0<l0.length)=True:=eq_true (by omega)
 (try rw[sZ]at I)
 (try rw[sZ]at J)
 replace I:=sX HB I
 replace J:=sX HB J
 have bw:=zM bv
 have cT:=zM bu
 clear bv bu
 replace aW:=eq_true aW
 replace aX:=eq_true aX
 have aY:0≤(a:Int):=zzA
 have aZ:a<(((rd_T32 l0 0).f1).length:Int):=zzA
 obtain⟨c,bx,bz,bA,bB,cn,U,V,W,X,Y,Z,aa,ab,ac,ad,bC,bD,bE,bF⟩:=at_T64 bw.out a aY aZ
 have ae:=ad
 have af:=ac
 have ag:=ab
 have ah:=aa
 have ai:=Z
 have aj:=Y
 have ak:=X
 have al:=W
 have am:=V
 have an:=U
 cases cn
 replace U:=sX HB U
 replace V:=sX HB V
 replace W:=sX HB W
 replace X:=sX HB X
 replace Y:=sX HB Y
 replace Z:=sX HB Z
 replace aa:=sX HB aa
 replace ab:=sX HB ab
 replace ac:=sX HB ac
 replace ad:=sX HB ad
 have bG:=zM bD
 have co:=zM bC
 clear bD bC
 have bH:=zM bF
 have cp:=zM bE
 clear bF bE
 replace aY:=eq_true aY
 replace aZ:=eq_true aZ
 have a0:0≤(0:Int):=(by omega)
 have a1:0<(l1.length:Int):=zzA
 obtain⟨a2,cU,cq,cr,O,P,bI,bJ⟩:=at_T32 bm.out 0 a0 a1
 have Q:=P
 (try rw[sZ]at Q)
 have R:=O
 (try rw[sZ]at R)
 cases cr
 have cV:(0<l1.length)=True:=eq_true (by omega)
 (try rw[sZ]at O)
 (try rw[sZ]at P)
 replace O:=sX HB O
 replace P:=sX HB P
 have bK:=zM bJ
 have cW:=zM bI
 clear bJ bI
 replace a0:=eq_true a0
 replace a1:=eq_true a1
 have a3:0≤(a:Int):=zzA
 have a4:a<(((rd_T32 l1 0).f1).length:Int):=zzA
 obtain⟨d,bL,bM,bO,bP,cs,ao,ap,aq,ar,au,av,aw,ax,ay,az,bQ,bR,bS,bT⟩:=at_T64 bK.out a a3 a4
 have aA:=az
 have aB:=ay
 have aC:=ax
 have aD:=aw
 have aE:=av
 have aF:=au
 have aG:=ar
 have aH:=aq
 have aI:=ap
 have aJ:=ao
 cases cs
 replace ao:=sX HB ao
 replace ap:=sX HB ap
 replace aq:=sX HB aq
 replace ar:=sX HB ar
 replace au:=sX HB au
 replace av:=sX HB av
 replace aw:=sX HB aw
 replace ax:=sX HB ax
 replace ay:=sX HB ay
 replace az:=sX HB az
 have bU:=zM bR
 have ct:=zM bQ
 clear bR bQ
 have bV:=zM bT
 have cu:=zM bS
 clear bT bS
 replace a3:=eq_true a3
 replace a4:=eq_true a4
 refine start_ (n:=16) (S:=fun w'=>w'.cell? T=some (.int .i64 ((rd_T32 l0 0).f0))∧w'.cell? ⟨T.block,T.off+1,none⟩=some (.slice (some c) ((rd_T32 l0 0).f1).length cl)∧w'.cell? (c.add ((a).toNat*10))=some (.int .i64 ((rd_T64 ((rd_T32 l0 0).f1) a).f0))∧w'.cell? ⟨(c.add ((a).toNat*10)).block,(c.add ((a).toNat*10)).off+1,none⟩=some (.int .i64 ((rd_T64 ((rd_T32 l0 0).f1) a).f1))∧w'.cell? ⟨(c.add ((a).toNat*10)).block,(c.add ((a).toNat*10)).off+2,none⟩=some (.string ((rd_T64 ((rd_T32 l0 0).f1) a).f2))∧w'.cell? ⟨(c.add ((a).toNat*10)).block,(c.add ((a).toNat*10)).off+3,none⟩=some (.int .i64 ((rd_T64 ((rd_T32 l0 0).f1) a).f3))∧w'.cell? ⟨(c.add ((a).toNat*10)).block,(c.add ((a).toNat*10)).off+4,none⟩=some (.slice bx ((rd_T64 ((rd_T32 l0 0).f1) a).f4).length bz)∧w'.cell? ⟨(c.add ((a).toNat*10)).block,(c.add ((a).toNat*10)).off+5,none⟩=some (.slice bA ((rd_T64 ((rd_T32 l0 0).f1) a).f5).length bB)∧w'.cell? ⟨(c.add ((a).toNat*10)).block,(c.add ((a).toNat*10)).off+6,none⟩=some (.int .i64 ((rd_T64 ((rd_T32 l0 0).f1) a).f6.f0))∧w'.cell? ⟨(c.add ((a).toNat*10)).block,(c.add ((a).toNat*10)).off+7,none⟩=some (.int .i64 ((rd_T64 ((rd_T32 l0 0).f1) a).f6.f1))∧w'.cell? ⟨(c.add ((a).toNat*10)).block,(c.add ((a).toNat*10)).off+8,none⟩=some (.string ((rd_T64 ((rd_T32 l0 0).f1) a).f6.f2))∧w'.cell? ⟨(c.add ((a).toNat*10)).block,(c.add ((a).toNat*10)).off+9,none⟩=some (.int .i64 ((rd_T64 ((rd_T32 l0 0).f1) a).f6.f3))∧w'.cell? a2=some (.int .i64 ((rd_T32 l1 0).f0))∧w'.cell? ⟨a2.block,a2.off+1,none⟩=some (.slice (some d) ((rd_T32 l1 0).f1).length cq)∧w'.cell? (d.add ((a).toNat*10))=some (.int .i64 ((rd_T64 ((rd_T32 l1 0).f1) a).f0))∧w'.cell? ⟨(d.add ((a).toNat*10)).block,(d.add ((a).toNat*10)).off+1,none⟩=some (.int .i64 ((rd_T64 ((rd_T32 l1 0).f1) a).f1))∧w'.cell? ⟨(d.add ((a).toNat*10)).block,(d.add ((a).toNat*10)).off+2,none⟩=some (.string ((rd_T64 ((rd_T32 l1 0).f1) a).f2))∧w'.cell? ⟨(d.add ((a).toNat*10)).block,(d.add ((a).toNat*10)).off+3,none⟩=some (.int .i64 ((rd_T64 ((rd_T32 l1 0).f1) a).f3))∧w'.cell? ⟨(d.add ((a).toNat*10)).block,(d.add ((a).toNat*10)).off+4,none⟩=some (.slice bL ((rd_T64 ((rd_T32 l1 0).f1) a).f4).length bM)∧w'.cell? ⟨(d.add ((a).toNat*10)).block,(d.add ((a).toNat*10)).off+5,none⟩=some (.slice bO ((rd_T64 ((rd_T32 l1 0).f1) a).f5).length bP)∧w'.cell? ⟨(d.add ((a).toNat*10)).block,(d.add ((a).toNat*10)).off+6,none⟩=some (.int .i64 ((rd_T64 ((rd_T32 l1 0).f1) a).f6.f0))∧w'.cell? ⟨(d.add ((a).toNat*10)).block,(d.add ((a).toNat*10)).off+7,none⟩=some (.int .i64 ((rd_T64 ((rd_T32 l1 0).f1) a).f6.f1))∧w'.cell? ⟨(d.add ((a).toNat*10)).block,(d.add ((a).toNat*10)).off+8,none⟩=some (.string ((rd_T64 ((rd_T32 l1 0).f1) a).f6.f2))∧w'.cell? ⟨(d.add ((a).toNat*10)).block,(d.add ((a).toNat*10)).off+9,none⟩=some (.int .i64 ((rd_T64 ((rd_T32 l1 0).f1) a).f6.f3))) (ds:=[]) #[false,false,false,false,false,false,false,false,false,false,false,false,false,false,false,false] (by kernel_rfl) rfl rfl ⟨((HB.out.cell (zL w _ M)).trans M),((HB.out.cell (zL w _ L)).trans L),((HB.out.cell (zL w _ an)).trans an),((HB.out.cell (zL w _ am)).trans am),((HB.out.cell (zL w _ al)).trans al),((HB.out.cell (zL w _ ak)).trans ak),((HB.out.cell (zL w _ aj)).trans aj),((HB.out.cell (zL w _ ai)).trans ai),((HB.out.cell (zL w _ ah)).trans ah),((HB.out.cell (zL w _ ag)).trans ag),((HB.out.cell (zL w _ af)).trans af),((HB.out.cell (zL w _ ae)).trans ae),((HB.out.cell (zL w _ R)).trans R),((HB.out.cell (zL w _ Q)).trans Q),((HB.out.cell (zL w _ aJ)).trans aJ),((HB.out.cell (zL w _ aI)).trans aI),((HB.out.cell (zL w _ aH)).trans aH),((HB.out.cell (zL w _ aG)).trans aG),((HB.out.cell (zL w _ aF)).trans aF),((HB.out.cell (zL w _ aE)).trans aE),((HB.out.cell (zL w _ aD)).trans aD),((HB.out.cell (zL w _ aC)).trans aC),((HB.out.cell (zL w _ aB)).trans aB),((HB.out.cell (zL w _ aA)).trans aA)⟩ (fun hHeld=>?_);refine with_tabW spec_l07Same.tab6 spec_l07Same.bits6 (fun b g=>?_)
 generalize wr.drew=w17 at HB bw bG bH bK bU bV I J U V W X Y Z aa ab ac ad O P ao ap aq ar au av aw ax ay az hHeld ⊢
 refine pure_ (i:=0) (N:=some 37) (v:=?_) (a':=?_) (bN 16 1) rfl rfl (any_of b.out (by kernel_rfl)) (fun _ _ _ h=>h) (Or.inl ⟨by rfl,?_⟩) ?_ ?_
 rotate_left
 ·(
 intro w'
 go_simp
 with_reducible rfl)
 rotate_left
 ·(
 simp only[zP,i64_w,i32_w]
 rfl)
 refine pure_ (i:=1) (N:=some 38) (v:=?_) (a':=?_) (bN 16 3) rfl rfl (any_of b.out (by kernel_rfl)) (fun _ _ _ h=>h) (Or.inl ⟨by rfl,?_⟩) ?_ ?_
 rotate_left
 ·(
 intro w'
 go_simp
 with_reducible rfl)
 rotate_left
 ·(
 simp only[zP,i64_w,i32_w]
 rfl)
 refine pure_ (i:=2) (N:=some 39) (v:=?_) (a':=?_) (bN 16 7) rfl rfl (any_of b.out (by kernel_rfl)) (fun _ _ _ h=>h) (Or.inl ⟨by rfl,?_⟩) ?_ ?_
 rotate_left
 ·(
 intro w'
 go_simp
 with_reducible rfl)
 rotate_left
 ·(
 simp only[zP,i64_w,i32_w]
 rfl)
 refine pure_ (i:=4) (N:=some 41) (v:=?_) (a':=?_) (bN 16 23) rfl rfl (any_of b.out (by kernel_rfl)) (fun _ _ _ h=>h) (Or.inl ⟨by rfl,?_⟩) ?_ ?_
 rotate_left
 ·(
 intro w'
 go_simp
 with_reducible rfl)
 rotate_left
 ·(
 simp only[zP,i64_w,i32_w]
 rfl)
 refine pure_ (i:=7) (N:=some 44) (v:=?_) (a':=?_) (bN 16 151) rfl rfl (any_of b.out (by kernel_rfl)) (fun _ _ _ h=>h) (Or.inl ⟨by rfl,?_⟩) ?_ ?_
 rotate_left
 ·(
 intro w'
 go_simp
 with_reducible rfl)
 rotate_left
 ·(
 simp only[zP,i64_w,i32_w]
 rfl)
 refine pure_ (i:=8) (N:=some 45) (v:=?_) (a':=?_) (bN 16 407) rfl rfl (any_of b.out (by kernel_rfl)) (fun _ _ _ h=>h) (Or.inl ⟨by rfl,?_⟩) ?_ ?_
 rotate_left
 ·(
 intro w'
 go_simp
 with_reducible rfl)
 rotate_left
 ·(
 simp only[zP,i64_w,i32_w]
 rfl)
 refine pure_ (i:=9) (N:=some 46) (v:=?_) (a':=?_) (bN 16 919) rfl rfl (any_of b.out (by kernel_rfl)) (fun _ _ _ h=>h) (Or.inl ⟨by rfl,?_⟩) ?_ ?_
 rotate_left
 ·(
 intro w'
 go_simp
 with_reducible rfl)
 rotate_left
 ·(
 simp only[zP,i64_w,i32_w]
 rfl)
 refine pure_ (i:=11) (N:=some 48) (v:=?_) (a':=?_) (bN 16 2967) rfl rfl (any_of b.out (by kernel_rfl)) (fun _ _ _ h=>h) (Or.inl ⟨by rfl,?_⟩) ?_ ?_
 rotate_left
 ·(
 intro w'
 go_simp
 with_reducible rfl)
 rotate_left
 ·(
 simp only[zP,i64_w,i32_w]
 rfl)
 refine take_ (i:=3) (N:=some 40) (v:=?_) (a':=?_) (bN 16 2975) rfl rfl (take_ofW b.out g.out (by kernel_rfl)) (fun _ _ _ h=>h) (Or.inl ⟨by rfl,?_⟩) hHeld ?_ ?_
 rotate_left
 ·(
 rintro w' ⟨j,l,m,o,y,z,A,B,s8,s9,a5,a6,a7,a8,a9,ba,bb,bc,bd,be,bf,bg,bh,bi⟩
 go_simp
 with_reducible rfl)
 rotate_left
 ·(
 simp only[zP,i64_w,i32_w]
 rfl)
 refine pure_ (i:=5) (N:=some 42) (v:=?_) (a':=?_) (bN 16 3007) rfl rfl (any_of b.out (by kernel_rfl)) (fun _ _ _ h=>h) (Or.inl ⟨by rfl,?_⟩) ?_ ?_
 rotate_left
 ·(
 intro w'
 go_simp
 with_reducible rfl)
 rotate_left
 ·(
 simp only[zP,i64_w,i32_w]
 rfl)
 refine take_ (i:=6) (N:=some 43) (v:=?_) (a':=?_) (bN 16 3071) rfl rfl (take_ofW b.out g.out (by kernel_rfl)) (fun _ _ _ h=>h) (Or.inl ⟨by rfl,?_⟩) hHeld ?_ ?_
 rotate_left
 ·(
 rintro w' ⟨j,l,m,o,y,z,A,B,s8,s9,a5,a6,a7,a8,a9,ba,bb,bc,bd,be,bf,bg,bh,bi⟩
 go_simp
 with_reducible rfl)
 rotate_left
 ·(
 simp only[zP,i64_w,i32_w]
 rfl)
 refine take_ (i:=10) (N:=some 47) (v:=?_) (a':=?_) (bN 16 4095) rfl rfl (take_ofW b.out g.out (by kernel_rfl)) (fun _ _ _ h=>h) (Or.inl ⟨by rfl,?_⟩) hHeld ?_ ?_
 rotate_left
 ·(
 rintro w' ⟨j,l,m,o,y,z,A,B,s8,s9,a5,a6,a7,a8,a9,ba,bb,bc,bd,be,bf,bg,bh,bi⟩
 go_simp
 with_reducible rfl)
 rotate_left
 ·(
 simp only[zP,i64_w,i32_w]
 rfl)
 refine pure_ (i:=12) (N:=some 49) (v:=?_) (a':=?_) (bN 16 8191) rfl rfl (any_of b.out (by kernel_rfl)) (fun _ _ _ h=>h) (Or.inl ⟨by rfl,?_⟩) ?_ ?_
 rotate_left
 ·(
 intro w'
 go_simp
 with_reducible rfl)
 rotate_left
 ·(
 simp only[zP,i64_w,i32_w]
 rfl)
 refine take_ (i:=13) (N:=some 50) (v:=?_) (a':=?_) (bN 16 16383) rfl rfl (take_ofW b.out g.out (by kernel_rfl)) (fun _ _ _ h=>h) (Or.inl ⟨by rfl,?_⟩) hHeld ?_ ?_
 rotate_left
 ·(
 rintro w' ⟨j,l,m,o,y,z,A,B,s8,s9,a5,a6,a7,a8,a9,ba,bb,bc,bd,be,bf,bg,bh,bi⟩
 go_simp
 with_reducible rfl)
 rotate_left
 ·(
 simp only[zP,i64_w,i32_w]
 rfl)
 refine one_ (i:=14) (N:=some 51) (bN 16 32767) rfl rfl (one_of b.out (by kernel_rfl)) (by decide) (fun K hK=>?_)
 refine goes_ Try.func91 (by kernel_rfl) rfl #[.agg #[.int .i64 ((rd_T64 ((rd_T32 l0 0).f1) a).f0),.int .i64 ((rd_T64 ((rd_T32 l0 0).f1) a).f1),.string ((rd_T64 ((rd_T32 l0 0).f1) a).f2),.int .i64 ((rd_T64 ((rd_T32 l0 0).f1) a).f3),.slice bx ((rd_T64 ((rd_T32 l0 0).f1) a).f4).length bz,.slice bA ((rd_T64 ((rd_T32 l0 0).f1) a).f5).length bB,.int .i64 ((rd_T64 ((rd_T32 l0 0).f1) a).f6.f0),.int .i64 ((rd_T64 ((rd_T32 l0 0).f1) a).f6.f1),.string ((rd_T64 ((rd_T32 l0 0).f1) a).f6.f2),.int .i64 ((rd_T64 ((rd_T32 l0 0).f1) a).f6.f3)],.agg #[.int .i64 ((rd_T64 ((rd_T32 l1 0).f1) a).f0),.int .i64 ((rd_T64 ((rd_T32 l1 0).f1) a).f1),.string ((rd_T64 ((rd_T32 l1 0).f1) a).f2),.int .i64 ((rd_T64 ((rd_T32 l1 0).f1) a).f3),.slice bL ((rd_T64 ((rd_T32 l1 0).f1) a).f4).length bM,.slice bO ((rd_T64 ((rd_T32 l1 0).f1) a).f5).length bP,.int .i64 ((rd_T64 ((rd_T32 l1 0).f1) a).f6.f0),.int .i64 ((rd_T64 ((rd_T32 l1 0).f1) a).f6.f1),.string ((rd_T64 ((rd_T32 l1 0).f1) a).f6.f2),.int .i64 ((rd_T64 ((rd_T32 l1 0).f1) a).f6.f3)]] (by rfl) rfl rfl (by(try simp only[List.map_toArray,List.map_cons,List.map_nil]);first|done|rfl|(simp only[List.length_drop,List.length_take];rfl)) ?_
 with_reducible refine(spec_l07SameObject.calls k2 ((rd_T64 ((rd_T32 l0 0).f1) a).f0) ((rd_T64 ((rd_T32 l0 0).f1) a).f1) ((rd_T64 ((rd_T32 l0 0).f1) a).f2) ((rd_T64 ((rd_T32 l0 0).f1) a).f3) _ _ ((rd_T64 ((rd_T32 l0 0).f1) a).f4) _ _ ((rd_T64 ((rd_T32 l0 0).f1) a).f5) ((rd_T64 ((rd_T32 l0 0).f1) a).f6.f0) ((rd_T64 ((rd_T32 l0 0).f1) a).f6.f1) ((rd_T64 ((rd_T32 l0 0).f1) a).f6.f2) ((rd_T64 ((rd_T32 l0 0).f1) a).f6.f3) ((rd_T64 ((rd_T32 l1 0).f1) a).f0) ((rd_T64 ((rd_T32 l1 0).f1) a).f1) ((rd_T64 ((rd_T32 l1 0).f1) a).f2) ((rd_T64 ((rd_T32 l1 0).f1) a).f3) _ _ ((rd_T64 ((rd_T32 l1 0).f1) a).f4) _ _ ((rd_T64 ((rd_T32 l1 0).f1) a).f5) ((rd_T64 ((rd_T32 l1 0).f1) a).f6.f0) ((rd_T64 ((rd_T32 l1 0).f1) a).f6.f1) ((rd_T64 ((rd_T32 l1 0).f1) a).f6.f2) ((rd_T64 ((rd_T32 l1 0).f1) a).f6.f3) true _ ?side1 ?side2 ?side3 ?side4 ?side5 ?side6 ?side7 ?side8 cB.out).mono ?_
 (case side1=>exact sD (zC bG.out HB.out))
 (case side2=>exact co.out)
 (case side3=>exact sD (zC bH.out HB.out))
 (case side4=>exact cp.out)
 (case side5=>exact sD (zC bU.out HB.out))
 (case side6=>exact ct.out)
 (case side7=>exact sD (zC bV.out HB.out))
 (case side8=>exact cu.out)
 rintro e dc ⟨rfl,hb⟩
 refine⟨_,rfl,?_⟩
 replace HB:=sB HB hb
 (try clear hb)
 (try clear hb2)
 (try clear hk)
 (try clear hi)
 refine hK.out _ _ ⟨((HB.out.cell (zL w _ M)).trans M),((HB.out.cell (zL w _ L)).trans L),((HB.out.cell (zL w _ an)).trans an),((HB.out.cell (zL w _ am)).trans am),((HB.out.cell (zL w _ al)).trans al),((HB.out.cell (zL w _ ak)).trans ak),((HB.out.cell (zL w _ aj)).trans aj),((HB.out.cell (zL w _ ai)).trans ai),((HB.out.cell (zL w _ ah)).trans ah),((HB.out.cell (zL w _ ag)).trans ag),((HB.out.cell (zL w _ af)).trans af),((HB.out.cell (zL w _ ae)).trans ae),((HB.out.cell (zL w _ R)).trans R),((HB.out.cell (zL w _ Q)).trans Q),((HB.out.cell (zL w _ aJ)).trans aJ),((HB.out.cell (zL w _ aI)).trans aI),((HB.out.cell (zL w _ aH)).trans aH),((HB.out.cell (zL w _ aG)).trans aG),((HB.out.cell (zL w _ aF)).trans aF),((HB.out.cell (zL w _ aE)).trans aE),((HB.out.cell (zL w _ aD)).trans aD),((HB.out.cell (zL w _ aC)).trans aC),((HB.out.cell (zL w _ aB)).trans aB),((HB.out.cell (zL w _ aA)).trans aA)⟩ (fun hHeld=>?_)
 clear hK K
 refine norm_ (a':=?_) ?_ ?_
 rotate_left
 ·(
 show Act.put _ (some 51) _=_
 simp only[zP,i64_w,i32_w]
 rfl)
 refine pure_ (i:=15) (N:=some 52) (v:=?_) (a':=?_) (bN 16 65535) rfl rfl (any_of b.out (by kernel_rfl)) (fun _ _ _ h=>h) (Or.inl ⟨by rfl,?_⟩) ?_ ?_
 rotate_left
 ·(
 intro w'
 go_simp
 with_reducible rfl)
 rotate_left
 ·(
 simp only[zP,i64_w,i32_w]
 rfl)
 refine done_ (done_of b.out (by kernel_rfl)) ?_
 try go_wp2
 go_roundg k2
 case measure=>have:=cz.out;have:=cA.out;omega
 case rel=>exact⟨(wrap64 (a+1)),sr,H',⟨by have:=cz.out;have:=cA.out;omega⟩,⟨sb⟩⟩)
 replace b5:=zB b5
 subst b5
 rewrite[if_neg zQ]at H
 obtain rfl:=zI H
 have D:0≤(0:Int):=(by omega)
 have E:0<(l0.length:Int):=zzA
 obtain⟨T,cC,cD,bt,F,G,aL,aM⟩:=at_T32 aK.out 0 D E
 cases bt
 have cE:(0<l0.length)=True:=eq_true (by omega)
 (try rw[sZ]at F)
 (try rw[sZ]at G)
 replace F:=sX HB F
 replace G:=sX HB G
 have cF:=zM aM
 have cG:=zM aL
 clear aM aL
 replace D:=eq_true D
 replace E:=eq_true E
 try go_wp2
 replace HB:=zM (below_drew1 HB.out)
 have aW:0≤(0:Int):=(by omega)
 have aX:0<(l0.length:Int):=zzA
 obtain⟨ad558,cR,cl,cm,I,J,bu,bv⟩:=at_T32 aK.out 0 aW aX
 have L:=J
 (try rw[sZ]at L)
 have M:=I
 (try rw[sZ]at M)
 obtain rfl:T=ad558:=(by injection cm)
 have cS:(0<l0.length)=True:=eq_true (by omega)
 (try rw[sZ]at I)
 (try rw[sZ]at J)
 replace I:=sX HB I
 replace J:=sX HB J
 have bw:=zM bv
 have cT:=zM bu
 clear bv bu
 replace aW:=eq_true aW
 replace aX:=eq_true aX
 have aY:0≤(a:Int):=zzA
 have aZ:a<(((rd_T32 l0 0).f1).length:Int):=zzA
 obtain⟨c,bx,bz,bA,bB,cn,U,V,W,X,Y,Z,aa,ab,ac,ad,bC,bD,bE,bF⟩:=at_T64 bw.out a aY aZ
 have ae:=ad
 have af:=ac
 have ag:=ab
 have ah:=aa
 have ai:=Z
 have aj:=Y
 have ak:=X
 have al:=W
 have am:=V
 have an:=U
 cases cn
 replace U:=sX HB U
 replace V:=sX HB V
 replace W:=sX HB W
 replace X:=sX HB X
 replace Y:=sX HB Y
 replace Z:=sX HB Z
 replace aa:=sX HB aa
 replace ab:=sX HB ab
 replace ac:=sX HB ac
 replace ad:=sX HB ad
 have bG:=zM bD
 have co:=zM bC
 clear bD bC
 have bH:=zM bF
 have cp:=zM bE
 clear bF bE
 replace aY:=eq_true aY
 replace aZ:=eq_true aZ
 have a0:0≤(0:Int):=(by omega)
 have a1:0<(l1.length:Int):=zzA
 obtain⟨a2,cU,cq,cr,O,P,bI,bJ⟩:=at_T32 bm.out 0 a0 a1
 have Q:=P
 (try rw[sZ]at Q)
 have R:=O
 (try rw[sZ]at R)
 cases cr
 have cV:(0<l1.length)=True:=eq_true (by omega)
 (try rw[sZ]at O)
 (try rw[sZ]at P)
 replace O:=sX HB O
 replace P:=sX HB P
 have bK:=zM bJ
 have cW:=zM bI
 clear bJ bI
 replace a0:=eq_true a0
 replace a1:=eq_true a1
 have a3:0≤(a:Int):=zzA
 have a4:a<(((rd_T32 l1 0).f1).length:Int):=zzA
 obtain⟨d,bL,bM,bO,bP,cs,ao,ap,aq,ar,au,av,aw,ax,ay,az,bQ,bR,bS,bT⟩:=at_T64 bK.out a a3 a4
 have aA:=az
 have aB:=ay
 have aC:=ax
 have aD:=aw
 have aE:=av
 have aF:=au
 have aG:=ar
 have aH:=aq
 have aI:=ap
 have aJ:=ao
 cases cs
 replace ao:=sX HB ao
 replace ap:=sX HB ap
 replace aq:=sX HB aq
 replace ar:=sX HB ar
 replace au:=sX HB au
 replace av:=sX HB av
 replace aw:=sX HB aw
 replace ax:=sX HB ax
 replace ay:=sX HB ay
 replace az:=sX HB az
 have bU:=zM bR
 have ct:=zM bQ
 clear bR bQ
 have bV:=zM bT
 have cu:=zM bS
 clear bT bS
 replace a3:=eq_true a3
 replace a4:=eq_true a4
 refine start_ (n:=16) (S:=fun w'=>w'.cell? T=some (.int .i64 ((rd_T32 l0 0).f0))∧w'.cell? ⟨T.block,T.off+1,none⟩=some (.slice (some c) ((rd_T32 l0 0).f1).length cl)∧w'.cell? (c.add ((a).toNat*10))=some (.int .i64 ((rd_T64 ((rd_T32 l0 0).f1) a).f0))∧w'.cell? ⟨(c.add ((a).toNat*10)).block,(c.add ((a).toNat*10)).off+1,none⟩=some (.int .i64 ((rd_T64 ((rd_T32 l0 0).f1) a).f1))∧w'.cell? ⟨(c.add ((a).toNat*10)).block,(c.add ((a).toNat*10)).off+2,none⟩=some (.string ((rd_T64 ((rd_T32 l0 0).f1) a).f2))∧w'.cell? ⟨(c.add ((a).toNat*10)).block,(c.add ((a).toNat*10)).off+3,none⟩=some (.int .i64 ((rd_T64 ((rd_T32 l0 0).f1) a).f3))∧w'.cell? ⟨(c.add ((a).toNat*10)).block,(c.add ((a).toNat*10)).off+4,none⟩=some (.slice bx ((rd_T64 ((rd_T32 l0 0).f1) a).f4).length bz)∧w'.cell? ⟨(c.add ((a).toNat*10)).block,(c.add ((a).toNat*10)).off+5,none⟩=some (.slice bA ((rd_T64 ((rd_T32 l0 0).f1) a).f5).length bB)∧w'.cell? ⟨(c.add ((a).toNat*10)).block,(c.add ((a).toNat*10)).off+6,none⟩=some (.int .i64 ((rd_T64 ((rd_T32 l0 0).f1) a).f6.f0))∧w'.cell? ⟨(c.add ((a).toNat*10)).block,(c.add ((a).toNat*10)).off+7,none⟩=some (.int .i64 ((rd_T64 ((rd_T32 l0 0).f1) a).f6.f1))∧w'.cell? ⟨(c.add ((a).toNat*10)).block,(c.add ((a).toNat*10)).off+8,none⟩=some (.string ((rd_T64 ((rd_T32 l0 0).f1) a).f6.f2))∧w'.cell? ⟨(c.add ((a).toNat*10)).block,(c.add ((a).toNat*10)).off+9,none⟩=some (.int .i64 ((rd_T64 ((rd_T32 l0 0).f1) a).f6.f3))∧w'.cell? a2=some (.int .i64 ((rd_T32 l1 0).f0))∧w'.cell? ⟨a2.block,a2.off+1,none⟩=some (.slice (some d) ((rd_T32 l1 0).f1).length cq)∧w'.cell? (d.add ((a).toNat*10))=some (.int .i64 ((rd_T64 ((rd_T32 l1 0).f1) a).f0))∧w'.cell? ⟨(d.add ((a).toNat*10)).block,(d.add ((a).toNat*10)).off+1,none⟩=some (.int .i64 ((rd_T64 ((rd_T32 l1 0).f1) a).f1))∧w'.cell? ⟨(d.add ((a).toNat*10)).block,(d.add ((a).toNat*10)).off+2,none⟩=some (.string ((rd_T64 ((rd_T32 l1 0).f1) a).f2))∧w'.cell? ⟨(d.add ((a).toNat*10)).block,(d.add ((a).toNat*10)).off+3,none⟩=some (.int .i64 ((rd_T64 ((rd_T32 l1 0).f1) a).f3))∧w'.cell? ⟨(d.add ((a).toNat*10)).block,(d.add ((a).toNat*10)).off+4,none⟩=some (.slice bL ((rd_T64 ((rd_T32 l1 0).f1) a).f4).length bM)∧w'.cell? ⟨(d.add ((a).toNat*10)).block,(d.add ((a).toNat*10)).off+5,none⟩=some (.slice bO ((rd_T64 ((rd_T32 l1 0).f1) a).f5).length bP)∧w'.cell? ⟨(d.add ((a).toNat*10)).block,(d.add ((a).toNat*10)).off+6,none⟩=some (.int .i64 ((rd_T64 ((rd_T32 l1 0).f1) a).f6.f0))∧w'.cell? ⟨(d.add ((a).toNat*10)).block,(d.add ((a).toNat*10)).off+7,none⟩=some (.int .i64 ((rd_T64 ((rd_T32 l1 0).f1) a).f6.f1))∧w'.cell? ⟨(d.add ((a).toNat*10)).block,(d.add ((a).toNat*10)).off+8,none⟩=some (.string ((rd_T64 ((rd_T32 l1 0).f1) a).f6.f2))∧w'.cell? ⟨(d.add ((a).toNat*10)).block,(d.add ((a).toNat*10)).off+9,none⟩=some (.int .i64 ((rd_T64 ((rd_T32 l1 0).f1) a).f6.f3))) (ds:=[]) #[false,false,false,false,false,false,false,false,false,false,false,false,false,false,false,false] (by kernel_rfl) rfl rfl ⟨((HB.out.cell (zL w _ M)).trans M),((HB.out.cell (zL w _ L)).trans L),((HB.out.cell (zL w _ an)).trans an),((HB.out.cell (zL w _ am)).trans am),((HB.out.cell (zL w _ al)).trans al),((HB.out.cell (zL w _ ak)).trans ak),((HB.out.cell (zL w _ aj)).trans aj),((HB.out.cell (zL w _ ai)).trans ai),((HB.out.cell (zL w _ ah)).trans ah),((HB.out.cell (zL w _ ag)).trans ag),((HB.out.cell (zL w _ af)).trans af),((HB.out.cell (zL w _ ae)).trans ae),((HB.out.cell (zL w _ R)).trans R),((HB.out.cell (zL w _ Q)).trans Q),((HB.out.cell (zL w _ aJ)).trans aJ),((HB.out.cell (zL w _ aI)).trans aI),((HB.out.cell (zL w _ aH)).trans aH),((HB.out.cell (zL w _ aG)).trans aG),((HB.out.cell (zL w _ aF)).trans aF),((HB.out.cell (zL w _ aE)).trans aE),((HB.out.cell (zL w _ aD)).trans aD),((HB.out.cell (zL w _ aC)).trans aC),((HB.out.cell (zL w _ aB)).trans aB),((HB.out.cell (zL w _ aA)).trans aA)⟩ (fun hHeld=>?_);refine with_tabW spec_l07Same.tab6 spec_l07Same.bits6 (fun b g=>?_)
 generalize wr.drew=w19 at HB bw bG bH bK bU bV I J U V W X Y Z aa ab ac ad O P ao ap aq ar au av aw ax ay az hHeld ⊢
 refine pure_ (i:=0) (N:=some 37) (v:=?_) (a':=?_) (bN 16 1) rfl rfl (any_of b.out (by kernel_rfl)) (fun _ _ _ h=>h) (Or.inl ⟨by rfl,?_⟩) ?_ ?_
 rotate_left
 ·(
 intro w'
 go_simp
 with_reducible rfl)
 rotate_left
 ·(
 simp only[zP,i64_w,i32_w]
 rfl)
 refine pure_ (i:=1) (N:=some 38) (v:=?_) (a':=?_) (bN 16 3) rfl rfl (any_of b.out (by kernel_rfl)) (fun _ _ _ h=>h) (Or.inl ⟨by rfl,?_⟩) ?_ ?_
 rotate_left
 ·(
 intro w'
 go_simp
 with_reducible rfl)
 rotate_left
 ·(
 simp only[zP,i64_w,i32_w]
 rfl)
 refine pure_ (i:=2) (N:=some 39) (v:=?_) (a':=?_) (bN 16 7) rfl rfl (any_of b.out (by kernel_rfl)) (fun _ _ _ h=>h) (Or.inl ⟨by rfl,?_⟩) ?_ ?_
 rotate_left
 ·(
 intro w'
 go_simp
 with_reducible rfl)
 rotate_left
 ·(
 simp only[zP,i64_w,i32_w]
 rfl)
 refine pure_ (i:=4) (N:=some 41) (v:=?_) (a':=?_) (bN 16 23) rfl rfl (any_of b.out (by kernel_rfl)) (fun _ _ _ h=>h) (Or.inl ⟨by rfl,?_⟩) ?_ ?_
 rotate_left
 ·(
 intro w'
 go_simp
 with_reducible rfl)
 rotate_left
 ·(
 simp only[zP,i64_w,i32_w]
 rfl)
 refine pure_ (i:=7) (N:=some 44) (v:=?_) (a':=?_) (bN 16 151) rfl rfl (any_of b.out (by kernel_rfl)) (fun _ _ _ h=>h) (Or.inl ⟨by rfl,?_⟩) ?_ ?_
 rotate_left
 ·(
 intro w'
 go_simp
 with_reducible rfl)
 rotate_left
 ·(
 simp only[zP,i64_w,i32_w]
 rfl)
 refine pure_ (i:=8) (N:=some 45) (v:=?_) (a':=?_) (bN 16 407) rfl rfl (any_of b.out (by kernel_rfl)) (fun _ _ _ h=>h) (Or.inl ⟨by rfl,?_⟩) ?_ ?_
 rotate_left
 ·(
 intro w'
 go_simp
 with_reducible rfl)
 rotate_left
 ·(
 simp only[zP,i64_w,i32_w]
 rfl)
 refine pure_ (i:=9) (N:=some 46) (v:=?_) (a':=?_) (bN 16 919) rfl rfl (any_of b.out (by kernel_rfl)) (fun _ _ _ h=>h) (Or.inl ⟨by rfl,?_⟩) ?_ ?_
 rotate_left
 ·(
 intro w'
 go_simp
 with_reducible rfl)
 rotate_left
 ·(
 simp only[zP,i64_w,i32_w]
 rfl)
 refine pure_ (i:=11) (N:=some 48) (v:=?_) (a':=?_) (bN 16 2967) rfl rfl (any_of b.out (by kernel_rfl)) (fun _ _ _ h=>h) (Or.inl ⟨by rfl,?_⟩) ?_ ?_
 rotate_left
 ·(
 intro w'
 go_simp
 with_reducible rfl)
 rotate_left
 ·(
 simp only[zP,i64_w,i32_w]
 rfl)
 refine take_ (i:=3) (N:=some 40) (v:=?_) (a':=?_) (bN 16 2975) rfl rfl (take_ofW b.out g.out (by kernel_rfl)) (fun _ _ _ h=>h) (Or.inl ⟨by rfl,?_⟩) hHeld ?_ ?_
 rotate_left
 ·(
 rintro w' ⟨j,l,m,o,y,z,A,B,s8,s9,a5,a6,a7,a8,a9,ba,bb,bc,bd,be,bf,bg,bh,bi⟩
 go_simp
 with_reducible rfl)
 rotate_left
 ·(
 simp only[zP,i64_w,i32_w]
 rfl)
 refine pure_ (i:=5) (N:=some 42) (v:=?_) (a':=?_) (bN 16 3007) rfl rfl (any_of b.out (by kernel_rfl)) (fun _ _ _ h=>h) (Or.inl ⟨by rfl,?_⟩) ?_ ?_
 rotate_left
 ·(
 intro w'
 go_simp
 with_reducible rfl)
 rotate_left
 ·(
 simp only[zP,i64_w,i32_w]
 rfl)
 refine take_ (i:=6) (N:=some 43) (v:=?_) (a':=?_) (bN 16 3071) rfl rfl (take_ofW b.out g.out (by kernel_rfl)) (fun _ _ _ h=>h) (Or.inl ⟨by rfl,?_⟩) hHeld ?_ ?_
 rotate_left
 ·(
 rintro w' ⟨j,l,m,o,y,z,A,B,s8,s9,a5,a6,a7,a8,a9,ba,bb,bc,bd,be,bf,bg,bh,bi⟩
 go_simp
 with_reducible rfl)
 rotate_left
 ·(
 simp only[zP,i64_w,i32_w]
 rfl)
 refine take_ (i:=10) (N:=some 47) (v:=?_) (a':=?_) (bN 16 4095) rfl rfl (take_ofW b.out g.out (by kernel_rfl)) (fun _ _ _ h=>h) (Or.inl ⟨by rfl,?_⟩) hHeld ?_ ?_
 rotate_left
 ·(
 rintro w' ⟨j,l,m,o,y,z,A,B,s8,s9,a5,a6,a7,a8,a9,ba,bb,bc,bd,be,bf,bg,bh,bi⟩
 go_simp
 with_reducible rfl)
 rotate_left
 ·(
 simp only[zP,i64_w,i32_w]
 rfl)
 refine pure_ (i:=12) (N:=some 49) (v:=?_) (a':=?_) (bN 16 8191) rfl rfl (any_of b.out (by kernel_rfl)) (fun _ _ _ h=>h) (Or.inl ⟨by rfl,?_⟩) ?_ ?_
 rotate_left
 ·(
 intro w'
 go_simp
 with_reducible rfl)
 rotate_left
 ·(
 simp only[zP,i64_w,i32_w]
 rfl)
 refine take_ (i:=13) (N:=some 50) (v:=?_) (a':=?_) (bN 16 16383) rfl rfl (take_ofW b.out g.out (by kernel_rfl)) (fun _ _ _ h=>h) (Or.inl ⟨by rfl,?_⟩) hHeld ?_ ?_
 rotate_left
 ·(
 rintro w' ⟨j,l,m,o,y,z,A,B,s8,s9,a5,a6,a7,a8,a9,ba,bb,bc,bd,be,bf,bg,bh,bi⟩
 go_simp
 with_reducible rfl)
 rotate_left
 ·(
 simp only[zP,i64_w,i32_w]
 rfl)
 refine one_ (i:=14) (N:=some 51) (bN 16 32767) rfl rfl (one_of b.out (by kernel_rfl)) (by decide) (fun K hK=>?_)
 refine goes_ Try.func91 (by kernel_rfl) rfl #[.agg #[.int .i64 ((rd_T64 ((rd_T32 l0 0).f1) a).f0),.int .i64 ((rd_T64 ((rd_T32 l0 0).f1) a).f1),.string ((rd_T64 ((rd_T32 l0 0).f1) a).f2),.int .i64 ((rd_T64 ((rd_T32 l0 0).f1) a).f3),.slice bx ((rd_T64 ((rd_T32 l0 0).f1) a).f4).length bz,.slice bA ((rd_T64 ((rd_T32 l0 0).f1) a).f5).length bB,.int .i64 ((rd_T64 ((rd_T32 l0 0).f1) a).f6.f0),.int .i64 ((rd_T64 ((rd_T32 l0 0).f1) a).f6.f1),.string ((rd_T64 ((rd_T32 l0 0).f1) a).f6.f2),.int .i64 ((rd_T64 ((rd_T32 l0 0).f1) a).f6.f3)],.agg #[.int .i64 ((rd_T64 ((rd_T32 l1 0).f1) a).f0),.int .i64 ((rd_T64 ((rd_T32 l1 0).f1) a).f1),.string ((rd_T64 ((rd_T32 l1 0).f1) a).f2),.int .i64 ((rd_T64 ((rd_T32 l1 0).f1) a).f3),.slice bL ((rd_T64 ((rd_T32 l1 0).f1) a).f4).length bM,.slice bO ((rd_T64 ((rd_T32 l1 0).f1) a).f5).length bP,.int .i64 ((rd_T64 ((rd_T32 l1 0).f1) a).f6.f0),.int .i64 ((rd_T64 ((rd_T32 l1 0).f1) a).f6.f1),.string ((rd_T64 ((rd_T32 l1 0).f1) a).f6.f2),.int .i64 ((rd_T64 ((rd_T32 l1 0).f1) a).f6.f3)]] (by rfl) rfl rfl (by(try simp only[List.map_toArray,List.map_cons,List.map_nil]);first|done|rfl|(simp only[List.length_drop,List.length_take];rfl)) ?_
 with_reducible refine(spec_l07SameObject.calls k2 ((rd_T64 ((rd_T32 l0 0).f1) a).f0) ((rd_T64 ((rd_T32 l0 0).f1) a).f1) ((rd_T64 ((rd_T32 l0 0).f1) a).f2) ((rd_T64 ((rd_T32 l0 0).f1) a).f3) _ _ ((rd_T64 ((rd_T32 l0 0).f1) a).f4) _ _ ((rd_T64 ((rd_T32 l0 0).f1) a).f5) ((rd_T64 ((rd_T32 l0 0).f1) a).f6.f0) ((rd_T64 ((rd_T32 l0 0).f1) a).f6.f1) ((rd_T64 ((rd_T32 l0 0).f1) a).f6.f2) ((rd_T64 ((rd_T32 l0 0).f1) a).f6.f3) ((rd_T64 ((rd_T32 l1 0).f1) a).f0) ((rd_T64 ((rd_T32 l1 0).f1) a).f1) ((rd_T64 ((rd_T32 l1 0).f1) a).f2) ((rd_T64 ((rd_T32 l1 0).f1) a).f3) _ _ ((rd_T64 ((rd_T32 l1 0).f1) a).f4) _ _ ((rd_T64 ((rd_T32 l1 0).f1) a).f5) ((rd_T64 ((rd_T32 l1 0).f1) a).f6.f0) ((rd_T64 ((rd_T32 l1 0).f1) a).f6.f1) ((rd_T64 ((rd_T32 l1 0).f1) a).f6.f2) ((rd_T64 ((rd_T32 l1 0).f1) a).f6.f3) false _ ?side1 ?side2 ?side3 ?side4 ?side5 ?side6 ?side7 ?side8 cB.out).mono ?_
 (case side1=>exact sD (zC bG.out HB.out))
 (case side2=>exact co.out)
 (case side3=>exact sD (zC bH.out HB.out))
 (case side4=>exact cp.out)
 (case side5=>exact sD (zC bU.out HB.out))
 (case side6=>exact ct.out)
 (case side7=>exact sD (zC bV.out HB.out))
 (case side8=>exact cu.out)
 rintro e dd ⟨rfl,hb⟩
 refine⟨_,rfl,?_⟩
 replace HB:=sB HB hb
 (try clear hb)
 (try clear hb2)
 (try clear hk)
 (try clear hi)
 refine hK.out _ _ ⟨((HB.out.cell (zL w _ M)).trans M),((HB.out.cell (zL w _ L)).trans L),((HB.out.cell (zL w _ an)).trans an),((HB.out.cell (zL w _ am)).trans am),((HB.out.cell (zL w _ al)).trans al),((HB.out.cell (zL w _ ak)).trans ak),((HB.out.cell (zL w _ aj)).trans aj),((HB.out.cell (zL w _ ai)).trans ai),((HB.out.cell (zL w _ ah)).trans ah),((HB.out.cell (zL w _ ag)).trans ag),((HB.out.cell (zL w _ af)).trans af),((HB.out.cell (zL w _ ae)).trans ae),((HB.out.cell (zL w _ R)).trans R),((HB.out.cell (zL w _ Q)).trans Q),((HB.out.cell (zL w _ aJ)).trans aJ),((HB.out.cell (zL w _ aI)).trans aI),((HB.out.cell (zL w _ aH)).trans aH),((HB.out.cell (zL w _ aG)).trans aG),((HB.out.cell (zL w _ aF)).trans aF),((HB.out.cell (zL w _ aE)).trans aE),((HB.out.cell (zL w _ aD)).trans aD),((HB.out.cell (zL w _ aC)).trans aC),((HB.out.cell (zL w _ aB)).trans aB),((HB.out.cell (zL w _ aA)).trans aA)⟩ (fun hHeld=>?_)
 clear hK K
 refine norm_ (a':=?_) ?_ ?_
 rotate_left
 ·(
 show Act.put _ (some 51) _=_
 simp only[zP,i64_w,i32_w]
 rfl)
 refine pure_ (i:=15) (N:=some 52) (v:=?_) (a':=?_) (bN 16 65535) rfl rfl (any_of b.out (by kernel_rfl)) (fun _ _ _ h=>h) (Or.inl ⟨by rfl,?_⟩) ?_ ?_
 rotate_left
 ·(
 intro w'
 go_simp
 with_reducible rfl)
 rotate_left
 ·(
 simp only[zP,i64_w,i32_w]
 rfl)
 refine done_ (done_of b.out (by kernel_rfl)) ?_
 try go_wp2
 go_ret
 exact⟨sq,sb⟩)
 rw[if_neg b4]at H
 exact absurd H (by simp))
 rw[if_neg b3]at H
 exact absurd H (by simp))
 rw[if_neg b2]at H
 exact absurd H (by simp))
 rw[if_neg bl]at H
 have c11b0:=zF bl
 clear bl
 obtain rfl:=zI H
 have D:0≤(0:Int):=(by omega)
 have E:0<(l0.length:Int):=zzA
 obtain⟨T,cC,cD,bt,F,G,aL,aM⟩:=at_T32 aK.out 0 D E
 cases bt
 have cE:(0<l0.length)=True:=eq_true (by omega)
 (try rw[sZ]at F)
 (try rw[sZ]at G)
 replace F:=sX HB F
 replace G:=sX HB G
 have cF:=zM aM
 have cG:=zM aL
 clear aM aL
 replace D:=eq_true D
 replace E:=eq_true E
 go_wp2
 go_ret
 exact⟨sq,sb⟩)
 rw[if_neg b1]at H
 exact absurd H (by simp)))))
end Go.Proofs.Ytpdljgieaaicpaa.PFnExactLiveSize
