/- Printed functions: laws_heldValueS. -/
import Derived.Test.YtengilknjiobiaaYPoP0
import Derived.Test.YtengilknjiobiaaYPoP27
namespace Go.Proofs.Ytengilknjiobiaa.PFnExactPairsOf
open Go.RowKit Go.Proofs.YtengilknjiobiaaG Go.Proofs.YtengilknjiobiaaW.PrintWords Go.Proofs.YtengilknjiobiaaW.PrintLast Go.Proofs.YtengilknjiobiaaW.PrintMore
attribute [local go_sem] max2_int min2_int max_two min_two max_three min_three max_four min_four
set_option linter.unusedVariables false
set_option linter.unusedSimpArgs false
def laws_heldValueS.l0 : Nat → List (S29) → Int → Int → Option (Int)
 |0,_,_,_=>none
 |k+1,x0,x1,x5=>if x5<(x0.length:Int)then(if 0≤x5 then(if((rd_T29 x0 x5).f0)=x1 then(if((rd_T29 x0 x5).f1)=(wrap64 (x1+1))then((laws_markText.f k (wrap64 ((wrap64 (x1+1))+1))).bind fun t444=>(if((rd_T29 x0 x5).f2).toList=t444.toList then(if((rd_T29 x0 x5).f3)=(wrap64 ((wrap64 ((wrap64 (x1+1))+1))+1))then(laws_heldValueS.l0 k x0 (wrap64 ((wrap64 ((wrap64 ((wrap64 (x1+1))+1))+1))+1)) (wrap64 (x5+1)))else(some (-1)))else(some (-1))))else(some (-1)))else(some (-1)))else(none))else(some x1)
def laws_heldValueS.f (k:Nat) (l0:List (S29)) (a1:Int):Option (Int):=laws_heldValueS.l0 k l0 a1 0
def laws_heldValueS.T10:Bool×List (List Nat×List Nat):=(true,[([],[]),([],[]),([0,1],[0,1]),([2],[2]),([3],[3]),([],[]),([5],[5]),([4,6],[4,6])])
def laws_heldValueS.B10:List Nat:=[0,0,3,7,15,0,32,127]
theorem laws_heldValueS.tab10:rtab .any (opsOf Try.f24 10)=laws_heldValueS.T10:=by kernel_rfl
theorem laws_heldValueS.bits10:waitsOk laws_heldValueS.T10.2 laws_heldValueS.B10=true:=by kernel_rfl
set_option maxHeartbeats 8000000 in
set_option maxRecDepth 100000 in
theorem laws_heldValueS.calls (k:Nat) (A0:Option Addr) (c0:Nat) (l0:List (S29)) (a1:Int) (r:Int) (w:World) (hr0:Kd.C k29 w A0 l0.length l0) (hc0:l0.length≤c0) (h:laws_heldValueS.f k l0 a1=some r):
  Calls Try.prog 24 #[.slice A0 l0.length c0,.int .i64 a1] w fun e w'=>e= .returned (.int .i64 r)∧Below w.heap.size w w':=by
 have o:=zM hr0
 have ah:=zM hc0
 clear hr0 hc0
 have HB:=zM (Below.refl w.heap.size w)
 have H:(laws_heldValueS.l0 k l0 a1 0)=some r:=h
 clear h
 have H':=zM H
 clear H
 go_enter Try.func24,Try.ntmps24
 go_wp2
 go_loopg [1,5] k (fun kq v1 v5 w'=>∃(d:Int) (a:Int),v1= .int .i64 d∧v5= .int .i64 a∧Aside0 (laws_heldValueS.l0 kq l0 d a=some r)∧Aside0 (kq≤k)∧Aside0 (Below w.heap.size w w'))
 case atStart=>exact⟨(a1),(0),sr,sr,H',⟨Nat.le_refl _⟩,⟨sb⟩⟩
 case round=>(
 clear H'
 obtain⟨d,a,rfl,rfl,HA,ag,HB⟩:=hrel
 cases gk with
 |zero=>exact absurd HA.out (by simp[laws_heldValueS.l0])
 |succ k1=>(
 have H:=HA.out
 clear HA
 simp only[laws_heldValueS.l0]at H
 by_cases Y:a<(l0.length:Int)
 ·(
 rw[if_pos Y]at H
 have c3b0:=zT Y
 clear Y
 by_cases c4:0≤a
 ·(
 rw[if_pos c4]at H
 have c4b0:=zT c4
 clear c4
 by_cases Q:((rd_T29 l0 a).f0)=d
 ·(
 rw[if_pos Q]at H
 have c5b0:(((rd_T29 l0 a).f0)==d)=true:=zE Q
 have c5b1:(((rd_T29 l0 a).f0) !=d)=false:=zY Q
 clear Q
 by_cases R:((rd_T29 l0 a).f1)=(wrap64 (d+1))
 ·(
 rw[if_pos R]at H
 have c6b0:(((rd_T29 l0 a).f1)==(wrap64 (d+1)))=true:=zE R
 have c6b1:(((rd_T29 l0 a).f1) !=(wrap64 (d+1)))=false:=zY R
 clear R
 obtain⟨P,A7,H⟩:=sO H
 by_cases T:((rd_T29 l0 a).f2).toList=P.toList
 ·(
 rw[if_pos T]at H
 have c8b0:(((rd_T29 l0 a).f2).toList==P.toList)=true:=zE T
 have c8b1:(((rd_T29 l0 a).f2).toList !=P.toList)=false:=zY T
 clear T
 by_cases U:((rd_T29 l0 a).f3)=(wrap64 ((wrap64 ((wrap64 (d+1))+1))+1))
 ·(
 rw[if_pos U]at H
 have c9b0:(((rd_T29 l0 a).f3)==(wrap64 ((wrap64 ((wrap64 (d+1))+1))+1)))=true:=zE U
 have c9b1:(((rd_T29 l0 a).f3) !=(wrap64 ((wrap64 ((wrap64 (d+1))+1))+1)))=false:=zY U
 clear U
 have H':=zM H
 clear H
 have g:0≤(a:Int):=zzA
 have j:a<(l0.length:Int):=zzA
 obtain⟨b,O,p,q,s,t⟩:=at_T29 o.out a g j
 cases O
 replace p:=sX HB p
 replace q:=sX HB q
 replace s:=sX HB s
 replace t:=sX HB t
 replace g:=eq_true g
 replace j:=eq_true j
 have l:0≤(a:Int):=zzA
 have m:a<(l0.length:Int):=zzA
 obtain⟨ad442,V,F,G,I,J⟩:=at_T29 o.out a l m
 obtain rfl:b=ad442:=(by injection V)
 replace F:=sX HB F
 replace G:=sX HB G
 replace I:=sX HB I
 replace J:=sX HB J
 replace l:=eq_true l
 replace m:=eq_true m
 try go_wp2
 replace HB:=zM (below_drew1 HB.out)
 have L:0≤(a:Int):=zzA
 have M:a<(l0.length:Int):=zzA
 obtain⟨ad443,Z,u,x,y,z⟩:=at_T29 o.out a L M
 have A:=z
 have B:=y
 have D:=x
 have E:=u
 obtain rfl:b=ad443:=(by injection Z)
 replace u:=sX HB u
 replace x:=sX HB x
 replace y:=sX HB y
 replace z:=sX HB z
 replace L:=eq_true L
 replace M:=eq_true M
 refine start_ (n:=8) (S:=fun w'=>w'.cell? (b.add ((a).toNat*4))=some (.int .i64 ((rd_T29 l0 a).f0))∧w'.cell? ⟨(b.add ((a).toNat*4)).block,(b.add ((a).toNat*4)).off+1,none⟩=some (.int .i64 ((rd_T29 l0 a).f1))∧w'.cell? ⟨(b.add ((a).toNat*4)).block,(b.add ((a).toNat*4)).off+2,none⟩=some (.string ((rd_T29 l0 a).f2))∧w'.cell? ⟨(b.add ((a).toNat*4)).block,(b.add ((a).toNat*4)).off+3,none⟩=some (.int .i64 ((rd_T29 l0 a).f3))) (ds:=[]) #[false,false,false,false,false,false,false,false] (by kernel_rfl) rfl rfl ⟨((HB.out.cell (zL w _ E)).trans E),((HB.out.cell (zL w _ D)).trans D),((HB.out.cell (zL w _ B)).trans B),((HB.out.cell (zL w _ A)).trans A)⟩ (fun hHeld=>?_);refine with_tabW laws_heldValueS.tab10 laws_heldValueS.bits10 (fun c aa=>?_)
 generalize wr.drew=w10 at HB u x y z hHeld ⊢
 refine pure_ (i:=0) (N:=some 30) (v:=?_) (a':=?_) (bN 8 1) rfl rfl (any_of c.out (by kernel_rfl)) (fun _ _ _ h=>h) (Or.inl ⟨by rfl,?_⟩) ?_ ?_
 rotate_left
 ·(
 intro w'
 go_simp
 with_reducible rfl)
 rotate_left
 ·(
 simp only[zP,i64_w,i32_w]
 rfl)
 refine pure_ (i:=1) (N:=some 31) (v:=?_) (a':=?_) (bN 8 3) rfl rfl (any_of c.out (by kernel_rfl)) (fun _ _ _ h=>h) (Or.inl ⟨by rfl,?_⟩) ?_ ?_
 rotate_left
 ·(
 intro w'
 go_simp
 with_reducible rfl)
 rotate_left
 ·(
 simp only[zP,i64_w,i32_w]
 rfl)
 refine pure_ (i:=2) (N:=some 32) (v:=?_) (a':=?_) (bN 8 7) rfl rfl (any_of c.out (by kernel_rfl)) (fun _ _ _ h=>h) (Or.inl ⟨by rfl,?_⟩) ?_ ?_
 rotate_left
 ·(
 intro w'
 go_simp
 with_reducible rfl)
 rotate_left
 ·(
 simp only[zP,i64_w,i32_w]
 rfl)
 refine pure_ (i:=3) (N:=some 33) (v:=?_) (a':=?_) (bN 8 15) rfl rfl (any_of c.out (by kernel_rfl)) (fun _ _ _ h=>h) (Or.inl ⟨by rfl,?_⟩) ?_ ?_
 rotate_left
 ·(
 intro w'
 go_simp
 with_reducible rfl)
 rotate_left
 ·(
 simp only[zP,i64_w,i32_w]
 rfl)
 refine pure_ (i:=5) (N:=some 35) (v:=?_) (a':=?_) (bN 8 47) rfl rfl (any_of c.out (by kernel_rfl)) (fun _ _ _ h=>h) (Or.inl ⟨by rfl,?_⟩) ?_ ?_
 rotate_left
 ·(
 intro w'
 go_simp
 with_reducible rfl)
 rotate_left
 ·(
 simp only[zP,i64_w,i32_w]
 rfl)
 refine take_ (i:=4) (N:=some 34) (v:=?_) (a':=?_) (bN 8 63) rfl rfl (take_ofW c.out aa.out (by kernel_rfl)) (fun _ _ _ h=>h) (Or.inl ⟨by rfl,?_⟩) hHeld ?_ ?_
 rotate_left
 ·(
 rintro w' ⟨s0,s1,s2,s3⟩
 go_simp
 with_reducible rfl)
 rotate_left
 ·(
 simp only[zP,i64_w,i32_w]
 rfl)
 refine one_ (i:=6) (N:=some 36) (bN 8 127) rfl rfl (one_of c.out (by kernel_rfl)) (by decide) (fun K hK=>?_)
 refine goes_ Try.func60 (by kernel_rfl) rfl #[.int .i64 (wrap64 ((wrap64 (d+1))+1))] (by rfl) rfl rfl (by(try simp only[List.map_toArray,List.map_cons,List.map_nil]);first|done|rfl|(simp only[List.length_drop,List.length_take];rfl)) ?_
 with_reducible refine(laws_markText.calls k1 (wrap64 ((wrap64 (d+1))+1)) P _ A7.out).mono ?_
 rintro e ai ⟨rfl,hb⟩
 refine⟨_,rfl,?_⟩
 replace HB:=sB HB hb
 (try clear hb)
 (try clear hb2)
 (try clear hk)
 (try clear hi)
 refine hK.out _ _ ⟨((HB.out.cell (zL w _ E)).trans E),((HB.out.cell (zL w _ D)).trans D),((HB.out.cell (zL w _ B)).trans B),((HB.out.cell (zL w _ A)).trans A)⟩ (fun hHeld=>?_)
 clear hK K
 refine norm_ (a':=?_) ?_ ?_
 rotate_left
 ·(
 show Act.put _ (some 36) _=_
 simp only[zP,i64_w,i32_w]
 rfl)
 refine pure_ (i:=7) (N:=some 37) (v:=?_) (a':=?_) (bN 8 255) rfl rfl (any_of c.out (by kernel_rfl)) (fun _ _ _ h=>h) (Or.inl ⟨by rfl,?_⟩) ?_ ?_
 rotate_left
 ·(
 intro w'
 go_simp
 with_reducible rfl)
 rotate_left
 ·(
 simp only[zP,i64_w,i32_w]
 rfl)
 refine done_ (done_of c.out (by kernel_rfl)) ?_
 have W:0≤(a:Int):=zzA
 have X:a<(l0.length:Int):=zzA
 obtain⟨ad445,af,ab,ac,ad,ae⟩:=at_T29 o.out a W X
 obtain rfl:b=ad445:=(by injection af)
 replace ab:=sX HB ab
 replace ac:=sX HB ac
 replace ad:=sX HB ad
 replace ae:=sX HB ae
 replace W:=eq_true W
 replace X:=eq_true X
 try go_wp2
 go_roundg k1
 case measure=>have:=ag.out;omega
 case rel=>exact⟨(wrap64 ((wrap64 ((wrap64 ((wrap64 (d+1))+1))+1))+1)),(wrap64 (a+1)),sr,sr,H',⟨by have:=ag.out;omega⟩,⟨sb⟩⟩)
 rw[if_neg U]at H
 have c9b0:(((rd_T29 l0 a).f3)==(wrap64 ((wrap64 ((wrap64 (d+1))+1))+1)))=false:=zN U
 have c9b1:(((rd_T29 l0 a).f3) !=(wrap64 ((wrap64 ((wrap64 (d+1))+1))+1)))=true:=zX U
 obtain rfl:=zI H
 have g:0≤(a:Int):=zzA
 have j:a<(l0.length:Int):=zzA
 obtain⟨b,O,p,q,s,t⟩:=at_T29 o.out a g j
 cases O
 replace p:=sX HB p
 replace q:=sX HB q
 replace s:=sX HB s
 replace t:=sX HB t
 replace g:=eq_true g
 replace j:=eq_true j
 have l:0≤(a:Int):=zzA
 have m:a<(l0.length:Int):=zzA
 obtain⟨ad442,V,F,G,I,J⟩:=at_T29 o.out a l m
 obtain rfl:b=ad442:=(by injection V)
 replace F:=sX HB F
 replace G:=sX HB G
 replace I:=sX HB I
 replace J:=sX HB J
 replace l:=eq_true l
 replace m:=eq_true m
 try go_wp2
 replace HB:=zM (below_drew1 HB.out)
 have L:0≤(a:Int):=zzA
 have M:a<(l0.length:Int):=zzA
 obtain⟨ad443,Z,u,x,y,z⟩:=at_T29 o.out a L M
 have A:=z
 have B:=y
 have D:=x
 have E:=u
 obtain rfl:b=ad443:=(by injection Z)
 replace u:=sX HB u
 replace x:=sX HB x
 replace y:=sX HB y
 replace z:=sX HB z
 replace L:=eq_true L
 replace M:=eq_true M
 refine start_ (n:=8) (S:=fun w'=>w'.cell? (b.add ((a).toNat*4))=some (.int .i64 ((rd_T29 l0 a).f0))∧w'.cell? ⟨(b.add ((a).toNat*4)).block,(b.add ((a).toNat*4)).off+1,none⟩=some (.int .i64 ((rd_T29 l0 a).f1))∧w'.cell? ⟨(b.add ((a).toNat*4)).block,(b.add ((a).toNat*4)).off+2,none⟩=some (.string ((rd_T29 l0 a).f2))∧w'.cell? ⟨(b.add ((a).toNat*4)).block,(b.add ((a).toNat*4)).off+3,none⟩=some (.int .i64 ((rd_T29 l0 a).f3))) (ds:=[]) #[false,false,false,false,false,false,false,false] (by kernel_rfl) rfl rfl ⟨((HB.out.cell (zL w _ E)).trans E),((HB.out.cell (zL w _ D)).trans D),((HB.out.cell (zL w _ B)).trans B),((HB.out.cell (zL w _ A)).trans A)⟩ (fun hHeld=>?_);refine with_tabW laws_heldValueS.tab10 laws_heldValueS.bits10 (fun c aa=>?_)
 generalize wr.drew=w12 at HB u x y z hHeld ⊢
 refine pure_ (i:=0) (N:=some 30) (v:=?_) (a':=?_) (bN 8 1) rfl rfl (any_of c.out (by kernel_rfl)) (fun _ _ _ h=>h) (Or.inl ⟨by rfl,?_⟩) ?_ ?_
 rotate_left
 ·(
 intro w'
 go_simp
 with_reducible rfl)
 rotate_left
 ·(
 simp only[zP,i64_w,i32_w]
 rfl)
 refine pure_ (i:=1) (N:=some 31) (v:=?_) (a':=?_) (bN 8 3) rfl rfl (any_of c.out (by kernel_rfl)) (fun _ _ _ h=>h) (Or.inl ⟨by rfl,?_⟩) ?_ ?_
 rotate_left
 ·(
 intro w'
 go_simp
 with_reducible rfl)
 rotate_left
 ·(
 simp only[zP,i64_w,i32_w]
 rfl)
 refine pure_ (i:=2) (N:=some 32) (v:=?_) (a':=?_) (bN 8 7) rfl rfl (any_of c.out (by kernel_rfl)) (fun _ _ _ h=>h) (Or.inl ⟨by rfl,?_⟩) ?_ ?_
 rotate_left
 ·(
 intro w'
 go_simp
 with_reducible rfl)
 rotate_left
 ·(
 simp only[zP,i64_w,i32_w]
 rfl)
 refine pure_ (i:=3) (N:=some 33) (v:=?_) (a':=?_) (bN 8 15) rfl rfl (any_of c.out (by kernel_rfl)) (fun _ _ _ h=>h) (Or.inl ⟨by rfl,?_⟩) ?_ ?_
 rotate_left
 ·(
 intro w'
 go_simp
 with_reducible rfl)
 rotate_left
 ·(
 simp only[zP,i64_w,i32_w]
 rfl)
 refine pure_ (i:=5) (N:=some 35) (v:=?_) (a':=?_) (bN 8 47) rfl rfl (any_of c.out (by kernel_rfl)) (fun _ _ _ h=>h) (Or.inl ⟨by rfl,?_⟩) ?_ ?_
 rotate_left
 ·(
 intro w'
 go_simp
 with_reducible rfl)
 rotate_left
 ·(
 simp only[zP,i64_w,i32_w]
 rfl)
 refine take_ (i:=4) (N:=some 34) (v:=?_) (a':=?_) (bN 8 63) rfl rfl (take_ofW c.out aa.out (by kernel_rfl)) (fun _ _ _ h=>h) (Or.inl ⟨by rfl,?_⟩) hHeld ?_ ?_
 rotate_left
 ·(
 rintro w' ⟨s0,s1,s2,s3⟩
 go_simp
 with_reducible rfl)
 rotate_left
 ·(
 simp only[zP,i64_w,i32_w]
 rfl)
 refine one_ (i:=6) (N:=some 36) (bN 8 127) rfl rfl (one_of c.out (by kernel_rfl)) (by decide) (fun K hK=>?_)
 refine goes_ Try.func60 (by kernel_rfl) rfl #[.int .i64 (wrap64 ((wrap64 (d+1))+1))] (by rfl) rfl rfl (by(try simp only[List.map_toArray,List.map_cons,List.map_nil]);first|done|rfl|(simp only[List.length_drop,List.length_take];rfl)) ?_
 with_reducible refine(laws_markText.calls k1 (wrap64 ((wrap64 (d+1))+1)) P _ A7.out).mono ?_
 rintro e aj ⟨rfl,hb⟩
 refine⟨_,rfl,?_⟩
 replace HB:=sB HB hb
 (try clear hb)
 (try clear hb2)
 (try clear hk)
 (try clear hi)
 refine hK.out _ _ ⟨((HB.out.cell (zL w _ E)).trans E),((HB.out.cell (zL w _ D)).trans D),((HB.out.cell (zL w _ B)).trans B),((HB.out.cell (zL w _ A)).trans A)⟩ (fun hHeld=>?_)
 clear hK K
 refine norm_ (a':=?_) ?_ ?_
 rotate_left
 ·(
 show Act.put _ (some 36) _=_
 simp only[zP,i64_w,i32_w]
 rfl)
 refine pure_ (i:=7) (N:=some 37) (v:=?_) (a':=?_) (bN 8 255) rfl rfl (any_of c.out (by kernel_rfl)) (fun _ _ _ h=>h) (Or.inl ⟨by rfl,?_⟩) ?_ ?_
 rotate_left
 ·(
 intro w'
 go_simp
 with_reducible rfl)
 rotate_left
 ·(
 simp only[zP,i64_w,i32_w]
 rfl)
 refine done_ (done_of c.out (by kernel_rfl)) ?_
 have W:0≤(a:Int):=zzA
 have X:a<(l0.length:Int):=zzA
 obtain⟨ad445,af,ab,ac,ad,ae⟩:=at_T29 o.out a W X
 obtain rfl:b=ad445:=(by injection af)
 replace ab:=sX HB ab
 replace ac:=sX HB ac
 replace ad:=sX HB ad
 replace ae:=sX HB ae
 replace W:=eq_true W
 replace X:=eq_true X
 try go_wp2
 go_ret
 exact⟨sq,sb⟩)
 rw[if_neg T]at H
 have c8b0:(((rd_T29 l0 a).f2).toList==P.toList)=false:=zN T
 have c8b1:(((rd_T29 l0 a).f2).toList !=P.toList)=true:=zX T
 obtain rfl:=zI H
 have g:0≤(a:Int):=zzA
 have j:a<(l0.length:Int):=zzA
 obtain⟨b,O,p,q,s,t⟩:=at_T29 o.out a g j
 cases O
 replace p:=sX HB p
 replace q:=sX HB q
 replace s:=sX HB s
 replace t:=sX HB t
 replace g:=eq_true g
 replace j:=eq_true j
 have l:0≤(a:Int):=zzA
 have m:a<(l0.length:Int):=zzA
 obtain⟨ad442,V,F,G,I,J⟩:=at_T29 o.out a l m
 obtain rfl:b=ad442:=(by injection V)
 replace F:=sX HB F
 replace G:=sX HB G
 replace I:=sX HB I
 replace J:=sX HB J
 replace l:=eq_true l
 replace m:=eq_true m
 try go_wp2
 replace HB:=zM (below_drew1 HB.out)
 have L:0≤(a:Int):=zzA
 have M:a<(l0.length:Int):=zzA
 obtain⟨ad443,Z,u,x,y,z⟩:=at_T29 o.out a L M
 have A:=z
 have B:=y
 have D:=x
 have E:=u
 obtain rfl:b=ad443:=(by injection Z)
 replace u:=sX HB u
 replace x:=sX HB x
 replace y:=sX HB y
 replace z:=sX HB z
 replace L:=eq_true L
 replace M:=eq_true M
 refine start_ (n:=8) (S:=fun w'=>w'.cell? (b.add ((a).toNat*4))=some (.int .i64 ((rd_T29 l0 a).f0))∧w'.cell? ⟨(b.add ((a).toNat*4)).block,(b.add ((a).toNat*4)).off+1,none⟩=some (.int .i64 ((rd_T29 l0 a).f1))∧w'.cell? ⟨(b.add ((a).toNat*4)).block,(b.add ((a).toNat*4)).off+2,none⟩=some (.string ((rd_T29 l0 a).f2))∧w'.cell? ⟨(b.add ((a).toNat*4)).block,(b.add ((a).toNat*4)).off+3,none⟩=some (.int .i64 ((rd_T29 l0 a).f3))) (ds:=[]) #[false,false,false,false,false,false,false,false] (by kernel_rfl) rfl rfl ⟨((HB.out.cell (zL w _ E)).trans E),((HB.out.cell (zL w _ D)).trans D),((HB.out.cell (zL w _ B)).trans B),((HB.out.cell (zL w _ A)).trans A)⟩ (fun hHeld=>?_);refine with_tabW laws_heldValueS.tab10 laws_heldValueS.bits10 (fun c aa=>?_)
 generalize wr.drew=w14 at HB u x y z hHeld ⊢
 refine pure_ (i:=0) (N:=some 30) (v:=?_) (a':=?_) (bN 8 1) rfl rfl (any_of c.out (by kernel_rfl)) (fun _ _ _ h=>h) (Or.inl ⟨by rfl,?_⟩) ?_ ?_
 rotate_left
 ·(
 intro w'
 go_simp
 with_reducible rfl)
 rotate_left
 ·(
 simp only[zP,i64_w,i32_w]
 rfl)
 refine pure_ (i:=1) (N:=some 31) (v:=?_) (a':=?_) (bN 8 3) rfl rfl (any_of c.out (by kernel_rfl)) (fun _ _ _ h=>h) (Or.inl ⟨by rfl,?_⟩) ?_ ?_
 rotate_left
 ·(
 intro w'
 go_simp
 with_reducible rfl)
 rotate_left
 ·(
 simp only[zP,i64_w,i32_w]
 rfl)
 refine pure_ (i:=2) (N:=some 32) (v:=?_) (a':=?_) (bN 8 7) rfl rfl (any_of c.out (by kernel_rfl)) (fun _ _ _ h=>h) (Or.inl ⟨by rfl,?_⟩) ?_ ?_
 rotate_left
 ·(
 intro w'
 go_simp
 with_reducible rfl)
 rotate_left
 ·(
 simp only[zP,i64_w,i32_w]
 rfl)
 refine pure_ (i:=3) (N:=some 33) (v:=?_) (a':=?_) (bN 8 15) rfl rfl (any_of c.out (by kernel_rfl)) (fun _ _ _ h=>h) (Or.inl ⟨by rfl,?_⟩) ?_ ?_
 rotate_left
 ·(
 intro w'
 go_simp
 with_reducible rfl)
 rotate_left
 ·(
 simp only[zP,i64_w,i32_w]
 rfl)
 refine pure_ (i:=5) (N:=some 35) (v:=?_) (a':=?_) (bN 8 47) rfl rfl (any_of c.out (by kernel_rfl)) (fun _ _ _ h=>h) (Or.inl ⟨by rfl,?_⟩) ?_ ?_
 rotate_left
 ·(
 intro w'
 go_simp
 with_reducible rfl)
 rotate_left
 ·(
 simp only[zP,i64_w,i32_w]
 rfl)
 refine take_ (i:=4) (N:=some 34) (v:=?_) (a':=?_) (bN 8 63) rfl rfl (take_ofW c.out aa.out (by kernel_rfl)) (fun _ _ _ h=>h) (Or.inl ⟨by rfl,?_⟩) hHeld ?_ ?_
 rotate_left
 ·(
 rintro w' ⟨s0,s1,s2,s3⟩
 go_simp
 with_reducible rfl)
 rotate_left
 ·(
 simp only[zP,i64_w,i32_w]
 rfl)
 refine one_ (i:=6) (N:=some 36) (bN 8 127) rfl rfl (one_of c.out (by kernel_rfl)) (by decide) (fun K hK=>?_)
 refine goes_ Try.func60 (by kernel_rfl) rfl #[.int .i64 (wrap64 ((wrap64 (d+1))+1))] (by rfl) rfl rfl (by(try simp only[List.map_toArray,List.map_cons,List.map_nil]);first|done|rfl|(simp only[List.length_drop,List.length_take];rfl)) ?_
 with_reducible refine(laws_markText.calls k1 (wrap64 ((wrap64 (d+1))+1)) P _ A7.out).mono ?_
 rintro e ak ⟨rfl,hb⟩
 refine⟨_,rfl,?_⟩
 replace HB:=sB HB hb
 (try clear hb)
 (try clear hb2)
 (try clear hk)
 (try clear hi)
 refine hK.out _ _ ⟨((HB.out.cell (zL w _ E)).trans E),((HB.out.cell (zL w _ D)).trans D),((HB.out.cell (zL w _ B)).trans B),((HB.out.cell (zL w _ A)).trans A)⟩ (fun hHeld=>?_)
 clear hK K
 refine norm_ (a':=?_) ?_ ?_
 rotate_left
 ·(
 show Act.put _ (some 36) _=_
 simp only[zP,i64_w,i32_w]
 rfl)
 refine pure_ (i:=7) (N:=some 37) (v:=?_) (a':=?_) (bN 8 255) rfl rfl (any_of c.out (by kernel_rfl)) (fun _ _ _ h=>h) (Or.inl ⟨by rfl,?_⟩) ?_ ?_
 rotate_left
 ·(
 intro w'
 go_simp
 with_reducible rfl)
 rotate_left
 ·(
 simp only[zP,i64_w,i32_w]
 rfl)
 refine done_ (done_of c.out (by kernel_rfl)) ?_
 try go_wp2
 go_ret
 exact⟨sq,sb⟩)
 rw[if_neg R]at H
 have c6b0:(((rd_T29 l0 a).f1)==(wrap64 (d+1)))=false:=zN R
 have c6b1:(((rd_T29 l0 a).f1) !=(wrap64 (d+1)))=true:=zX R
 obtain rfl:=zI H
 have g:0≤(a:Int):=zzA
 have j:a<(l0.length:Int):=zzA
 obtain⟨b,O,p,q,s,t⟩:=at_T29 o.out a g j
 cases O
 replace p:=sX HB p
 replace q:=sX HB q
 replace s:=sX HB s
 replace t:=sX HB t
 replace g:=eq_true g
 replace j:=eq_true j
 have l:0≤(a:Int):=zzA
 have m:a<(l0.length:Int):=zzA
 obtain⟨ad442,V,F,G,I,J⟩:=at_T29 o.out a l m
 obtain rfl:b=ad442:=(by injection V)
 replace F:=sX HB F
 replace G:=sX HB G
 replace I:=sX HB I
 replace J:=sX HB J
 replace l:=eq_true l
 replace m:=eq_true m
 go_wp2
 go_ret
 exact⟨sq,sb⟩)
 rw[if_neg Q]at H
 have c5b0:(((rd_T29 l0 a).f0)==d)=false:=zN Q
 have c5b1:(((rd_T29 l0 a).f0) !=d)=true:=zX Q
 obtain rfl:=zI H
 have g:0≤(a:Int):=zzA
 have j:a<(l0.length:Int):=zzA
 obtain⟨b,O,p,q,s,t⟩:=at_T29 o.out a g j
 cases O
 replace p:=sX HB p
 replace q:=sX HB q
 replace s:=sX HB s
 replace t:=sX HB t
 replace g:=eq_true g
 replace j:=eq_true j
 go_wp2
 go_ret
 exact⟨sq,sb⟩)
 rw[if_neg c4]at H
 exact absurd H (by simp))
 rw[if_neg Y]at H
 have c3b0:=zF Y
 clear Y
 obtain rfl:=zI H
 go_wp2
 go_ret
 exact⟨sq,sb⟩))
end Go.Proofs.Ytengilknjiobiaa.PFnExactPairsOf
