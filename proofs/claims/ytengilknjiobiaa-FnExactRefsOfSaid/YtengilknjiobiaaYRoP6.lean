/- Printed functions: spec_SameValue, spec_l07Distinct. -/
import Derived.Test.YtengilknjiobiaaYRoP0
import Derived.Test.YtengilknjiobiaaYRoPE
namespace Go.Proofs.Ytengilknjiobiaa.PFnExactRefsOf
open Go.RowKit Go.Proofs.YtengilknjiobiaaG Go.Proofs.YtengilknjiobiaaW.PrintWords Go.Proofs.YtengilknjiobiaaW.PrintLast Go.Proofs.YtengilknjiobiaaW.PrintMore
attribute [local go_sem] max2_int min2_int max_two min_two max_three min_three max_four min_four
set_option linter.unusedVariables false
set_option linter.unusedSimpArgs false
section
attribute [local go_sem high] eqA29
def spec_SameValue.f (a0_0:Int) (a0_1:Int) (a0_2:ByteArray) (a0_3:Int) (a1_0:Int) (a1_1:Int) (a1_2:ByteArray) (a1_3:Int):Option (Bool):=some (a0_0==a1_0&&(a0_1==a1_1&&(a0_2.toList==a1_2.toList&&(a0_3==a1_3))))
set_option maxHeartbeats 8000000 in
set_option maxRecDepth 100000 in
theorem spec_SameValue.calls (a0_0:Int) (a0_1:Int) (a0_2:ByteArray) (a0_3:Int) (a1_0:Int) (a1_1:Int) (a1_2:ByteArray) (a1_3:Int) (r:Bool) (w:World) (h:spec_SameValue.f a0_0 a0_1 a0_2 a0_3 a1_0 a1_1 a1_2 a1_3=some r):
  Calls Try.prog 110 #[.agg #[.int .i64 a0_0,.int .i64 a0_1,.string a0_2,.int .i64 a0_3],.agg #[.int .i64 a1_0,.int .i64 a1_1,.string a1_2,.int .i64 a1_3]] w fun e w'=>e= .returned (.bool r)∧Below w.heap.size w w':=by
 have g:=Try.underlying29
 have HB:=zM (Below.refl w.heap.size w)
 have H:(some (a0_0==a1_0&&(a0_1==a1_1&&(a0_2.toList==a1_2.toList&&(a0_3==a1_3)))))=some r:=h
 clear h
 obtain rfl:=zI H
 go_enter Try.func110,Try.ntmps110
 go_wp2_with (first|((with_reducible refine gate_dst (N:=2) rfl ?_);refine sV (N:=2) (cs:= #[.int .i64 a0_0,.int .i64 a0_1,.string a0_2,.int .i64 a0_3]) (t:=29) ?_;intro j hg l hbox hb;have a:=zM (hbox);have m:=sG HB hg;have o:=sG HB hg;replace HB:=sB HB hb;clear hb hbox hg)|((with_reducible refine gate_dst (N:=3) rfl ?_);refine sV (N:=3) (cs:= #[.int .i64 a1_0,.int .i64 a1_1,.string a1_2,.int .i64 a1_3]) (t:=29) ?_;intro p hg q hbox hb;have b:=zM (hbox);have s:=sG HB hg;have u:=sG HB hg;replace HB:=sB HB hb;have c:=sN a hg;have d:=sM a hg;replace a:=sK a hb;clear hb hbox hg;have x:=c.out;have y:=d.out;obtain⟨z,A,B,D,E,F,G,I⟩:=cells4 a.out;obtain⟨J,L,M,O,P,Q,R,T⟩:=cells4 b.out))
 go_ret
 exact⟨sq,sb⟩
end
section
attribute [local go_sem high] eqA29
mutual
def spec_l07Distinct.l0 : Nat → List (S29) → Int → Option (Bool)
 |0,_,_=>none
 |k+1,x0,x3=>if x3<(x0.length:Int)then(spec_l07Distinct.l1 k x0 x3 0)else(some true)
def spec_l07Distinct.l1 : Nat → List (S29) → Int → Int → Option (Bool)
 |0,_,_,_=>none
 |k+1,x0,x3,x4=>if x4<x3 then(if 0≤x3 then(if x3<(x0.length:Int)then(if 0≤x4 then(if x4<(x0.length:Int)then((spec_SameValue.f ((rd_T29 x0 x3).f0) ((rd_T29 x0 x3).f1) ((rd_T29 x0 x3).f2) ((rd_T29 x0 x3).f3) ((rd_T29 x0 x4).f0) ((rd_T29 x0 x4).f1) ((rd_T29 x0 x4).f2) ((rd_T29 x0 x4).f3)).bind fun t154=>(if t154=true then(some false)else(spec_l07Distinct.l1 k x0 x3 (wrap64 (x4+1)))))else(none))else(none))else(none))else(none))else(spec_l07Distinct.l0 k x0 (wrap64 (x3+1)))
end
def spec_l07Distinct.f (k:Nat) (l0:List (S29)):Option (Bool):=spec_l07Distinct.l0 k l0 0
def spec_l07Distinct.T7:Bool×List (List Nat×List Nat):=(true,[([],[]),([],[]),([0,1],[0,1]),([2],[2]),([],[]),([],[]),([4,5],[4,5]),([6],[6]),([3,7],[3,7])])
def spec_l07Distinct.B7:List Nat:=[0,0,3,7,0,0,48,112,255]
theorem spec_l07Distinct.tab7:rtab .any (opsOf Try.f84 7)=spec_l07Distinct.T7:=by kernel_rfl
theorem spec_l07Distinct.bits7:waitsOk spec_l07Distinct.T7.2 spec_l07Distinct.B7=true:=by kernel_rfl
set_option maxHeartbeats 8000000 in
set_option maxRecDepth 100000 in
theorem spec_l07Distinct.calls (k:Nat) (A0:Option Addr) (c0:Nat) (l0:List (S29)) (r:Bool) (w:World) (hr0:Kd.C k29 w A0 l0.length l0) (hc0:l0.length≤c0) (h:spec_l07Distinct.f k l0=some r):
  Calls Try.prog 84 #[.slice A0 l0.length c0] w fun e w'=>e= .returned (.bool r)∧Below w.heap.size w w':=by
 have ab:=Try.underlying29
 have P:=zM hr0
 have ac:=zM hc0
 clear hr0 hc0
 have HB:=zM (Below.refl w.heap.size w)
 have H:(spec_l07Distinct.l0 k l0 0)=some r:=h
 clear h
 have H':=zM H
 clear H
 go_enter Try.func84,Try.ntmps84
 go_wp2
 go_loopg [3] k (fun kq v3 w'=>∃(a:Int),v3= .int .i64 a∧Aside0 (spec_l07Distinct.l0 kq l0 a=some r)∧Aside0 (kq≤k)∧Aside0 (Below w.heap.size w w'))
 case atStart=>exact⟨(0),sr,H',⟨Nat.le_refl _⟩,⟨sb⟩⟩
 case round=>(
 clear H'
 obtain⟨a,rfl,HA,Q,HB⟩:=hrel
 cases gk with
 |zero=>exact absurd HA.out (by simp[spec_l07Distinct.l0])
 |succ k1=>(
 have H:=HA.out
 clear HA
 simp only[spec_l07Distinct.l0]at H
 by_cases F:a<(l0.length:Int)
 ·(
 rw[if_pos F]at H
 have c2b0:=zT F
 clear F
 have H':=zM H
 clear H
 go_wp2
 go_loopg [4] k1 (fun kq v4 w'=>∃(b:Int),v4= .int .i64 b∧Aside0 (spec_l07Distinct.l1 kq l0 a b=some r)∧Aside0 (kq≤k1)∧Aside0 (Below w.heap.size w w'))
 case atStart=>exact⟨(0),sr,H',⟨Nat.le_refl _⟩,⟨sb⟩⟩
 case round=>(
 clear H'
 try clear F
 try clear c2b0
 obtain⟨b,rfl,HA,R,HB⟩:=hrel
 cases gk with
 |zero=>exact absurd HA.out (by simp[spec_l07Distinct.l1])
 |succ k2=>(
 have H:=HA.out
 clear HA
 simp only[spec_l07Distinct.l1]at H
 by_cases M:b<a
 ·(
 rw[if_pos M]at H
 have c3b0:=zT M
 clear M
 by_cases T:0≤a
 ·(
 rw[if_pos T]at H
 have c4b0:=zT T
 clear T
 by_cases U:a<(l0.length:Int)
 ·(
 rw[if_pos U]at H
 have c5b0:=zT U
 clear U
 by_cases V:0≤b
 ·(
 rw[if_pos V]at H
 have c6b0:=zT V
 clear V
 by_cases W:b<(l0.length:Int)
 ·(
 rw[if_pos W]at H
 have c7b0:=zT W
 clear W
 obtain⟨aa,A8,H⟩:=sO H
 by_cases X:aa=true
 ·(
 subst X
 rewrite[if_pos rfl]at H
 obtain rfl:=zI H
 try go_wp2
 replace HB:=zM (below_drew1 HB.out)
 have G:0≤(a:Int):=zzA
 have I:a<(l0.length:Int):=zzA
 obtain⟨c,Y,g,j,l,m⟩:=at_T29 P.out a G I
 have o:=m
 have p:=l
 have q:=j
 have s:=g
 cases Y
 replace g:=sX HB g
 replace j:=sX HB j
 replace l:=sX HB l
 replace m:=sX HB m
 replace G:=eq_true G
 replace I:=eq_true I
 have J:0≤(b:Int):=zzA
 have L:b<(l0.length:Int):=zzA
 obtain⟨ad153,Z,u,x,y,z⟩:=at_T29 P.out b J L
 have A:=z
 have B:=y
 have D:=x
 have E:=u
 obtain rfl:c=ad153:=(by injection Z)
 replace u:=sX HB u
 replace x:=sX HB x
 replace y:=sX HB y
 replace z:=sX HB z
 replace J:=eq_true J
 replace L:=eq_true L
 refine start_ (n:=9) (S:=fun w'=>w'.cell? (c.add ((a).toNat*4))=some (.int .i64 ((rd_T29 l0 a).f0))∧w'.cell? ⟨(c.add ((a).toNat*4)).block,(c.add ((a).toNat*4)).off+1,none⟩=some (.int .i64 ((rd_T29 l0 a).f1))∧w'.cell? ⟨(c.add ((a).toNat*4)).block,(c.add ((a).toNat*4)).off+2,none⟩=some (.string ((rd_T29 l0 a).f2))∧w'.cell? ⟨(c.add ((a).toNat*4)).block,(c.add ((a).toNat*4)).off+3,none⟩=some (.int .i64 ((rd_T29 l0 a).f3))∧w'.cell? (c.add ((b).toNat*4))=some (.int .i64 ((rd_T29 l0 b).f0))∧w'.cell? ⟨(c.add ((b).toNat*4)).block,(c.add ((b).toNat*4)).off+1,none⟩=some (.int .i64 ((rd_T29 l0 b).f1))∧w'.cell? ⟨(c.add ((b).toNat*4)).block,(c.add ((b).toNat*4)).off+2,none⟩=some (.string ((rd_T29 l0 b).f2))∧w'.cell? ⟨(c.add ((b).toNat*4)).block,(c.add ((b).toNat*4)).off+3,none⟩=some (.int .i64 ((rd_T29 l0 b).f3))) (ds:=[]) #[false,false,false,false,false,false,false,false,false] (by kernel_rfl) rfl rfl ⟨((HB.out.cell (zL w _ s)).trans s),((HB.out.cell (zL w _ q)).trans q),((HB.out.cell (zL w _ p)).trans p),((HB.out.cell (zL w _ o)).trans o),((HB.out.cell (zL w _ E)).trans E),((HB.out.cell (zL w _ D)).trans D),((HB.out.cell (zL w _ B)).trans B),((HB.out.cell (zL w _ A)).trans A)⟩ (fun hHeld=>?_);refine with_tabW spec_l07Distinct.tab7 spec_l07Distinct.bits7 (fun d O=>?_)
 generalize wr.drew=w10 at HB g j l m u x y z hHeld ⊢
 refine pure_ (i:=0) (N:=some 16) (v:=?_) (a':=?_) (bN 9 1) rfl rfl (any_of d.out (by kernel_rfl)) (fun _ _ _ h=>h) (Or.inl ⟨by rfl,?_⟩) ?_ ?_
 rotate_left
 ·(
 intro w'
 go_simp
 with_reducible rfl)
 rotate_left
 ·(
 simp only[zP,i64_w,i32_w]
 rfl)
 refine pure_ (i:=1) (N:=some 17) (v:=?_) (a':=?_) (bN 9 3) rfl rfl (any_of d.out (by kernel_rfl)) (fun _ _ _ h=>h) (Or.inl ⟨by rfl,?_⟩) ?_ ?_
 rotate_left
 ·(
 intro w'
 go_simp
 with_reducible rfl)
 rotate_left
 ·(
 simp only[zP,i64_w,i32_w]
 rfl)
 refine pure_ (i:=2) (N:=some 18) (v:=?_) (a':=?_) (bN 9 7) rfl rfl (any_of d.out (by kernel_rfl)) (fun _ _ _ h=>h) (Or.inl ⟨by rfl,?_⟩) ?_ ?_
 rotate_left
 ·(
 intro w'
 go_simp
 with_reducible rfl)
 rotate_left
 ·(
 simp only[zP,i64_w,i32_w]
 rfl)
 refine pure_ (i:=4) (N:=some 20) (v:=?_) (a':=?_) (bN 9 23) rfl rfl (any_of d.out (by kernel_rfl)) (fun _ _ _ h=>h) (Or.inl ⟨by rfl,?_⟩) ?_ ?_
 rotate_left
 ·(
 intro w'
 go_simp
 with_reducible rfl)
 rotate_left
 ·(
 simp only[zP,i64_w,i32_w]
 rfl)
 refine pure_ (i:=5) (N:=some 21) (v:=?_) (a':=?_) (bN 9 55) rfl rfl (any_of d.out (by kernel_rfl)) (fun _ _ _ h=>h) (Or.inl ⟨by rfl,?_⟩) ?_ ?_
 rotate_left
 ·(
 intro w'
 go_simp
 with_reducible rfl)
 rotate_left
 ·(
 simp only[zP,i64_w,i32_w]
 rfl)
 refine pure_ (i:=6) (N:=some 22) (v:=?_) (a':=?_) (bN 9 119) rfl rfl (any_of d.out (by kernel_rfl)) (fun _ _ _ h=>h) (Or.inl ⟨by rfl,?_⟩) ?_ ?_
 rotate_left
 ·(
 intro w'
 go_simp
 with_reducible rfl)
 rotate_left
 ·(
 simp only[zP,i64_w,i32_w]
 rfl)
 refine take_ (i:=3) (N:=some 19) (v:=?_) (a':=?_) (bN 9 127) rfl rfl (take_ofW d.out O.out (by kernel_rfl)) (fun _ _ _ h=>h) (Or.inl ⟨by rfl,?_⟩) hHeld ?_ ?_
 rotate_left
 ·(
 rintro w' ⟨s0,s1,s2,s3,s4,s5,s6,s7⟩
 go_simp
 with_reducible rfl)
 rotate_left
 ·(
 simp only[zP,i64_w,i32_w]
 rfl)
 refine take_ (i:=7) (N:=some 23) (v:=?_) (a':=?_) (bN 9 255) rfl rfl (take_ofW d.out O.out (by kernel_rfl)) (fun _ _ _ h=>h) (Or.inl ⟨by rfl,?_⟩) hHeld ?_ ?_
 rotate_left
 ·(
 rintro w' ⟨s0,s1,s2,s3,s4,s5,s6,s7⟩
 go_simp
 with_reducible rfl)
 rotate_left
 ·(
 simp only[zP,i64_w,i32_w]
 rfl)
 refine one_ (i:=8) (N:=some 24) (bN 9 511) rfl rfl (one_of d.out (by kernel_rfl)) (by decide) (fun K hK=>?_)
 refine goes_ Try.func110 (by kernel_rfl) rfl #[.agg #[.int .i64 ((rd_T29 l0 a).f0),.int .i64 ((rd_T29 l0 a).f1),.string ((rd_T29 l0 a).f2),.int .i64 ((rd_T29 l0 a).f3)],.agg #[.int .i64 ((rd_T29 l0 b).f0),.int .i64 ((rd_T29 l0 b).f1),.string ((rd_T29 l0 b).f2),.int .i64 ((rd_T29 l0 b).f3)]] (by rfl) rfl rfl (by(try simp only[List.map_toArray,List.map_cons,List.map_nil]);first|done|rfl|(simp only[List.length_drop,List.length_take];rfl)) ?_
 with_reducible refine(spec_SameValue.calls ((rd_T29 l0 a).f0) ((rd_T29 l0 a).f1) ((rd_T29 l0 a).f2) ((rd_T29 l0 a).f3) ((rd_T29 l0 b).f0) ((rd_T29 l0 b).f1) ((rd_T29 l0 b).f2) ((rd_T29 l0 b).f3) true _ A8.out).mono ?_
 rintro e ad ⟨rfl,hb⟩
 refine⟨_,rfl,?_⟩
 replace HB:=sB HB hb
 (try clear hb)
 (try clear hb2)
 (try clear hk)
 (try clear hi)
 refine hK.out _ _ ⟨((HB.out.cell (zL w _ s)).trans s),((HB.out.cell (zL w _ q)).trans q),((HB.out.cell (zL w _ p)).trans p),((HB.out.cell (zL w _ o)).trans o),((HB.out.cell (zL w _ E)).trans E),((HB.out.cell (zL w _ D)).trans D),((HB.out.cell (zL w _ B)).trans B),((HB.out.cell (zL w _ A)).trans A)⟩ (fun hHeld=>?_)
 clear hK K
 refine norm_ (a':=?_) ?_ ?_
 rotate_left
 ·(
 show Act.put _ (some 24) _=_
 simp only[zP,i64_w,i32_w]
 rfl)
 refine done_ (done_of d.out (by kernel_rfl)) ?_
 try go_wp2
 go_ret
 exact⟨sq,sb⟩)
 replace X:=zB X
 subst X
 rewrite[if_neg zQ]at H
 have H':=zM H
 clear H
 try go_wp2
 replace HB:=zM (below_drew1 HB.out)
 have G:0≤(a:Int):=zzA
 have I:a<(l0.length:Int):=zzA
 obtain⟨c,Y,g,j,l,m⟩:=at_T29 P.out a G I
 have o:=m
 have p:=l
 have q:=j
 have s:=g
 cases Y
 replace g:=sX HB g
 replace j:=sX HB j
 replace l:=sX HB l
 replace m:=sX HB m
 replace G:=eq_true G
 replace I:=eq_true I
 have J:0≤(b:Int):=zzA
 have L:b<(l0.length:Int):=zzA
 obtain⟨ad153,Z,u,x,y,z⟩:=at_T29 P.out b J L
 have A:=z
 have B:=y
 have D:=x
 have E:=u
 obtain rfl:c=ad153:=(by injection Z)
 replace u:=sX HB u
 replace x:=sX HB x
 replace y:=sX HB y
 replace z:=sX HB z
 replace J:=eq_true J
 replace L:=eq_true L
 refine start_ (n:=9) (S:=fun w'=>w'.cell? (c.add ((a).toNat*4))=some (.int .i64 ((rd_T29 l0 a).f0))∧w'.cell? ⟨(c.add ((a).toNat*4)).block,(c.add ((a).toNat*4)).off+1,none⟩=some (.int .i64 ((rd_T29 l0 a).f1))∧w'.cell? ⟨(c.add ((a).toNat*4)).block,(c.add ((a).toNat*4)).off+2,none⟩=some (.string ((rd_T29 l0 a).f2))∧w'.cell? ⟨(c.add ((a).toNat*4)).block,(c.add ((a).toNat*4)).off+3,none⟩=some (.int .i64 ((rd_T29 l0 a).f3))∧w'.cell? (c.add ((b).toNat*4))=some (.int .i64 ((rd_T29 l0 b).f0))∧w'.cell? ⟨(c.add ((b).toNat*4)).block,(c.add ((b).toNat*4)).off+1,none⟩=some (.int .i64 ((rd_T29 l0 b).f1))∧w'.cell? ⟨(c.add ((b).toNat*4)).block,(c.add ((b).toNat*4)).off+2,none⟩=some (.string ((rd_T29 l0 b).f2))∧w'.cell? ⟨(c.add ((b).toNat*4)).block,(c.add ((b).toNat*4)).off+3,none⟩=some (.int .i64 ((rd_T29 l0 b).f3))) (ds:=[]) #[false,false,false,false,false,false,false,false,false] (by kernel_rfl) rfl rfl ⟨((HB.out.cell (zL w _ s)).trans s),((HB.out.cell (zL w _ q)).trans q),((HB.out.cell (zL w _ p)).trans p),((HB.out.cell (zL w _ o)).trans o),((HB.out.cell (zL w _ E)).trans E),((HB.out.cell (zL w _ D)).trans D),((HB.out.cell (zL w _ B)).trans B),((HB.out.cell (zL w _ A)).trans A)⟩ (fun hHeld=>?_);refine with_tabW spec_l07Distinct.tab7 spec_l07Distinct.bits7 (fun d O=>?_)
 generalize wr.drew=w12 at HB g j l m u x y z hHeld ⊢
 refine pure_ (i:=0) (N:=some 16) (v:=?_) (a':=?_) (bN 9 1) rfl rfl (any_of d.out (by kernel_rfl)) (fun _ _ _ h=>h) (Or.inl ⟨by rfl,?_⟩) ?_ ?_
 rotate_left
 ·(
 intro w'
 go_simp
 with_reducible rfl)
 rotate_left
 ·(
 simp only[zP,i64_w,i32_w]
 rfl)
 refine pure_ (i:=1) (N:=some 17) (v:=?_) (a':=?_) (bN 9 3) rfl rfl (any_of d.out (by kernel_rfl)) (fun _ _ _ h=>h) (Or.inl ⟨by rfl,?_⟩) ?_ ?_
 rotate_left
 ·(
 intro w'
 go_simp
 with_reducible rfl)
 rotate_left
 ·(
 simp only[zP,i64_w,i32_w]
 rfl)
 refine pure_ (i:=2) (N:=some 18) (v:=?_) (a':=?_) (bN 9 7) rfl rfl (any_of d.out (by kernel_rfl)) (fun _ _ _ h=>h) (Or.inl ⟨by rfl,?_⟩) ?_ ?_
 rotate_left
 ·(
 intro w'
 go_simp
 with_reducible rfl)
 rotate_left
 ·(
 simp only[zP,i64_w,i32_w]
 rfl)
 refine pure_ (i:=4) (N:=some 20) (v:=?_) (a':=?_) (bN 9 23) rfl rfl (any_of d.out (by kernel_rfl)) (fun _ _ _ h=>h) (Or.inl ⟨by rfl,?_⟩) ?_ ?_
 rotate_left
 ·(
 intro w'
 go_simp
 with_reducible rfl)
 rotate_left
 ·(
 simp only[zP,i64_w,i32_w]
 rfl)
 refine pure_ (i:=5) (N:=some 21) (v:=?_) (a':=?_) (bN 9 55) rfl rfl (any_of d.out (by kernel_rfl)) (fun _ _ _ h=>h) (Or.inl ⟨by rfl,?_⟩) ?_ ?_
 rotate_left
 ·(
 intro w'
 go_simp
 with_reducible rfl)
 rotate_left
 ·(
 simp only[zP,i64_w,i32_w]
 rfl)
 refine pure_ (i:=6) (N:=some 22) (v:=?_) (a':=?_) (bN 9 119) rfl rfl (any_of d.out (by kernel_rfl)) (fun _ _ _ h=>h) (Or.inl ⟨by rfl,?_⟩) ?_ ?_
 rotate_left
 ·(
 intro w'
 go_simp
 with_reducible rfl)
 rotate_left
 ·(
 simp only[zP,i64_w,i32_w]
 rfl)
 refine take_ (i:=3) (N:=some 19) (v:=?_) (a':=?_) (bN 9 127) rfl rfl (take_ofW d.out O.out (by kernel_rfl)) (fun _ _ _ h=>h) (Or.inl ⟨by rfl,?_⟩) hHeld ?_ ?_
 rotate_left
 ·(
 rintro w' ⟨s0,s1,s2,s3,s4,s5,s6,s7⟩
 go_simp
 with_reducible rfl)
 rotate_left
 ·(
 simp only[zP,i64_w,i32_w]
 rfl)
 refine take_ (i:=7) (N:=some 23) (v:=?_) (a':=?_) (bN 9 255) rfl rfl (take_ofW d.out O.out (by kernel_rfl)) (fun _ _ _ h=>h) (Or.inl ⟨by rfl,?_⟩) hHeld ?_ ?_
 rotate_left
 ·(
 rintro w' ⟨s0,s1,s2,s3,s4,s5,s6,s7⟩
 go_simp
 with_reducible rfl)
 rotate_left
 ·(
 simp only[zP,i64_w,i32_w]
 rfl)
 refine one_ (i:=8) (N:=some 24) (bN 9 511) rfl rfl (one_of d.out (by kernel_rfl)) (by decide) (fun K hK=>?_)
 refine goes_ Try.func110 (by kernel_rfl) rfl #[.agg #[.int .i64 ((rd_T29 l0 a).f0),.int .i64 ((rd_T29 l0 a).f1),.string ((rd_T29 l0 a).f2),.int .i64 ((rd_T29 l0 a).f3)],.agg #[.int .i64 ((rd_T29 l0 b).f0),.int .i64 ((rd_T29 l0 b).f1),.string ((rd_T29 l0 b).f2),.int .i64 ((rd_T29 l0 b).f3)]] (by rfl) rfl rfl (by(try simp only[List.map_toArray,List.map_cons,List.map_nil]);first|done|rfl|(simp only[List.length_drop,List.length_take];rfl)) ?_
 with_reducible refine(spec_SameValue.calls ((rd_T29 l0 a).f0) ((rd_T29 l0 a).f1) ((rd_T29 l0 a).f2) ((rd_T29 l0 a).f3) ((rd_T29 l0 b).f0) ((rd_T29 l0 b).f1) ((rd_T29 l0 b).f2) ((rd_T29 l0 b).f3) false _ A8.out).mono ?_
 rintro e ae ⟨rfl,hb⟩
 refine⟨_,rfl,?_⟩
 replace HB:=sB HB hb
 (try clear hb)
 (try clear hb2)
 (try clear hk)
 (try clear hi)
 refine hK.out _ _ ⟨((HB.out.cell (zL w _ s)).trans s),((HB.out.cell (zL w _ q)).trans q),((HB.out.cell (zL w _ p)).trans p),((HB.out.cell (zL w _ o)).trans o),((HB.out.cell (zL w _ E)).trans E),((HB.out.cell (zL w _ D)).trans D),((HB.out.cell (zL w _ B)).trans B),((HB.out.cell (zL w _ A)).trans A)⟩ (fun hHeld=>?_)
 clear hK K
 refine norm_ (a':=?_) ?_ ?_
 rotate_left
 ·(
 show Act.put _ (some 24) _=_
 simp only[zP,i64_w,i32_w]
 rfl)
 refine done_ (done_of d.out (by kernel_rfl)) ?_
 try go_wp2
 go_roundg k2
 case measure=>have:=Q.out;have:=R.out;omega
 case rel=>exact⟨(wrap64 (b+1)),sr,H',⟨by have:=Q.out;have:=R.out;omega⟩,⟨sb⟩⟩)
 rw[if_neg W]at H
 exact absurd H (by simp))
 rw[if_neg V]at H
 exact absurd H (by simp))
 rw[if_neg U]at H
 exact absurd H (by simp))
 rw[if_neg T]at H
 exact absurd H (by simp))
 rw[if_neg M]at H
 have c3b0:=zF M
 clear M
 have H':=zM H
 clear H
 go_wp2
 go_roundg k2
 case measure=>have:=Q.out;have:=R.out;omega
 case rel=>exact⟨(wrap64 (a+1)),sr,H',⟨by have:=Q.out;have:=R.out;omega⟩,⟨sb⟩⟩)))
 rw[if_neg F]at H
 have c2b0:=zF F
 clear F
 obtain rfl:=zI H
 go_wp2
 go_ret
 exact⟨sq,sb⟩))
end
end Go.Proofs.Ytengilknjiobiaa.PFnExactRefsOf
