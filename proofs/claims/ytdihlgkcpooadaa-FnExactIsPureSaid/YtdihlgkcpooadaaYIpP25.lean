/- Printed functions: laws_eqNamed, laws_eqNamedS. -/
import Derived.Test.YtdihlgkcpooadaaYIpP0
import Derived.Test.YtdihlgkcpooadaaYIpP24
namespace Go.Proofs.Ytdihlgkcpooadaa.PFnExactIsPure
open Go.RowKit Go.Proofs.YtdihlgkcpooadaaG Go.Proofs.YtdihlgkcpooadaaW.PrintWords Go.Proofs.YtdihlgkcpooadaaW.PrintLast Go.Proofs.YtdihlgkcpooadaaW.PrintMore
attribute [local go_sem] max2_int min2_int max_two min_two max_three min_three max_four min_four
set_option linter.unusedVariables false
set_option linter.unusedSimpArgs false
def laws_eqNamed.f (k:Nat) (a0_0:ByteArray) (a0_1:Int) (a0_2:Int) (a0_3:ByteArray) (l0_4:List (S36)) (a1_0:ByteArray) (a1_1:Int) (a1_2:Int) (a1_3:ByteArray) (l1_4:List (S36)):Option (Bool):=if a0_0.toList=a1_0.toList then((laws_eqPattern.f k a0_1 a0_2 a0_3 l0_4 a1_1 a1_2 a1_3 l1_4).bind fun t364=>(if t364=true then(some true)else(some false)))else(some false)
set_option maxHeartbeats 8000000 in
set_option maxRecDepth 100000 in
theorem laws_eqNamed.calls (k:Nat) (a0_0:ByteArray) (a0_1:Int) (a0_2:Int) (a0_3:ByteArray) (A0_4:Option Addr) (c0_4:Nat) (l0_4:List (S36)) (a1_0:ByteArray) (a1_1:Int) (a1_2:Int) (a1_3:ByteArray) (A1_4:Option Addr) (c1_4:Nat) (l1_4:List (S36)) (r:Bool) (w:World) (hr0_4:Kd.C k36 w A0_4 l0_4.length l0_4) (hc0_4:l0_4.length≤c0_4) (hr1_4:Kd.C k36 w A1_4 l1_4.length l1_4) (hc1_4:l1_4.length≤c1_4) (h:laws_eqNamed.f k a0_0 a0_1 a0_2 a0_3 l0_4 a1_0 a1_1 a1_2 a1_3 l1_4=some r):
  Calls Try.prog 31 #[.agg #[.string a0_0,.int .i64 a0_1,.int .i64 a0_2,.string a0_3,.slice A0_4 l0_4.length c0_4],.agg #[.string a1_0,.int .i64 a1_1,.int .i64 a1_2,.string a1_3,.slice A1_4 l1_4.length c1_4]] w fun e w'=>e= .returned (.bool r)∧Below w.heap.size w w':=by
 have D:=Try.underlying52
 have E:=Try.underlying36
 have m:=zM hr0_4
 have o:=zM hc0_4
 clear hr0_4 hc0_4
 have p:=zM hr1_4
 have q:=zM hc1_4
 clear hr1_4 hc1_4
 have HB:=zM (Below.refl w.heap.size w)
 have H:(if a0_0.toList=a1_0.toList then((laws_eqPattern.f k a0_1 a0_2 a0_3 l0_4 a1_1 a1_2 a1_3 l1_4).bind fun l=>(if l=true then(some true)else(some false)))else(some false))=some r:=h
 clear h
 by_cases c:a0_0.toList=a1_0.toList
 ·(
 rw[if_pos c]at H
 have c3b0:(a0_0.toList==a1_0.toList)=true:=zE c
 have c3b1:(a0_0.toList !=a1_0.toList)=false:=zY c
 clear c
 obtain⟨l,s,H⟩:=sO H
 by_cases j:l=true
 ·(
 subst j
 rewrite[if_pos rfl]at H
 obtain rfl:=zI H
 go_enter Try.func31,Try.ntmps31
 go_wp2_with (first|((with_reducible refine gate_dst (N:=2) rfl ?_);refine sV (N:=2) (cs:= #[.string a0_0,.int .i64 a0_1,.int .i64 a0_2,.string a0_3,.slice A0_4 l0_4.length c0_4]) (t:=52) ?_;intro u hg F hbox hb;have a:=zM (hbox);have x:=sG HB hg;have y:=sG HB hg;replace HB:=sB HB hb;clear hb hbox hg)|((with_reducible refine gate_dst (N:=3) rfl ?_);refine sV (N:=3) (cs:= #[.string a1_0,.int .i64 a1_1,.int .i64 a1_2,.string a1_3,.slice A1_4 l1_4.length c1_4]) (t:=52) ?_;intro z hg G hbox hb;have b:=zM (hbox);have A:=sG HB hg;have B:=sG HB hg;replace HB:=sB HB hb;have d:=sN a hg;have g:=sM a hg;replace a:=sK a hb;clear hb hbox hg;have I:=d.out;have J:=g.out;obtain⟨L,M,O,P,Q,R,T,U,V,W⟩:=cells5 a.out;obtain⟨X,Y,Z,aa,ab,ac,ad,ae,af,ag⟩:=cells5 b.out)|((with_reducible refine gate_callee (f:=16) rfl ?_);refine sC (some 14) Try.func16 #[.agg #[.int .i64 a0_1,.int .i64 a0_2,.string a0_3,.slice A0_4 l0_4.length c0_4],.agg #[.int .i64 a1_1,.int .i64 a1_2,.string a1_3,.slice A1_4 l1_4.length c1_4]] (laws_eqPattern.calls k a0_1 a0_2 a0_3 _ _ l0_4 a1_1 a1_2 a1_3 _ _ l1_4 true _ ?side1 ?side2 ?side3 ?side4 s.out) ?_;(case side1=>exact sD (zC m.out HB.out));(case side2=>exact o.out);(case side3=>exact sD (zC p.out HB.out));(case side4=>exact q.out);rintro e ah ⟨rfl,hb⟩;refine⟨_,rfl,?_⟩;replace a:=sK a hb;replace b:=sK b hb;replace HB:=sB HB hb;(try clear hb)))
 go_ret
 exact⟨sq,sb⟩)
 replace j:=zB j
 subst j
 rewrite[if_neg zQ]at H
 obtain rfl:=zI H
 go_enter Try.func31,Try.ntmps31
 go_wp2_with (first|((with_reducible refine gate_dst (N:=2) rfl ?_);refine sV (N:=2) (cs:= #[.string a0_0,.int .i64 a0_1,.int .i64 a0_2,.string a0_3,.slice A0_4 l0_4.length c0_4]) (t:=52) ?_;intro u hg ai hbox hb;have a:=zM (hbox);have x:=sG HB hg;have y:=sG HB hg;replace HB:=sB HB hb;clear hb hbox hg)|((with_reducible refine gate_dst (N:=3) rfl ?_);refine sV (N:=3) (cs:= #[.string a1_0,.int .i64 a1_1,.int .i64 a1_2,.string a1_3,.slice A1_4 l1_4.length c1_4]) (t:=52) ?_;intro z hg aj hbox hb;have b:=zM (hbox);have A:=sG HB hg;have B:=sG HB hg;replace HB:=sB HB hb;have d:=sN a hg;have g:=sM a hg;replace a:=sK a hb;clear hb hbox hg;have ak:=d.out;have al:=g.out;obtain⟨am,an,ao,ap,aq,ar,au,av,aw,ax⟩:=cells5 a.out;obtain⟨ay,az,aA,aB,aC,aD,aE,aF,aG,aH⟩:=cells5 b.out)|((with_reducible refine gate_callee (f:=16) rfl ?_);refine sC (some 14) Try.func16 #[.agg #[.int .i64 a0_1,.int .i64 a0_2,.string a0_3,.slice A0_4 l0_4.length c0_4],.agg #[.int .i64 a1_1,.int .i64 a1_2,.string a1_3,.slice A1_4 l1_4.length c1_4]] (laws_eqPattern.calls k a0_1 a0_2 a0_3 _ _ l0_4 a1_1 a1_2 a1_3 _ _ l1_4 false _ ?side1 ?side2 ?side3 ?side4 s.out) ?_;(case side1=>exact sD (zC m.out HB.out));(case side2=>exact o.out);(case side3=>exact sD (zC p.out HB.out));(case side4=>exact q.out);rintro e aI ⟨rfl,hb⟩;refine⟨_,rfl,?_⟩;replace a:=sK a hb;replace b:=sK b hb;replace HB:=sB HB hb;(try clear hb)))
 go_ret
 exact⟨sq,sb⟩)
 rw[if_neg c]at H
 have c3b0:(a0_0.toList==a1_0.toList)=false:=zN c
 have c3b1:(a0_0.toList !=a1_0.toList)=true:=zX c
 obtain rfl:=zI H
 go_enter Try.func31,Try.ntmps31
 go_wp2_with (first|((with_reducible refine gate_dst (N:=2) rfl ?_);refine sV (N:=2) (cs:= #[.string a0_0,.int .i64 a0_1,.int .i64 a0_2,.string a0_3,.slice A0_4 l0_4.length c0_4]) (t:=52) ?_;intro u hg aJ hbox hb;have a:=zM (hbox);have x:=sG HB hg;have y:=sG HB hg;replace HB:=sB HB hb;clear hb hbox hg)|((with_reducible refine gate_dst (N:=3) rfl ?_);refine sV (N:=3) (cs:= #[.string a1_0,.int .i64 a1_1,.int .i64 a1_2,.string a1_3,.slice A1_4 l1_4.length c1_4]) (t:=52) ?_;intro z hg aK hbox hb;have b:=zM (hbox);have A:=sG HB hg;have B:=sG HB hg;replace HB:=sB HB hb;have d:=sN a hg;have g:=sM a hg;replace a:=sK a hb;clear hb hbox hg;have aL:=d.out;have aM:=g.out;obtain⟨aN,aO,aP,aQ,aR,aS,aT,aU,aV,aW⟩:=cells5 a.out;obtain⟨aX,aY,aZ,a0,a1,a2,a3,a4,a5,a6⟩:=cells5 b.out))
 go_ret
 exact⟨sq,sb⟩
def laws_eqNamedS.l0 : Nat → List (S52) → List (S52) → Int → Option (Bool)
 |0,_,_,_=>none
 |k+1,x0,x1,x5=>if x5<(x0.length:Int)then(if 0≤x5 then(if x5<(x1.length:Int)then((laws_eqNamed.f k ((rd_T52 x0 x5).f0) ((rd_T52 x0 x5).f1.f0) ((rd_T52 x0 x5).f1.f1) ((rd_T52 x0 x5).f1.f2) ((rd_T52 x0 x5).f1.f3) ((rd_T52 x1 x5).f0) ((rd_T52 x1 x5).f1.f0) ((rd_T52 x1 x5).f1.f1) ((rd_T52 x1 x5).f1.f2) ((rd_T52 x1 x5).f1.f3)).bind fun t367=>(if t367=true then(laws_eqNamedS.l0 k x0 x1 (wrap64 (x5+1)))else(some false)))else(none))else(none))else(some true)
def laws_eqNamedS.f (k:Nat) (l0:List (S52)) (l1:List (S52)):Option (Bool):=if(l0.length:Int)=(l1.length:Int)then(laws_eqNamedS.l0 k l0 l1 0)else(some false)
def laws_eqNamedS.T6:Bool×List (List Nat×List Nat):=(true,[([],[]),([],[]),([0,1],[0,1]),([2],[2]),([],[]),([],[]),([4,5],[4,5]),([6],[6]),([3,7],[3,7]),([8],[8])])
def laws_eqNamedS.B6:List Nat:=[0,0,3,7,0,0,48,112,255,511]
theorem laws_eqNamedS.tab6:rtab .any (opsOf Try.f11 6)=laws_eqNamedS.T6:=by kernel_rfl
theorem laws_eqNamedS.bits6:waitsOk laws_eqNamedS.T6.2 laws_eqNamedS.B6=true:=by kernel_rfl
set_option maxHeartbeats 8000000 in
set_option maxRecDepth 100000 in
theorem laws_eqNamedS.calls (k:Nat) (A0:Option Addr) (c0:Nat) (l0:List (S52)) (A1:Option Addr) (c1:Nat) (l1:List (S52)) (r:Bool) (w:World) (hr0:Kd.C k52 w A0 l0.length l0) (hc0:l0.length≤c0) (hr1:Kd.C k52 w A1 l1.length l1) (hc1:l1.length≤c1) (h:laws_eqNamedS.f k l0 l1=some r):
  Calls Try.prog 11 #[.slice A0 l0.length c0,.slice A1 l1.length c1] w fun e w'=>e= .returned (.bool r)∧Below w.heap.size w w':=by
 have am:=Try.underlying52
 have ai:=zM hr0
 have an:=zM hc0
 clear hr0 hc0
 have aj:=zM hr1
 have ao:=zM hc1
 clear hr1 hc1
 have HB:=zM (Below.refl w.heap.size w)
 have H:(if(l0.length:Int)=(l1.length:Int)then(laws_eqNamedS.l0 k l0 l1 0)else(some false))=some r:=h
 clear h
 by_cases g:(l0.length:Int)=(l1.length:Int)
 ·(
 rw[if_pos g]at H
 have c3b0:((l0.length:Int)==(l1.length:Int))=true:=zE g
 have c3b1:((l0.length:Int) !=(l1.length:Int))=false:=zY g
 have c3b2:(l0.length==l1.length)=true:=by first|simpa using g|(simp at g ⊢;omega)
 clear g
 have H':=zM H
 clear H
 go_enter Try.func11,Try.ntmps11
 go_wp2
 go_loopg [5] k (fun kq v5 w'=>∃(a:Int),v5= .int .i64 a∧Aside0 (laws_eqNamedS.l0 kq l0 l1 a=some r)∧Aside0 (kq≤k)∧Aside0 (Below w.heap.size w w'))
 case atStart=>exact⟨(0),sr,H',⟨Nat.le_refl _⟩,⟨sb⟩⟩
 case round=>(
 clear H'
 try clear c1
 try clear g
 try clear c3b0
 try clear c3b1
 try clear c3b2
 obtain⟨a,rfl,HA,ak,HB⟩:=hrel
 cases gk with
 |zero=>exact absurd HA.out (by simp[laws_eqNamedS.l0])
 |succ k1=>(
 have H:=HA.out
 clear HA
 simp only[laws_eqNamedS.l0]at H
 by_cases R:a<(l0.length:Int)
 ·(
 rw[if_pos R]at H
 have c4b0:=zT R
 clear R
 by_cases c5:0≤a
 ·(
 rw[if_pos c5]at H
 have c5b0:=zT c5
 clear c5
 by_cases c6:a<(l1.length:Int)
 ·(
 rw[if_pos c6]at H
 have c6b0:=zT c6
 clear c6
 obtain⟨al,A7,H⟩:=sO H
 by_cases c8:al=true
 ·(
 subst c8
 rewrite[if_pos rfl]at H
 have H':=zM H
 clear H
 try go_wp2
 replace HB:=zM (below_drew1 HB.out)
 have M:0≤(a:Int):=zzA
 have O:a<(l0.length:Int):=zzA
 obtain⟨c,T,U,ae,j,l,m,o,p,V,W⟩:=at_T52 ai.out a M O
 have q:=p
 have s:=o
 have u:=m
 have x:=l
 have y:=j
 cases ae
 replace j:=sX HB j
 replace l:=sX HB l
 replace m:=sX HB m
 replace o:=sX HB o
 replace p:=sX HB p
 have X:=zM W
 have af:=zM V
 clear W V
 replace M:=eq_true M
 replace O:=eq_true O
 have P:0≤(a:Int):=zzA
 have Q:a<(l1.length:Int):=zzA
 obtain⟨d,Y,Z,ag,z,A,B,D,E,aa,ab⟩:=at_T52 aj.out a P Q
 have F:=E
 have G:=D
 have I:=B
 have J:=A
 have L:=z
 cases ag
 replace z:=sX HB z
 replace A:=sX HB A
 replace B:=sX HB B
 replace D:=sX HB D
 replace E:=sX HB E
 have ac:=zM ab
 have ah:=zM aa
 clear ab aa
 replace P:=eq_true P
 replace Q:=eq_true Q
 refine start_ (n:=10) (S:=fun w'=>w'.cell? (c.add ((a).toNat*5))=some (.string ((rd_T52 l0 a).f0))∧w'.cell? ⟨(c.add ((a).toNat*5)).block,(c.add ((a).toNat*5)).off+1,none⟩=some (.int .i64 ((rd_T52 l0 a).f1.f0))∧w'.cell? ⟨(c.add ((a).toNat*5)).block,(c.add ((a).toNat*5)).off+2,none⟩=some (.int .i64 ((rd_T52 l0 a).f1.f1))∧w'.cell? ⟨(c.add ((a).toNat*5)).block,(c.add ((a).toNat*5)).off+3,none⟩=some (.string ((rd_T52 l0 a).f1.f2))∧w'.cell? ⟨(c.add ((a).toNat*5)).block,(c.add ((a).toNat*5)).off+4,none⟩=some (.slice T ((rd_T52 l0 a).f1.f3).length U)∧w'.cell? (d.add ((a).toNat*5))=some (.string ((rd_T52 l1 a).f0))∧w'.cell? ⟨(d.add ((a).toNat*5)).block,(d.add ((a).toNat*5)).off+1,none⟩=some (.int .i64 ((rd_T52 l1 a).f1.f0))∧w'.cell? ⟨(d.add ((a).toNat*5)).block,(d.add ((a).toNat*5)).off+2,none⟩=some (.int .i64 ((rd_T52 l1 a).f1.f1))∧w'.cell? ⟨(d.add ((a).toNat*5)).block,(d.add ((a).toNat*5)).off+3,none⟩=some (.string ((rd_T52 l1 a).f1.f2))∧w'.cell? ⟨(d.add ((a).toNat*5)).block,(d.add ((a).toNat*5)).off+4,none⟩=some (.slice Y ((rd_T52 l1 a).f1.f3).length Z)) (ds:=[]) #[false,false,false,false,false,false,false,false,false,false] (by kernel_rfl) rfl rfl ⟨((HB.out.cell (zL w _ y)).trans y),((HB.out.cell (zL w _ x)).trans x),((HB.out.cell (zL w _ u)).trans u),((HB.out.cell (zL w _ s)).trans s),((HB.out.cell (zL w _ q)).trans q),((HB.out.cell (zL w _ L)).trans L),((HB.out.cell (zL w _ J)).trans J),((HB.out.cell (zL w _ I)).trans I),((HB.out.cell (zL w _ G)).trans G),((HB.out.cell (zL w _ F)).trans F)⟩ (fun hHeld=>?_);refine with_tabW laws_eqNamedS.tab6 laws_eqNamedS.bits6 (fun b ad=>?_)
 generalize wr.drew=w9 at HB X ac j l m o p z A B D E hHeld ⊢
 refine pure_ (i:=0) (N:=some 17) (v:=?_) (a':=?_) (bN 10 1) rfl rfl (any_of b.out (by kernel_rfl)) (fun _ _ _ h=>h) (Or.inl ⟨by rfl,?_⟩) ?_ ?_
 rotate_left
 ·(
 intro w'
 go_simp
 with_reducible rfl)
 rotate_left
 ·(
 simp only[zP,i64_w,i32_w]
 rfl)
 refine pure_ (i:=1) (N:=some 18) (v:=?_) (a':=?_) (bN 10 3) rfl rfl (any_of b.out (by kernel_rfl)) (fun _ _ _ h=>h) (Or.inl ⟨by rfl,?_⟩) ?_ ?_
 rotate_left
 ·(
 intro w'
 go_simp
 with_reducible rfl)
 rotate_left
 ·(
 simp only[zP,i64_w,i32_w]
 rfl)
 refine pure_ (i:=2) (N:=some 19) (v:=?_) (a':=?_) (bN 10 7) rfl rfl (any_of b.out (by kernel_rfl)) (fun _ _ _ h=>h) (Or.inl ⟨by rfl,?_⟩) ?_ ?_
 rotate_left
 ·(
 intro w'
 go_simp
 with_reducible rfl)
 rotate_left
 ·(
 simp only[zP,i64_w,i32_w]
 rfl)
 refine pure_ (i:=4) (N:=some 21) (v:=?_) (a':=?_) (bN 10 23) rfl rfl (any_of b.out (by kernel_rfl)) (fun _ _ _ h=>h) (Or.inl ⟨by rfl,?_⟩) ?_ ?_
 rotate_left
 ·(
 intro w'
 go_simp
 with_reducible rfl)
 rotate_left
 ·(
 simp only[zP,i64_w,i32_w]
 rfl)
 refine pure_ (i:=5) (N:=some 22) (v:=?_) (a':=?_) (bN 10 55) rfl rfl (any_of b.out (by kernel_rfl)) (fun _ _ _ h=>h) (Or.inl ⟨by rfl,?_⟩) ?_ ?_
 rotate_left
 ·(
 intro w'
 go_simp
 with_reducible rfl)
 rotate_left
 ·(
 simp only[zP,i64_w,i32_w]
 rfl)
 refine pure_ (i:=6) (N:=some 23) (v:=?_) (a':=?_) (bN 10 119) rfl rfl (any_of b.out (by kernel_rfl)) (fun _ _ _ h=>h) (Or.inl ⟨by rfl,?_⟩) ?_ ?_
 rotate_left
 ·(
 intro w'
 go_simp
 with_reducible rfl)
 rotate_left
 ·(
 simp only[zP,i64_w,i32_w]
 rfl)
 refine take_ (i:=3) (N:=some 20) (v:=?_) (a':=?_) (bN 10 127) rfl rfl (take_ofW b.out ad.out (by kernel_rfl)) (fun _ _ _ h=>h) (Or.inl ⟨by rfl,?_⟩) hHeld ?_ ?_
 rotate_left
 ·(
 rintro w' ⟨s0,s1,s2,s3,s4,s5,s6,s7,s8,s9⟩
 go_simp
 with_reducible rfl)
 rotate_left
 ·(
 simp only[zP,i64_w,i32_w]
 rfl)
 refine take_ (i:=7) (N:=some 24) (v:=?_) (a':=?_) (bN 10 255) rfl rfl (take_ofW b.out ad.out (by kernel_rfl)) (fun _ _ _ h=>h) (Or.inl ⟨by rfl,?_⟩) hHeld ?_ ?_
 rotate_left
 ·(
 rintro w' ⟨s0,s1,s2,s3,s4,s5,s6,s7,s8,s9⟩
 go_simp
 with_reducible rfl)
 rotate_left
 ·(
 simp only[zP,i64_w,i32_w]
 rfl)
 refine one_ (i:=8) (N:=some 25) (bN 10 511) rfl rfl (one_of b.out (by kernel_rfl)) (by decide) (fun K hK=>?_)
 refine goes_ Try.func31 (by kernel_rfl) rfl #[.agg #[.string ((rd_T52 l0 a).f0),.int .i64 ((rd_T52 l0 a).f1.f0),.int .i64 ((rd_T52 l0 a).f1.f1),.string ((rd_T52 l0 a).f1.f2),.slice T ((rd_T52 l0 a).f1.f3).length U],.agg #[.string ((rd_T52 l1 a).f0),.int .i64 ((rd_T52 l1 a).f1.f0),.int .i64 ((rd_T52 l1 a).f1.f1),.string ((rd_T52 l1 a).f1.f2),.slice Y ((rd_T52 l1 a).f1.f3).length Z]] (by rfl) rfl rfl (by(try simp only[List.map_toArray,List.map_cons,List.map_nil]);first|done|rfl|(simp only[List.length_drop,List.length_take];rfl)) ?_
 with_reducible refine(laws_eqNamed.calls k1 ((rd_T52 l0 a).f0) ((rd_T52 l0 a).f1.f0) ((rd_T52 l0 a).f1.f1) ((rd_T52 l0 a).f1.f2) _ _ ((rd_T52 l0 a).f1.f3) ((rd_T52 l1 a).f0) ((rd_T52 l1 a).f1.f0) ((rd_T52 l1 a).f1.f1) ((rd_T52 l1 a).f1.f2) _ _ ((rd_T52 l1 a).f1.f3) true _ ?side1 ?side2 ?side3 ?side4 A7.out).mono ?_
 (case side1=>exact sD (zC X.out HB.out))
 (case side2=>exact af.out)
 (case side3=>exact sD (zC ac.out HB.out))
 (case side4=>exact ah.out)
 rintro e ap ⟨rfl,hb⟩
 refine⟨_,rfl,?_⟩
 replace HB:=sB HB hb
 (try clear hb)
 (try clear hb2)
 (try clear hk)
 (try clear hi)
 refine hK.out _ _ ⟨((HB.out.cell (zL w _ y)).trans y),((HB.out.cell (zL w _ x)).trans x),((HB.out.cell (zL w _ u)).trans u),((HB.out.cell (zL w _ s)).trans s),((HB.out.cell (zL w _ q)).trans q),((HB.out.cell (zL w _ L)).trans L),((HB.out.cell (zL w _ J)).trans J),((HB.out.cell (zL w _ I)).trans I),((HB.out.cell (zL w _ G)).trans G),((HB.out.cell (zL w _ F)).trans F)⟩ (fun hHeld=>?_)
 clear hK K
 refine norm_ (a':=?_) ?_ ?_
 rotate_left
 ·(
 show Act.put _ (some 25) _=_
 simp only[zP,i64_w,i32_w]
 rfl)
 refine pure_ (i:=9) (N:=some 26) (v:=?_) (a':=?_) (bN 10 1023) rfl rfl (any_of b.out (by kernel_rfl)) (fun _ _ _ h=>h) (Or.inl ⟨by rfl,?_⟩) ?_ ?_
 rotate_left
 ·(
 intro w'
 go_simp
 with_reducible rfl)
 rotate_left
 ·(
 simp only[zP,i64_w,i32_w]
 rfl)
 refine done_ (done_of b.out (by kernel_rfl)) ?_
 try go_wp2
 go_roundg k1
 case measure=>have:=ak.out;omega
 case rel=>exact⟨(wrap64 (a+1)),sr,H',⟨by have:=ak.out;omega⟩,⟨sb⟩⟩)
 replace c8:=zB c8
 subst c8
 rewrite[if_neg zQ]at H
 obtain rfl:=zI H
 try go_wp2
 replace HB:=zM (below_drew1 HB.out)
 have M:0≤(a:Int):=zzA
 have O:a<(l0.length:Int):=zzA
 obtain⟨c,T,U,ae,j,l,m,o,p,V,W⟩:=at_T52 ai.out a M O
 have q:=p
 have s:=o
 have u:=m
 have x:=l
 have y:=j
 cases ae
 replace j:=sX HB j
 replace l:=sX HB l
 replace m:=sX HB m
 replace o:=sX HB o
 replace p:=sX HB p
 have X:=zM W
 have af:=zM V
 clear W V
 replace M:=eq_true M
 replace O:=eq_true O
 have P:0≤(a:Int):=zzA
 have Q:a<(l1.length:Int):=zzA
 obtain⟨d,Y,Z,ag,z,A,B,D,E,aa,ab⟩:=at_T52 aj.out a P Q
 have F:=E
 have G:=D
 have I:=B
 have J:=A
 have L:=z
 cases ag
 replace z:=sX HB z
 replace A:=sX HB A
 replace B:=sX HB B
 replace D:=sX HB D
 replace E:=sX HB E
 have ac:=zM ab
 have ah:=zM aa
 clear ab aa
 replace P:=eq_true P
 replace Q:=eq_true Q
 refine start_ (n:=10) (S:=fun w'=>w'.cell? (c.add ((a).toNat*5))=some (.string ((rd_T52 l0 a).f0))∧w'.cell? ⟨(c.add ((a).toNat*5)).block,(c.add ((a).toNat*5)).off+1,none⟩=some (.int .i64 ((rd_T52 l0 a).f1.f0))∧w'.cell? ⟨(c.add ((a).toNat*5)).block,(c.add ((a).toNat*5)).off+2,none⟩=some (.int .i64 ((rd_T52 l0 a).f1.f1))∧w'.cell? ⟨(c.add ((a).toNat*5)).block,(c.add ((a).toNat*5)).off+3,none⟩=some (.string ((rd_T52 l0 a).f1.f2))∧w'.cell? ⟨(c.add ((a).toNat*5)).block,(c.add ((a).toNat*5)).off+4,none⟩=some (.slice T ((rd_T52 l0 a).f1.f3).length U)∧w'.cell? (d.add ((a).toNat*5))=some (.string ((rd_T52 l1 a).f0))∧w'.cell? ⟨(d.add ((a).toNat*5)).block,(d.add ((a).toNat*5)).off+1,none⟩=some (.int .i64 ((rd_T52 l1 a).f1.f0))∧w'.cell? ⟨(d.add ((a).toNat*5)).block,(d.add ((a).toNat*5)).off+2,none⟩=some (.int .i64 ((rd_T52 l1 a).f1.f1))∧w'.cell? ⟨(d.add ((a).toNat*5)).block,(d.add ((a).toNat*5)).off+3,none⟩=some (.string ((rd_T52 l1 a).f1.f2))∧w'.cell? ⟨(d.add ((a).toNat*5)).block,(d.add ((a).toNat*5)).off+4,none⟩=some (.slice Y ((rd_T52 l1 a).f1.f3).length Z)) (ds:=[]) #[false,false,false,false,false,false,false,false,false,false] (by kernel_rfl) rfl rfl ⟨((HB.out.cell (zL w _ y)).trans y),((HB.out.cell (zL w _ x)).trans x),((HB.out.cell (zL w _ u)).trans u),((HB.out.cell (zL w _ s)).trans s),((HB.out.cell (zL w _ q)).trans q),((HB.out.cell (zL w _ L)).trans L),((HB.out.cell (zL w _ J)).trans J),((HB.out.cell (zL w _ I)).trans I),((HB.out.cell (zL w _ G)).trans G),((HB.out.cell (zL w _ F)).trans F)⟩ (fun hHeld=>?_);refine with_tabW laws_eqNamedS.tab6 laws_eqNamedS.bits6 (fun b ad=>?_)
 generalize wr.drew=w11 at HB X ac j l m o p z A B D E hHeld ⊢
 refine pure_ (i:=0) (N:=some 17) (v:=?_) (a':=?_) (bN 10 1) rfl rfl (any_of b.out (by kernel_rfl)) (fun _ _ _ h=>h) (Or.inl ⟨by rfl,?_⟩) ?_ ?_
 rotate_left
 ·(
 intro w'
 go_simp
 with_reducible rfl)
 rotate_left
 ·(
 simp only[zP,i64_w,i32_w]
 rfl)
 refine pure_ (i:=1) (N:=some 18) (v:=?_) (a':=?_) (bN 10 3) rfl rfl (any_of b.out (by kernel_rfl)) (fun _ _ _ h=>h) (Or.inl ⟨by rfl,?_⟩) ?_ ?_
 rotate_left
 ·(
 intro w'
 go_simp
 with_reducible rfl)
 rotate_left
 ·(
 simp only[zP,i64_w,i32_w]
 rfl)
 refine pure_ (i:=2) (N:=some 19) (v:=?_) (a':=?_) (bN 10 7) rfl rfl (any_of b.out (by kernel_rfl)) (fun _ _ _ h=>h) (Or.inl ⟨by rfl,?_⟩) ?_ ?_
 rotate_left
 ·(
 intro w'
 go_simp
 with_reducible rfl)
 rotate_left
 ·(
 simp only[zP,i64_w,i32_w]
 rfl)
 refine pure_ (i:=4) (N:=some 21) (v:=?_) (a':=?_) (bN 10 23) rfl rfl (any_of b.out (by kernel_rfl)) (fun _ _ _ h=>h) (Or.inl ⟨by rfl,?_⟩) ?_ ?_
 rotate_left
 ·(
 intro w'
 go_simp
 with_reducible rfl)
 rotate_left
 ·(
 simp only[zP,i64_w,i32_w]
 rfl)
 refine pure_ (i:=5) (N:=some 22) (v:=?_) (a':=?_) (bN 10 55) rfl rfl (any_of b.out (by kernel_rfl)) (fun _ _ _ h=>h) (Or.inl ⟨by rfl,?_⟩) ?_ ?_
 rotate_left
 ·(
 intro w'
 go_simp
 with_reducible rfl)
 rotate_left
 ·(
 simp only[zP,i64_w,i32_w]
 rfl)
 refine pure_ (i:=6) (N:=some 23) (v:=?_) (a':=?_) (bN 10 119) rfl rfl (any_of b.out (by kernel_rfl)) (fun _ _ _ h=>h) (Or.inl ⟨by rfl,?_⟩) ?_ ?_
 rotate_left
 ·(
 intro w'
 go_simp
 with_reducible rfl)
 rotate_left
 ·(
 simp only[zP,i64_w,i32_w]
 rfl)
 refine take_ (i:=3) (N:=some 20) (v:=?_) (a':=?_) (bN 10 127) rfl rfl (take_ofW b.out ad.out (by kernel_rfl)) (fun _ _ _ h=>h) (Or.inl ⟨by rfl,?_⟩) hHeld ?_ ?_
 rotate_left
 ·(
 rintro w' ⟨s0,s1,s2,s3,s4,s5,s6,s7,s8,s9⟩
 go_simp
 with_reducible rfl)
 rotate_left
 ·(
 simp only[zP,i64_w,i32_w]
 rfl)
 refine take_ (i:=7) (N:=some 24) (v:=?_) (a':=?_) (bN 10 255) rfl rfl (take_ofW b.out ad.out (by kernel_rfl)) (fun _ _ _ h=>h) (Or.inl ⟨by rfl,?_⟩) hHeld ?_ ?_
 rotate_left
 ·(
 rintro w' ⟨s0,s1,s2,s3,s4,s5,s6,s7,s8,s9⟩
 go_simp
 with_reducible rfl)
 rotate_left
 ·(
 simp only[zP,i64_w,i32_w]
 rfl)
 refine one_ (i:=8) (N:=some 25) (bN 10 511) rfl rfl (one_of b.out (by kernel_rfl)) (by decide) (fun K hK=>?_)
 refine goes_ Try.func31 (by kernel_rfl) rfl #[.agg #[.string ((rd_T52 l0 a).f0),.int .i64 ((rd_T52 l0 a).f1.f0),.int .i64 ((rd_T52 l0 a).f1.f1),.string ((rd_T52 l0 a).f1.f2),.slice T ((rd_T52 l0 a).f1.f3).length U],.agg #[.string ((rd_T52 l1 a).f0),.int .i64 ((rd_T52 l1 a).f1.f0),.int .i64 ((rd_T52 l1 a).f1.f1),.string ((rd_T52 l1 a).f1.f2),.slice Y ((rd_T52 l1 a).f1.f3).length Z]] (by rfl) rfl rfl (by(try simp only[List.map_toArray,List.map_cons,List.map_nil]);first|done|rfl|(simp only[List.length_drop,List.length_take];rfl)) ?_
 with_reducible refine(laws_eqNamed.calls k1 ((rd_T52 l0 a).f0) ((rd_T52 l0 a).f1.f0) ((rd_T52 l0 a).f1.f1) ((rd_T52 l0 a).f1.f2) _ _ ((rd_T52 l0 a).f1.f3) ((rd_T52 l1 a).f0) ((rd_T52 l1 a).f1.f0) ((rd_T52 l1 a).f1.f1) ((rd_T52 l1 a).f1.f2) _ _ ((rd_T52 l1 a).f1.f3) false _ ?side1 ?side2 ?side3 ?side4 A7.out).mono ?_
 (case side1=>exact sD (zC X.out HB.out))
 (case side2=>exact af.out)
 (case side3=>exact sD (zC ac.out HB.out))
 (case side4=>exact ah.out)
 rintro e aq ⟨rfl,hb⟩
 refine⟨_,rfl,?_⟩
 replace HB:=sB HB hb
 (try clear hb)
 (try clear hb2)
 (try clear hk)
 (try clear hi)
 refine hK.out _ _ ⟨((HB.out.cell (zL w _ y)).trans y),((HB.out.cell (zL w _ x)).trans x),((HB.out.cell (zL w _ u)).trans u),((HB.out.cell (zL w _ s)).trans s),((HB.out.cell (zL w _ q)).trans q),((HB.out.cell (zL w _ L)).trans L),((HB.out.cell (zL w _ J)).trans J),((HB.out.cell (zL w _ I)).trans I),((HB.out.cell (zL w _ G)).trans G),((HB.out.cell (zL w _ F)).trans F)⟩ (fun hHeld=>?_)
 clear hK K
 refine norm_ (a':=?_) ?_ ?_
 rotate_left
 ·(
 show Act.put _ (some 25) _=_
 simp only[zP,i64_w,i32_w]
 rfl)
 refine pure_ (i:=9) (N:=some 26) (v:=?_) (a':=?_) (bN 10 1023) rfl rfl (any_of b.out (by kernel_rfl)) (fun _ _ _ h=>h) (Or.inl ⟨by rfl,?_⟩) ?_ ?_
 rotate_left
 ·(
 intro w'
 go_simp
 with_reducible rfl)
 rotate_left
 ·(
 simp only[zP,i64_w,i32_w]
 rfl)
 refine done_ (done_of b.out (by kernel_rfl)) ?_
 try go_wp2
 go_ret
 exact⟨sq,sb⟩)
 rw[if_neg c6]at H
 exact absurd H (by simp))
 rw[if_neg c5]at H
 exact absurd H (by simp))
 rw[if_neg R]at H
 have c4b0:=zF R
 clear R
 obtain rfl:=zI H
 go_wp2
 go_ret
 exact⟨sq,sb⟩)))
 rw[if_neg g]at H
 have c3b0:((l0.length:Int)==(l1.length:Int))=false:=zN g
 have c3b1:((l0.length:Int) !=(l1.length:Int))=true:=zX g
 have c3b2:(l0.length==l1.length)=false:=by first|simpa using g|(simp at g ⊢;omega)
 obtain rfl:=zI H
 go_enter Try.func11,Try.ntmps11
 go_wp2
 go_ret
 exact⟨sq,sb⟩
end Go.Proofs.Ytdihlgkcpooadaa.PFnExactIsPure
