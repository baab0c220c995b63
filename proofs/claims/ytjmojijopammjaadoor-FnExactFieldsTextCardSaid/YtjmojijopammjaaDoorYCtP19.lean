/- Printed functions: laws_eqField, laws_eqFieldS. -/
import Derived.Test.YtjmojijopammjaaDoorYCtP0
namespace Go.Proofs.YtjmojijopammjaaDoor.PFnExactCaptureText
open Go.RowKit Go.Proofs.YtjmojijopammjaaDoorG Go.Proofs.YtjmojijopammjaaDoorW.PrintWords Go.Proofs.YtjmojijopammjaaDoorW.PrintLast Go.Proofs.YtjmojijopammjaaDoorW.PrintMore
attribute [local go_sem] max2_int min2_int max_two min_two max_three min_three max_four min_four
set_option linter.unusedVariables false
set_option linter.unusedSimpArgs false
def laws_eqField.f (a0_0:Bool) (a0_1:Int) (a0_2:ByteArray) (a1_0:Bool) (a1_1:Int) (a1_2:ByteArray):Option (Bool):=if(a0_0 !=a1_0)=true then(some false)else(if a0_1=a1_1 then(if a0_2.toList=a1_2.toList then(some true)else(some false))else(some false))
set_option maxHeartbeats 8000000 in
set_option maxRecDepth 100000 in
theorem laws_eqField.calls (a0_0:Bool) (a0_1:Int) (a0_2:ByteArray) (a1_0:Bool) (a1_1:Int) (a1_2:ByteArray) (r:Bool) (w:World) (h:laws_eqField.f a0_0 a0_1 a0_2 a1_0 a1_1 a1_2=some r):
  Calls Tryd.prog 48 #[.agg #[.bool a0_0,.int .i64 a0_1,.string a0_2],.agg #[.bool a1_0,.int .i64 a1_1,.string a1_2]] w fun e w'=>e= .returned (.bool r)∧Below w.heap.size w w':=by
 have x:=Tryd.underlying64
 have HB:=zM (Below.refl w.heap.size w)
 have H:(if(a0_0 !=a1_0)=true then(some false)else(if a0_1=a1_1 then(if a0_2.toList=a1_2.toList then(some true)else(some false))else(some false)))=some r:=h
 clear h
 by_cases b:(a0_0 !=a1_0)=true
 ·(
 rw[if_pos b]at H
 have c3b0:(a0_0 !=a1_0)=true:=b
 (try(have c3b1:decide (a0_0=a1_0)=false:=by simpa using b))
 (try(have c3b2:(a0_0==a1_0)=false:=by simpa using b))
 (try(have c3b3:¬(a0_0=a1_0):=by simpa using b))
 clear b
 obtain rfl:=zI H
 go_enter Tryd.func48,Tryd.ntmps48
 go_wp2_with (first|((with_reducible refine gate_dst (N:=2) rfl ?_);refine sV (N:=2) (cs:= #[.bool a0_0,.int .i64 a0_1,.string a0_2]) (t:=64) ?_;intro m hg y hbox hb;have a:=zM (hbox);have o:=sG HB hg;have p:=sG HB hg;replace HB:=sB HB hb;clear hb hbox hg)|((with_reducible refine gate_dst (N:=3) rfl ?_);refine sV (N:=3) (cs:= #[.bool a1_0,.int .i64 a1_1,.string a1_2]) (t:=64) ?_;intro q hg z hbox hb;have c:=zM (hbox);have s:=sG HB hg;have u:=sG HB hg;replace HB:=sB HB hb;have d:=sN a hg;have g:=sM a hg;replace a:=sK a hb;clear hb hbox hg;have A:=d.out;have B:=g.out;obtain⟨D,E,F,G,I,J⟩:=cells3 a.out;obtain⟨L,M,O,P,Q,R⟩:=cells3 c.out))
 go_ret
 exact⟨sq,sb⟩)
 rw[if_neg b]at H
 have c3b0:(a0_0 !=a1_0)=false:=by simpa using b
 (try(have c3b1:decide (a0_0=a1_0)=true:=by simpa using b))
 (try(have c3b2:(a0_0==a1_0)=true:=by simpa using b))
 clear b
 by_cases j:a0_1=a1_1
 ·(
 rw[if_pos j]at H
 have c9b0:(a0_1==a1_1)=true:=zE j
 have c9b1:(a0_1 !=a1_1)=false:=zY j
 clear j
 by_cases l:a0_2.toList=a1_2.toList
 ·(
 rw[if_pos l]at H
 have c10b0:(a0_2.toList==a1_2.toList)=true:=zE l
 have c10b1:(a0_2.toList !=a1_2.toList)=false:=zY l
 clear l
 obtain rfl:=zI H
 go_enter Tryd.func48,Tryd.ntmps48
 go_wp2_with (first|((with_reducible refine gate_dst (N:=2) rfl ?_);refine sV (N:=2) (cs:= #[.bool a0_0,.int .i64 a0_1,.string a0_2]) (t:=64) ?_;intro m hg T hbox hb;have a:=zM (hbox);have o:=sG HB hg;have p:=sG HB hg;replace HB:=sB HB hb;clear hb hbox hg)|((with_reducible refine gate_dst (N:=3) rfl ?_);refine sV (N:=3) (cs:= #[.bool a1_0,.int .i64 a1_1,.string a1_2]) (t:=64) ?_;intro q hg U hbox hb;have c:=zM (hbox);have s:=sG HB hg;have u:=sG HB hg;replace HB:=sB HB hb;have d:=sN a hg;have g:=sM a hg;replace a:=sK a hb;clear hb hbox hg;have V:=d.out;have W:=g.out;obtain⟨X,Y,Z,aa,ab,ac⟩:=cells3 a.out;obtain⟨ad,ae,af,ag,ah,ai⟩:=cells3 c.out))
 go_ret
 exact⟨sq,sb⟩)
 rw[if_neg l]at H
 have c10b0:(a0_2.toList==a1_2.toList)=false:=zN l
 have c10b1:(a0_2.toList !=a1_2.toList)=true:=zX l
 obtain rfl:=zI H
 go_enter Tryd.func48,Tryd.ntmps48
 go_wp2_with (first|((with_reducible refine gate_dst (N:=2) rfl ?_);refine sV (N:=2) (cs:= #[.bool a0_0,.int .i64 a0_1,.string a0_2]) (t:=64) ?_;intro m hg aj hbox hb;have a:=zM (hbox);have o:=sG HB hg;have p:=sG HB hg;replace HB:=sB HB hb;clear hb hbox hg)|((with_reducible refine gate_dst (N:=3) rfl ?_);refine sV (N:=3) (cs:= #[.bool a1_0,.int .i64 a1_1,.string a1_2]) (t:=64) ?_;intro q hg ak hbox hb;have c:=zM (hbox);have s:=sG HB hg;have u:=sG HB hg;replace HB:=sB HB hb;have d:=sN a hg;have g:=sM a hg;replace a:=sK a hb;clear hb hbox hg;have al:=d.out;have am:=g.out;obtain⟨an,ao,ap,aq,ar,au⟩:=cells3 a.out;obtain⟨av,aw,ax,ay,az,aA⟩:=cells3 c.out))
 go_ret
 exact⟨sq,sb⟩)
 rw[if_neg j]at H
 have c9b0:(a0_1==a1_1)=false:=zN j
 have c9b1:(a0_1 !=a1_1)=true:=zX j
 obtain rfl:=zI H
 go_enter Tryd.func48,Tryd.ntmps48
 go_wp2_with (first|((with_reducible refine gate_dst (N:=2) rfl ?_);refine sV (N:=2) (cs:= #[.bool a0_0,.int .i64 a0_1,.string a0_2]) (t:=64) ?_;intro m hg aB hbox hb;have a:=zM (hbox);have o:=sG HB hg;have p:=sG HB hg;replace HB:=sB HB hb;clear hb hbox hg)|((with_reducible refine gate_dst (N:=3) rfl ?_);refine sV (N:=3) (cs:= #[.bool a1_0,.int .i64 a1_1,.string a1_2]) (t:=64) ?_;intro q hg aC hbox hb;have c:=zM (hbox);have s:=sG HB hg;have u:=sG HB hg;replace HB:=sB HB hb;have d:=sN a hg;have g:=sM a hg;replace a:=sK a hb;clear hb hbox hg;have aD:=d.out;have aE:=g.out;obtain⟨aF,aG,aH,aI,aJ,aK⟩:=cells3 a.out;obtain⟨aL,aM,aN,aO,aP,aQ⟩:=cells3 c.out))
 go_ret
 exact⟨sq,sb⟩
def laws_eqFieldS.l0 : Nat → List (S64) → List (S64) → Int → Option (Bool)
 |0,_,_,_=>none
 |k+1,x0,x1,x5=>if x5<(x0.length:Int)then(if 0≤x5 then(if x5<(x1.length:Int)then((laws_eqField.f ((rd_T64 x0 x5).f0) ((rd_T64 x0 x5).f1) ((rd_T64 x0 x5).f2) ((rd_T64 x1 x5).f0) ((rd_T64 x1 x5).f1) ((rd_T64 x1 x5).f2)).bind fun t306=>(if t306=true then(laws_eqFieldS.l0 k x0 x1 (wrap64 (x5+1)))else(some false)))else(none))else(none))else(some true)
def laws_eqFieldS.f (k:Nat) (l0:List (S64)) (l1:List (S64)):Option (Bool):=if(l0.length:Int)=(l1.length:Int)then(laws_eqFieldS.l0 k l0 l1 0)else(some false)
def laws_eqFieldS.T6:Bool×List (List Nat×List Nat):=(true,[([],[]),([],[]),([0,1],[0,1]),([2],[2]),([],[]),([],[]),([4,5],[4,5]),([6],[6]),([3,7],[3,7]),([8],[8])])
def laws_eqFieldS.B6:List Nat:=[0,0,3,7,0,0,48,112,255,511]
theorem laws_eqFieldS.tab6:rtab .any (opsOf Tryd.f17 6)=laws_eqFieldS.T6:=by kernel_rfl
theorem laws_eqFieldS.bits6:waitsOk laws_eqFieldS.T6.2 laws_eqFieldS.B6=true:=by kernel_rfl
set_option maxHeartbeats 8000000 in
set_option maxRecDepth 100000 in
theorem laws_eqFieldS.calls (k:Nat) (A0:Option Addr) (c0:Nat) (l0:List (S64)) (A1:Option Addr) (c1:Nat) (l1:List (S64)) (r:Bool) (w:World) (hr0:Kd.C k64 w A0 l0.length l0) (hc0:l0.length≤c0) (hr1:Kd.C k64 w A1 l1.length l1) (hc1:l1.length≤c1) (h:laws_eqFieldS.f k l0 l1=some r):
  Calls Tryd.prog 17 #[.slice A0 l0.length c0,.slice A1 l1.length c1] w fun e w'=>e= .returned (.bool r)∧Below w.heap.size w w':=by
 have ab:=Tryd.underlying64
 have X:=zM hr0
 have ac:=zM hc0
 clear hr0 hc0
 have Y:=zM hr1
 have ad:=zM hc1
 clear hr1 hc1
 have HB:=zM (Below.refl w.heap.size w)
 have H:(if(l0.length:Int)=(l1.length:Int)then(laws_eqFieldS.l0 k l0 l1 0)else(some false))=some r:=h
 clear h
 by_cases c:(l0.length:Int)=(l1.length:Int)
 ·(
 rw[if_pos c]at H
 have c3b0:((l0.length:Int)==(l1.length:Int))=true:=zE c
 have c3b1:((l0.length:Int) !=(l1.length:Int))=false:=zY c
 have c3b2:(l0.length==l1.length)=true:=by first|simpa using c|(simp at c ⊢;omega)
 clear c
 have H':=zM H
 clear H
 go_enter Tryd.func17,Tryd.ntmps17
 go_wp2
 go_loopg [5] k (fun kq v5 w'=>∃(a:Int),v5= .int .i64 a∧Aside0 (laws_eqFieldS.l0 kq l0 l1 a=some r)∧Aside0 (kq≤k)∧Aside0 (Below w.heap.size w w'))
 case atStart=>exact⟨(0),sr,H',⟨Nat.le_refl _⟩,⟨sb⟩⟩
 case round=>(
 clear H'
 try clear c1
 try clear c
 try clear c3b0
 try clear c3b1
 try clear c3b2
 obtain⟨a,rfl,HA,Z,HB⟩:=hrel
 cases gk with
 |zero=>exact absurd HA.out (by simp[laws_eqFieldS.l0])
 |succ k1=>(
 have H:=HA.out
 clear HA
 simp only[laws_eqFieldS.l0]at H
 by_cases G:a<(l0.length:Int)
 ·(
 rw[if_pos G]at H
 have c4b0:=zT G
 clear G
 by_cases J:0≤a
 ·(
 rw[if_pos J]at H
 have c5b0:=zT J
 clear J
 by_cases L:a<(l1.length:Int)
 ·(
 rw[if_pos L]at H
 have c6b0:=zT L
 clear L
 obtain⟨aa,A7,H⟩:=sO H
 by_cases M:aa=true
 ·(
 subst M
 rewrite[if_pos rfl]at H
 have H':=zM H
 clear H
 try go_wp2
 replace HB:=zM (below_drew1 HB.out)
 have B:0≤(a:Int):=zzA
 have D:a<(l0.length:Int):=zzA
 obtain⟨d,O,j,l,m⟩:=at_T64 X.out a B D
 have o:=m
 have p:=l
 have q:=j
 cases O
 replace j:=sX HB j
 replace l:=sX HB l
 replace m:=sX HB m
 replace B:=eq_true B
 replace D:=eq_true D
 have E:0≤(a:Int):=zzA
 have F:a<(l1.length:Int):=zzA
 obtain⟨g,P,s,u,x⟩:=at_T64 Y.out a E F
 have y:=x
 have z:=u
 have A:=s
 cases P
 replace s:=sX HB s
 replace u:=sX HB u
 replace x:=sX HB x
 replace E:=eq_true E
 replace F:=eq_true F
 refine start_ (n:=10) (S:=fun w'=>w'.cell? (d.add ((a).toNat*3))=some (.bool ((rd_T64 l0 a).f0))∧w'.cell? ⟨(d.add ((a).toNat*3)).block,(d.add ((a).toNat*3)).off+1,none⟩=some (.int .i64 ((rd_T64 l0 a).f1))∧w'.cell? ⟨(d.add ((a).toNat*3)).block,(d.add ((a).toNat*3)).off+2,none⟩=some (.string ((rd_T64 l0 a).f2))∧w'.cell? (g.add ((a).toNat*3))=some (.bool ((rd_T64 l1 a).f0))∧w'.cell? ⟨(g.add ((a).toNat*3)).block,(g.add ((a).toNat*3)).off+1,none⟩=some (.int .i64 ((rd_T64 l1 a).f1))∧w'.cell? ⟨(g.add ((a).toNat*3)).block,(g.add ((a).toNat*3)).off+2,none⟩=some (.string ((rd_T64 l1 a).f2))) (ds:=[]) #[false,false,false,false,false,false,false,false,false,false] (by kernel_rfl) rfl rfl ⟨((HB.out.cell (zL w _ q)).trans q),((HB.out.cell (zL w _ p)).trans p),((HB.out.cell (zL w _ o)).trans o),((HB.out.cell (zL w _ A)).trans A),((HB.out.cell (zL w _ z)).trans z),((HB.out.cell (zL w _ y)).trans y)⟩ (fun hHeld=>?_);refine with_tabW laws_eqFieldS.tab6 laws_eqFieldS.bits6 (fun b I=>?_)
 generalize wr.drew=w9 at HB j l m s u x hHeld ⊢
 refine pure_ (i:=0) (N:=some 17) (v:=?_) (a':=?_) (bN 10 1) rfl rfl (any_of b.out (by kernel_rfl)) (fun _ _ _ h=>h) (Or.inl ⟨by rfl,?_⟩) ?_ ?_
 rotate_left
 ·(
 intro w'
 go_simp
 with_reducible rfl)
 rotate_left
 ·(
 simp only[zP,i64_w,i32_w]
 rfl)
 refine pure_ (i:=1) (N:=some 18) (v:=?_) (a':=?_) (bN 10 3) rfl rfl (any_of b.out (by kernel_rfl)) (fun _ _ _ h=>h) (Or.inl ⟨by rfl,?_⟩) ?_ ?_
 rotate_left
 ·(
 intro w'
 go_simp
 with_reducible rfl)
 rotate_left
 ·(
 simp only[zP,i64_w,i32_w]
 rfl)
 refine pure_ (i:=2) (N:=some 19) (v:=?_) (a':=?_) (bN 10 7) rfl rfl (any_of b.out (by kernel_rfl)) (fun _ _ _ h=>h) (Or.inl ⟨by rfl,?_⟩) ?_ ?_
 rotate_left
 ·(
 intro w'
 go_simp
 with_reducible rfl)
 rotate_left
 ·(
 simp only[zP,i64_w,i32_w]
 rfl)
 refine pure_ (i:=4) (N:=some 21) (v:=?_) (a':=?_) (bN 10 23) rfl rfl (any_of b.out (by kernel_rfl)) (fun _ _ _ h=>h) (Or.inl ⟨by rfl,?_⟩) ?_ ?_
 rotate_left
 ·(
 intro w'
 go_simp
 with_reducible rfl)
 rotate_left
 ·(
 simp only[zP,i64_w,i32_w]
 rfl)
 refine pure_ (i:=5) (N:=some 22) (v:=?_) (a':=?_) (bN 10 55) rfl rfl (any_of b.out (by kernel_rfl)) (fun _ _ _ h=>h) (Or.inl ⟨by rfl,?_⟩) ?_ ?_
 rotate_left
 ·(
 intro w'
 go_simp
 with_reducible rfl)
 rotate_left
 ·(
 simp only[zP,i64_w,i32_w]
 rfl)
 refine pure_ (i:=6) (N:=some 23) (v:=?_) (a':=?_) (bN 10 119) rfl rfl (any_of b.out (by kernel_rfl)) (fun _ _ _ h=>h) (Or.inl ⟨by rfl,?_⟩) ?_ ?_
 rotate_left
 ·(
 intro w'
 go_simp
 with_reducible rfl)
 rotate_left
 ·(
 simp only[zP,i64_w,i32_w]
 rfl)
 refine take_ (i:=3) (N:=some 20) (v:=?_) (a':=?_) (bN 10 127) rfl rfl (take_ofW b.out I.out (by kernel_rfl)) (fun _ _ _ h=>h) (Or.inl ⟨by rfl,?_⟩) hHeld ?_ ?_
 rotate_left
 ·(
 rintro w' ⟨Q,R,T,U,V,W⟩
 go_simp
 with_reducible rfl)
 rotate_left
 ·(
 simp only[zP,i64_w,i32_w]
 rfl)
 refine take_ (i:=7) (N:=some 24) (v:=?_) (a':=?_) (bN 10 255) rfl rfl (take_ofW b.out I.out (by kernel_rfl)) (fun _ _ _ h=>h) (Or.inl ⟨by rfl,?_⟩) hHeld ?_ ?_
 rotate_left
 ·(
 rintro w' ⟨Q,R,T,U,V,W⟩
 go_simp
 with_reducible rfl)
 rotate_left
 ·(
 simp only[zP,i64_w,i32_w]
 rfl)
 refine one_ (i:=8) (N:=some 25) (bN 10 511) rfl rfl (one_of b.out (by kernel_rfl)) (by decide) (fun K hK=>?_)
 refine goes_ Tryd.func48 (by kernel_rfl) rfl #[.agg #[.bool ((rd_T64 l0 a).f0),.int .i64 ((rd_T64 l0 a).f1),.string ((rd_T64 l0 a).f2)],.agg #[.bool ((rd_T64 l1 a).f0),.int .i64 ((rd_T64 l1 a).f1),.string ((rd_T64 l1 a).f2)]] (by rfl) rfl rfl (by(try simp only[List.map_toArray,List.map_cons,List.map_nil]);first|done|rfl|(simp only[List.length_drop,List.length_take];rfl)) ?_
 with_reducible refine(laws_eqField.calls ((rd_T64 l0 a).f0) ((rd_T64 l0 a).f1) ((rd_T64 l0 a).f2) ((rd_T64 l1 a).f0) ((rd_T64 l1 a).f1) ((rd_T64 l1 a).f2) true _ A7.out).mono ?_
 rintro e ae ⟨rfl,hb⟩
 refine⟨_,rfl,?_⟩
 replace HB:=sB HB hb
 (try clear hb)
 (try clear hb2)
 (try clear hk)
 (try clear hi)
 refine hK.out _ _ ⟨((HB.out.cell (zL w _ q)).trans q),((HB.out.cell (zL w _ p)).trans p),((HB.out.cell (zL w _ o)).trans o),((HB.out.cell (zL w _ A)).trans A),((HB.out.cell (zL w _ z)).trans z),((HB.out.cell (zL w _ y)).trans y)⟩ (fun hHeld=>?_)
 clear hK K
 refine norm_ (a':=?_) ?_ ?_
 rotate_left
 ·(
 show Act.put _ (some 25) _=_
 simp only[zP,i64_w,i32_w]
 rfl)
 refine pure_ (i:=9) (N:=some 26) (v:=?_) (a':=?_) (bN 10 1023) rfl rfl (any_of b.out (by kernel_rfl)) (fun _ _ _ h=>h) (Or.inl ⟨by rfl,?_⟩) ?_ ?_
 rotate_left
 ·(
 intro w'
 go_simp
 with_reducible rfl)
 rotate_left
 ·(
 simp only[zP,i64_w,i32_w]
 rfl)
 refine done_ (done_of b.out (by kernel_rfl)) ?_
 try go_wp2
 go_roundg k1
 case measure=>have:=Z.out;omega
 case rel=>exact⟨(wrap64 (a+1)),sr,H',⟨by have:=Z.out;omega⟩,⟨sb⟩⟩)
 replace M:=zB M
 subst M
 rewrite[if_neg zQ]at H
 obtain rfl:=zI H
 try go_wp2
 replace HB:=zM (below_drew1 HB.out)
 have B:0≤(a:Int):=zzA
 have D:a<(l0.length:Int):=zzA
 obtain⟨d,O,j,l,m⟩:=at_T64 X.out a B D
 have o:=m
 have p:=l
 have q:=j
 cases O
 replace j:=sX HB j
 replace l:=sX HB l
 replace m:=sX HB m
 replace B:=eq_true B
 replace D:=eq_true D
 have E:0≤(a:Int):=zzA
 have F:a<(l1.length:Int):=zzA
 obtain⟨g,P,s,u,x⟩:=at_T64 Y.out a E F
 have y:=x
 have z:=u
 have A:=s
 cases P
 replace s:=sX HB s
 replace u:=sX HB u
 replace x:=sX HB x
 replace E:=eq_true E
 replace F:=eq_true F
 refine start_ (n:=10) (S:=fun w'=>w'.cell? (d.add ((a).toNat*3))=some (.bool ((rd_T64 l0 a).f0))∧w'.cell? ⟨(d.add ((a).toNat*3)).block,(d.add ((a).toNat*3)).off+1,none⟩=some (.int .i64 ((rd_T64 l0 a).f1))∧w'.cell? ⟨(d.add ((a).toNat*3)).block,(d.add ((a).toNat*3)).off+2,none⟩=some (.string ((rd_T64 l0 a).f2))∧w'.cell? (g.add ((a).toNat*3))=some (.bool ((rd_T64 l1 a).f0))∧w'.cell? ⟨(g.add ((a).toNat*3)).block,(g.add ((a).toNat*3)).off+1,none⟩=some (.int .i64 ((rd_T64 l1 a).f1))∧w'.cell? ⟨(g.add ((a).toNat*3)).block,(g.add ((a).toNat*3)).off+2,none⟩=some (.string ((rd_T64 l1 a).f2))) (ds:=[]) #[false,false,false,false,false,false,false,false,false,false] (by kernel_rfl) rfl rfl ⟨((HB.out.cell (zL w _ q)).trans q),((HB.out.cell (zL w _ p)).trans p),((HB.out.cell (zL w _ o)).trans o),((HB.out.cell (zL w _ A)).trans A),((HB.out.cell (zL w _ z)).trans z),((HB.out.cell (zL w _ y)).trans y)⟩ (fun hHeld=>?_);refine with_tabW laws_eqFieldS.tab6 laws_eqFieldS.bits6 (fun b I=>?_)
 generalize wr.drew=w11 at HB j l m s u x hHeld ⊢
 refine pure_ (i:=0) (N:=some 17) (v:=?_) (a':=?_) (bN 10 1) rfl rfl (any_of b.out (by kernel_rfl)) (fun _ _ _ h=>h) (Or.inl ⟨by rfl,?_⟩) ?_ ?_
 rotate_left
 ·(
 intro w'
 go_simp
 with_reducible rfl)
 rotate_left
 ·(
 simp only[zP,i64_w,i32_w]
 rfl)
 refine pure_ (i:=1) (N:=some 18) (v:=?_) (a':=?_) (bN 10 3) rfl rfl (any_of b.out (by kernel_rfl)) (fun _ _ _ h=>h) (Or.inl ⟨by rfl,?_⟩) ?_ ?_
 rotate_left
 ·(
 intro w'
 go_simp
 with_reducible rfl)
 rotate_left
 ·(
 simp only[zP,i64_w,i32_w]
 rfl)
 refine pure_ (i:=2) (N:=some 19) (v:=?_) (a':=?_) (bN 10 7) rfl rfl (any_of b.out (by kernel_rfl)) (fun _ _ _ h=>h) (Or.inl ⟨by rfl,?_⟩) ?_ ?_
 rotate_left
 ·(
 intro w'
 go_simp
 with_reducible rfl)
 rotate_left
 ·(
 simp only[zP,i64_w,i32_w]
 rfl)
 refine pure_ (i:=4) (N:=some 21) (v:=?_) (a':=?_) (bN 10 23) rfl rfl (any_of b.out (by kernel_rfl)) (fun _ _ _ h=>h) (Or.inl ⟨by rfl,?_⟩) ?_ ?_
 rotate_left
 ·(
 intro w'
 go_simp
 with_reducible rfl)
 rotate_left
 ·(
 simp only[zP,i64_w,i32_w]
 rfl)
 refine pure_ (i:=5) (N:=some 22) (v:=?_) (a':=?_) (bN 10 55) rfl rfl (any_of b.out (by kernel_rfl)) (fun _ _ _ h=>h) (Or.inl ⟨by rfl,?_⟩) ?_ ?_
 rotate_left
 ·(
 intro w'
 go_simp
 with_reducible rfl)
 rotate_left
 ·(
 simp only[zP,i64_w,i32_w]
 rfl)
 refine pure_ (i:=6) (N:=some 23) (v:=?_) (a':=?_) (bN 10 119) rfl rfl (any_of b.out (by kernel_rfl)) (fun _ _ _ h=>h) (Or.inl ⟨by rfl,?_⟩) ?_ ?_
 rotate_left
 ·(
 intro w'
 go_simp
 with_reducible rfl)
 rotate_left
 ·(
 simp only[zP,i64_w,i32_w]
 rfl)
 refine take_ (i:=3) (N:=some 20) (v:=?_) (a':=?_) (bN 10 127) rfl rfl (take_ofW b.out I.out (by kernel_rfl)) (fun _ _ _ h=>h) (Or.inl ⟨by rfl,?_⟩) hHeld ?_ ?_
 rotate_left
 ·(
 rintro w' ⟨Q,R,T,U,V,W⟩
 go_simp
 with_reducible rfl)
 rotate_left
 ·(
 simp only[zP,i64_w,i32_w]
 rfl)
 refine take_ (i:=7) (N:=some 24) (v:=?_) (a':=?_) (bN 10 255) rfl rfl (take_ofW b.out I.out (by kernel_rfl)) (fun _ _ _ h=>h) (Or.inl ⟨by rfl,?_⟩) hHeld ?_ ?_
 rotate_left
 ·(
 rintro w' ⟨Q,R,T,U,V,W⟩
 go_simp
 with_reducible rfl)
 rotate_left
 ·(
 simp only[zP,i64_w,i32_w]
 rfl)
 refine one_ (i:=8) (N:=some 25) (bN 10 511) rfl rfl (one_of b.out (by kernel_rfl)) (by decide) (fun K hK=>?_)
 refine goes_ Tryd.func48 (by kernel_rfl) rfl #[.agg #[.bool ((rd_T64 l0 a).f0),.int .i64 ((rd_T64 l0 a).f1),.string ((rd_T64 l0 a).f2)],.agg #[.bool ((rd_T64 l1 a).f0),.int .i64 ((rd_T64 l1 a).f1),.string ((rd_T64 l1 a).f2)]] (by rfl) rfl rfl (by(try simp only[List.map_toArray,List.map_cons,List.map_nil]);first|done|rfl|(simp only[List.length_drop,List.length_take];rfl)) ?_
 with_reducible refine(laws_eqField.calls ((rd_T64 l0 a).f0) ((rd_T64 l0 a).f1) ((rd_T64 l0 a).f2) ((rd_T64 l1 a).f0) ((rd_T64 l1 a).f1) ((rd_T64 l1 a).f2) false _ A7.out).mono ?_
 rintro e af ⟨rfl,hb⟩
 refine⟨_,rfl,?_⟩
 replace HB:=sB HB hb
 (try clear hb)
 (try clear hb2)
 (try clear hk)
 (try clear hi)
 refine hK.out _ _ ⟨((HB.out.cell (zL w _ q)).trans q),((HB.out.cell (zL w _ p)).trans p),((HB.out.cell (zL w _ o)).trans o),((HB.out.cell (zL w _ A)).trans A),((HB.out.cell (zL w _ z)).trans z),((HB.out.cell (zL w _ y)).trans y)⟩ (fun hHeld=>?_)
 clear hK K
 refine norm_ (a':=?_) ?_ ?_
 rotate_left
 ·(
 show Act.put _ (some 25) _=_
 simp only[zP,i64_w,i32_w]
 rfl)
 refine pure_ (i:=9) (N:=some 26) (v:=?_) (a':=?_) (bN 10 1023) rfl rfl (any_of b.out (by kernel_rfl)) (fun _ _ _ h=>h) (Or.inl ⟨by rfl,?_⟩) ?_ ?_
 rotate_left
 ·(
 intro w'
 go_simp
 with_reducible rfl)
 rotate_left
 ·(
 simp only[zP,i64_w,i32_w]
 rfl)
 refine done_ (done_of b.out (by kernel_rfl)) ?_
 try go_wp2
 go_ret
 exact⟨sq,sb⟩)
 rw[if_neg L]at H
 exact absurd H (by simp))
 rw[if_neg J]at H
 exact absurd H (by simp))
 rw[if_neg G]at H
 have c4b0:=zF G
 clear G
 obtain rfl:=zI H
 go_wp2
 go_ret
 exact⟨sq,sb⟩)))
 rw[if_neg c]at H
 have c3b0:((l0.length:Int)==(l1.length:Int))=false:=zN c
 have c3b1:((l0.length:Int) !=(l1.length:Int))=true:=zX c
 have c3b2:(l0.length==l1.length)=false:=by first|simpa using c|(simp at c ⊢;omega)
 obtain rfl:=zI H
 go_enter Tryd.func17,Tryd.ntmps17
 go_wp2
 go_ret
 exact⟨sq,sb⟩
end Go.Proofs.YtjmojijopammjaaDoor.PFnExactCaptureText
