/- Printed functions: laws_eqInt64S, laws_eqValue, laws_eqValueS. -/
import Derived.Test.YtengilknjiobiaaYRoP0
namespace Go.Proofs.Ytengilknjiobiaa.PFnExactRefsOf
open Go.RowKit Go.Proofs.YtengilknjiobiaaG Go.Proofs.YtengilknjiobiaaW.PrintWords Go.Proofs.YtengilknjiobiaaW.PrintLast Go.Proofs.YtengilknjiobiaaW.PrintMore
attribute [local go_sem] max2_int min2_int max_two min_two max_three min_three max_four min_four
set_option linter.unusedVariables false
set_option linter.unusedSimpArgs false
def laws_eqInt64S.l0 : Nat → List Int → List Int → Int → Option (Bool)
 |0,_,_,_=>none
 |k+1,x0,x1,x5=>if x5<(x0.length:Int)then(if 0≤x5 then(if x5<(x1.length:Int)then(if(rd x0 x5)=(rd x1 x5)then(laws_eqInt64S.l0 k x0 x1 (wrap64 (x5+1)))else(some false))else(none))else(none))else(some true)
def laws_eqInt64S.f (k:Nat) (l0:List Int) (l1:List Int):Option (Bool):=if(l0.length:Int)=(l1.length:Int)then(laws_eqInt64S.l0 k l0 l1 0)else(some false)
set_option maxHeartbeats 8000000 in
set_option maxRecDepth 100000 in
theorem laws_eqInt64S.calls (k:Nat) (A0:Option Addr) (c0:Nat) (l0:List Int) (A1:Option Addr) (c1:Nat) (l1:List Int) (r:Bool) (w:World) (hr0:Kd.C (Kd.int .i64) w A0 l0.length l0) (hc0:l0.length≤c0) (hr1:Kd.C (Kd.int .i64) w A1 l1.length l1) (hc1:l1.length≤c1) (h:laws_eqInt64S.f k l0 l1=some r):
  Calls Try.prog 29 #[.slice A0 l0.length c0,.slice A1 l1.length c1] w fun e w'=>e= .returned (.bool r)∧Drawn0 w w':=by
 have u:=zM hr0
 have F:=zM hc0
 clear hr0 hc0
 have x:=zM hr1
 have G:=zM hc1
 clear hr1 hc1
 have H:(if(l0.length:Int)=(l1.length:Int)then(laws_eqInt64S.l0 k l0 l1 0)else(some false))=some r:=h
 clear h
 by_cases b:(l0.length:Int)=(l1.length:Int)
 ·(
 rw[if_pos b]at H
 have c3b0:((l0.length:Int)==(l1.length:Int))=true:=zE b
 have c3b1:((l0.length:Int) !=(l1.length:Int))=false:=zY b
 have c3b2:(l0.length==l1.length)=true:=by first|simpa using b|(simp at b ⊢;omega)
 clear b
 have H':=zM H
 clear H
 go_enter Try.func29,Try.ntmps29
 go_wp2
 repeat(go_quiet (fail);try go_wp2)
 go_loopg [5] k (fun kq z w'=>∃(a:Int),z= .int .i64 a∧Aside0 (laws_eqInt64S.l0 kq l0 l1 a=some r)∧Aside0 (kq≤k)∧Drawn0 w w')
 case atStart=>exact⟨(0),sr,H',⟨Nat.le_refl _⟩,by repeat(first|exact Drawn0.refl _|apply Drawn0.step)⟩
 case round=>(
 clear H'
 try clear c1
 try clear b
 try clear c3b0
 try clear c3b1
 try clear c3b2
 obtain⟨a,rfl,HA,y,⟨I,rfl⟩⟩:=hrel
 cases gk with
 |zero=>exact absurd HA.out (by simp[laws_eqInt64S.l0])
 |succ k1=>(
 have H:=HA.out
 clear HA
 simp only[laws_eqInt64S.l0]at H
 by_cases m:a<(l0.length:Int)
 ·(
 rw[if_pos m]at H
 have c4b0:=zT m
 clear m
 by_cases o:0≤a
 ·(
 rw[if_pos o]at H
 have c5b0:=zT o
 clear o
 by_cases p:a<(l1.length:Int)
 ·(
 rw[if_pos p]at H
 have c6b0:=zT p
 clear p
 by_cases c:(rd l0 a)=(rd l1 a)
 ·(
 rw[if_pos c]at H
 have c7b0:((rd l0 a)==(rd l1 a))=true:=zE c
 have c7b1:((rd l0 a) !=(rd l1 a))=false:=zY c
 clear c
 have H':=zM H
 clear H
 have d:0≤(a:Int):=zzA
 have g:a<(l0.length:Int):=zzA
 obtain⟨A,q,B⟩:=Kd.at_int u.out a d g
 cases q
 replace d:=eq_true d
 replace g:=eq_true g
 have j:0≤(a:Int):=zzA
 have l:a<(l1.length:Int):=zzA
 obtain⟨D,s,E⟩:=Kd.at_int x.out a j l
 cases s
 replace j:=eq_true j
 replace l:=eq_true l
 go_wp2
 repeat(go_quiet (fail);try go_wp2)
 go_roundg k1
 case measure=>have:=y.out;omega
 case rel=>exact⟨(wrap64 (a+1)),sr,H',⟨by have:=y.out;omega⟩,by repeat(first|exact Drawn0.refl _|apply Drawn0.step)⟩)
 rw[if_neg c]at H
 have c7b0:((rd l0 a)==(rd l1 a))=false:=zN c
 have c7b1:((rd l0 a) !=(rd l1 a))=true:=zX c
 obtain rfl:=zI H
 have d:0≤(a:Int):=zzA
 have g:a<(l0.length:Int):=zzA
 obtain⟨A,q,B⟩:=Kd.at_int u.out a d g
 cases q
 replace d:=eq_true d
 replace g:=eq_true g
 have j:0≤(a:Int):=zzA
 have l:a<(l1.length:Int):=zzA
 obtain⟨D,s,E⟩:=Kd.at_int x.out a j l
 cases s
 replace j:=eq_true j
 replace l:=eq_true l
 go_wp2
 repeat(go_quiet (fail);try go_wp2)
 go_ret
 exact⟨by first|rfl|(simp;done)|(simp[*];done),by repeat(first|exact Drawn0.refl _|apply Drawn0.step)⟩)
 rw[if_neg p]at H
 exact absurd H (by simp))
 rw[if_neg o]at H
 exact absurd H (by simp))
 rw[if_neg m]at H
 have c4b0:=zF m
 clear m
 obtain rfl:=zI H
 go_wp2
 repeat(go_quiet (fail);try go_wp2)
 go_ret
 exact⟨by first|rfl|(simp;done)|(simp[*];done),by repeat(first|exact Drawn0.refl _|apply Drawn0.step)⟩)))
 rw[if_neg b]at H
 have c3b0:((l0.length:Int)==(l1.length:Int))=false:=zN b
 have c3b1:((l0.length:Int) !=(l1.length:Int))=true:=zX b
 have c3b2:(l0.length==l1.length)=false:=by first|simpa using b|(simp at b ⊢;omega)
 obtain rfl:=zI H
 go_enter Try.func29,Try.ntmps29
 go_wp2
 repeat(go_quiet (fail);try go_wp2)
 go_ret
 exact⟨by first|rfl|(simp;done)|(simp[*];done),by repeat(first|exact Drawn0.refl _|apply Drawn0.step)⟩
def laws_eqValue.f (a0_0:Int) (a0_1:Int) (a0_2:ByteArray) (a0_3:Int) (a1_0:Int) (a1_1:Int) (a1_2:ByteArray) (a1_3:Int):Option (Bool):=if a0_0=a1_0 then(if a0_1=a1_1 then(if a0_2.toList=a1_2.toList then(if a0_3=a1_3 then(some true)else(some false))else(some false))else(some false))else(some false)
set_option maxHeartbeats 8000000 in
set_option maxRecDepth 100000 in
theorem laws_eqValue.calls (a0_0:Int) (a0_1:Int) (a0_2:ByteArray) (a0_3:Int) (a1_0:Int) (a1_1:Int) (a1_2:ByteArray) (a1_3:Int) (r:Bool) (w:World) (h:laws_eqValue.f a0_0 a0_1 a0_2 a0_3 a1_0 a1_1 a1_2 a1_3=some r):
  Calls Try.prog 15 #[.agg #[.int .i64 a0_0,.int .i64 a0_1,.string a0_2,.int .i64 a0_3],.agg #[.int .i64 a1_0,.int .i64 a1_1,.string a1_2,.int .i64 a1_3]] w fun e w'=>e= .returned (.bool r)∧Below w.heap.size w w':=by
 have y:=Try.underlying29
 have HB:=zM (Below.refl w.heap.size w)
 have H:(if a0_0=a1_0 then(if a0_1=a1_1 then(if a0_2.toList=a1_2.toList then(if a0_3=a1_3 then(some true)else(some false))else(some false))else(some false))else(some false))=some r:=h
 clear h
 by_cases g:a0_0=a1_0
 ·(
 rw[if_pos g]at H
 have c3b0:(a0_0==a1_0)=true:=zE g
 have c3b1:(a0_0 !=a1_0)=false:=zY g
 clear g
 by_cases j:a0_1=a1_1
 ·(
 rw[if_pos j]at H
 have c4b0:(a0_1==a1_1)=true:=zE j
 have c4b1:(a0_1 !=a1_1)=false:=zY j
 clear j
 by_cases l:a0_2.toList=a1_2.toList
 ·(
 rw[if_pos l]at H
 have c5b0:(a0_2.toList==a1_2.toList)=true:=zE l
 have c5b1:(a0_2.toList !=a1_2.toList)=false:=zY l
 clear l
 by_cases m:a0_3=a1_3
 ·(
 rw[if_pos m]at H
 have c6b0:(a0_3==a1_3)=true:=zE m
 have c6b1:(a0_3 !=a1_3)=false:=zY m
 clear m
 obtain rfl:=zI H
 go_enter Try.func15,Try.ntmps15
 go_wp2_with (first|((with_reducible refine gate_dst (N:=2) rfl ?_);refine sV (N:=2) (cs:= #[.int .i64 a0_0,.int .i64 a0_1,.string a0_2,.int .i64 a0_3]) (t:=29) ?_;intro o hg z hbox hb;have a:=zM (hbox);have p:=sG HB hg;have q:=sG HB hg;replace HB:=sB HB hb;clear hb hbox hg)|((with_reducible refine gate_dst (N:=3) rfl ?_);refine sV (N:=3) (cs:= #[.int .i64 a1_0,.int .i64 a1_1,.string a1_2,.int .i64 a1_3]) (t:=29) ?_;intro s hg A hbox hb;have b:=zM (hbox);have u:=sG HB hg;have x:=sG HB hg;replace HB:=sB HB hb;have c:=sN a hg;have d:=sM a hg;replace a:=sK a hb;clear hb hbox hg;have B:=c.out;have D:=d.out;obtain⟨E,F,G,I,J,L,M,O⟩:=cells4 a.out;obtain⟨P,Q,R,T,U,V,W,X⟩:=cells4 b.out))
 go_ret
 exact⟨sq,sb⟩)
 rw[if_neg m]at H
 have c6b0:(a0_3==a1_3)=false:=zN m
 have c6b1:(a0_3 !=a1_3)=true:=zX m
 obtain rfl:=zI H
 go_enter Try.func15,Try.ntmps15
 go_wp2_with (first|((with_reducible refine gate_dst (N:=2) rfl ?_);refine sV (N:=2) (cs:= #[.int .i64 a0_0,.int .i64 a0_1,.string a0_2,.int .i64 a0_3]) (t:=29) ?_;intro o hg Y hbox hb;have a:=zM (hbox);have p:=sG HB hg;have q:=sG HB hg;replace HB:=sB HB hb;clear hb hbox hg)|((with_reducible refine gate_dst (N:=3) rfl ?_);refine sV (N:=3) (cs:= #[.int .i64 a1_0,.int .i64 a1_1,.string a1_2,.int .i64 a1_3]) (t:=29) ?_;intro s hg Z hbox hb;have b:=zM (hbox);have u:=sG HB hg;have x:=sG HB hg;replace HB:=sB HB hb;have c:=sN a hg;have d:=sM a hg;replace a:=sK a hb;clear hb hbox hg;have aa:=c.out;have ab:=d.out;obtain⟨ac,ad,ae,af,ag,ah,ai,aj⟩:=cells4 a.out;obtain⟨ak,al,am,an,ao,ap,aq,ar⟩:=cells4 b.out))
 go_ret
 exact⟨sq,sb⟩)
 rw[if_neg l]at H
 have c5b0:(a0_2.toList==a1_2.toList)=false:=zN l
 have c5b1:(a0_2.toList !=a1_2.toList)=true:=zX l
 obtain rfl:=zI H
 go_enter Try.func15,Try.ntmps15
 go_wp2_with (first|((with_reducible refine gate_dst (N:=2) rfl ?_);refine sV (N:=2) (cs:= #[.int .i64 a0_0,.int .i64 a0_1,.string a0_2,.int .i64 a0_3]) (t:=29) ?_;intro o hg au hbox hb;have a:=zM (hbox);have p:=sG HB hg;have q:=sG HB hg;replace HB:=sB HB hb;clear hb hbox hg)|((with_reducible refine gate_dst (N:=3) rfl ?_);refine sV (N:=3) (cs:= #[.int .i64 a1_0,.int .i64 a1_1,.string a1_2,.int .i64 a1_3]) (t:=29) ?_;intro s hg av hbox hb;have b:=zM (hbox);have u:=sG HB hg;have x:=sG HB hg;replace HB:=sB HB hb;have c:=sN a hg;have d:=sM a hg;replace a:=sK a hb;clear hb hbox hg;have aw:=c.out;have ax:=d.out;obtain⟨ay,az,aA,aB,aC,aD,aE,aF⟩:=cells4 a.out;obtain⟨aG,aH,aI,aJ,aK,aL,aM,aN⟩:=cells4 b.out))
 go_ret
 exact⟨sq,sb⟩)
 rw[if_neg j]at H
 have c4b0:(a0_1==a1_1)=false:=zN j
 have c4b1:(a0_1 !=a1_1)=true:=zX j
 obtain rfl:=zI H
 go_enter Try.func15,Try.ntmps15
 go_wp2_with (first|((with_reducible refine gate_dst (N:=2) rfl ?_);refine sV (N:=2) (cs:= #[.int .i64 a0_0,.int .i64 a0_1,.string a0_2,.int .i64 a0_3]) (t:=29) ?_;intro o hg aO hbox hb;have a:=zM (hbox);have p:=sG HB hg;have q:=sG HB hg;replace HB:=sB HB hb;clear hb hbox hg)|((with_reducible refine gate_dst (N:=3) rfl ?_);refine sV (N:=3) (cs:= #[.int .i64 a1_0,.int .i64 a1_1,.string a1_2,.int .i64 a1_3]) (t:=29) ?_;intro s hg aP hbox hb;have b:=zM (hbox);have u:=sG HB hg;have x:=sG HB hg;replace HB:=sB HB hb;have c:=sN a hg;have d:=sM a hg;replace a:=sK a hb;clear hb hbox hg;have aQ:=c.out;have aR:=d.out;obtain⟨aS,aT,aU,aV,aW,aX,aY,aZ⟩:=cells4 a.out;obtain⟨a0,a1,a2,a3,a4,a5,a6,a7⟩:=cells4 b.out))
 go_ret
 exact⟨sq,sb⟩)
 rw[if_neg g]at H
 have c3b0:(a0_0==a1_0)=false:=zN g
 have c3b1:(a0_0 !=a1_0)=true:=zX g
 obtain rfl:=zI H
 go_enter Try.func15,Try.ntmps15
 go_wp2_with (first|((with_reducible refine gate_dst (N:=2) rfl ?_);refine sV (N:=2) (cs:= #[.int .i64 a0_0,.int .i64 a0_1,.string a0_2,.int .i64 a0_3]) (t:=29) ?_;intro o hg a8 hbox hb;have a:=zM (hbox);have p:=sG HB hg;have q:=sG HB hg;replace HB:=sB HB hb;clear hb hbox hg)|((with_reducible refine gate_dst (N:=3) rfl ?_);refine sV (N:=3) (cs:= #[.int .i64 a1_0,.int .i64 a1_1,.string a1_2,.int .i64 a1_3]) (t:=29) ?_;intro s hg a9 hbox hb;have b:=zM (hbox);have u:=sG HB hg;have x:=sG HB hg;replace HB:=sB HB hb;have c:=sN a hg;have d:=sM a hg;replace a:=sK a hb;clear hb hbox hg;have ba:=c.out;have bb:=d.out;obtain⟨bc,bd,be,bf,bg,bh,bi,bj⟩:=cells4 a.out;obtain⟨bk,bl,bm,bn,bo,bp,bq,br⟩:=cells4 b.out))
 go_ret
 exact⟨sq,sb⟩
def laws_eqValueS.l0 : Nat → List (S29) → List (S29) → Int → Option (Bool)
 |0,_,_,_=>none
 |k+1,x0,x1,x5=>if x5<(x0.length:Int)then(if 0≤x5 then(if x5<(x1.length:Int)then((laws_eqValue.f ((rd_T29 x0 x5).f0) ((rd_T29 x0 x5).f1) ((rd_T29 x0 x5).f2) ((rd_T29 x0 x5).f3) ((rd_T29 x1 x5).f0) ((rd_T29 x1 x5).f1) ((rd_T29 x1 x5).f2) ((rd_T29 x1 x5).f3)).bind fun t444=>(if t444=true then(laws_eqValueS.l0 k x0 x1 (wrap64 (x5+1)))else(some false)))else(none))else(none))else(some true)
def laws_eqValueS.f (k:Nat) (l0:List (S29)) (l1:List (S29)):Option (Bool):=if(l0.length:Int)=(l1.length:Int)then(laws_eqValueS.l0 k l0 l1 0)else(some false)
def laws_eqValueS.T6:Bool×List (List Nat×List Nat):=(true,[([],[]),([],[]),([0,1],[0,1]),([2],[2]),([],[]),([],[]),([4,5],[4,5]),([6],[6]),([3,7],[3,7]),([8],[8])])
def laws_eqValueS.B6:List Nat:=[0,0,3,7,0,0,48,112,255,511]
theorem laws_eqValueS.tab6:rtab .any (opsOf Try.f21 6)=laws_eqValueS.T6:=by kernel_rfl
theorem laws_eqValueS.bits6:waitsOk laws_eqValueS.T6.2 laws_eqValueS.B6=true:=by kernel_rfl
set_option maxHeartbeats 8000000 in
set_option maxRecDepth 100000 in
theorem laws_eqValueS.calls (k:Nat) (A0:Option Addr) (c0:Nat) (l0:List (S29)) (A1:Option Addr) (c1:Nat) (l1:List (S29)) (r:Bool) (w:World) (hr0:Kd.C k29 w A0 l0.length l0) (hc0:l0.length≤c0) (hr1:Kd.C k29 w A1 l1.length l1) (hc1:l1.length≤c1) (h:laws_eqValueS.f k l0 l1=some r):
  Calls Try.prog 21 #[.slice A0 l0.length c0,.slice A1 l1.length c1] w fun e w'=>e= .returned (.bool r)∧Below w.heap.size w w':=by
 have ae:=Try.underlying29
 have aa:=zM hr0
 have af:=zM hc0
 clear hr0 hc0
 have ab:=zM hr1
 have ag:=zM hc1
 clear hr1 hc1
 have HB:=zM (Below.refl w.heap.size w)
 have H:(if(l0.length:Int)=(l1.length:Int)then(laws_eqValueS.l0 k l0 l1 0)else(some false))=some r:=h
 clear h
 by_cases g:(l0.length:Int)=(l1.length:Int)
 ·(
 rw[if_pos g]at H
 have c3b0:((l0.length:Int)==(l1.length:Int))=true:=zE g
 have c3b1:((l0.length:Int) !=(l1.length:Int))=false:=zY g
 have c3b2:(l0.length==l1.length)=true:=by first|simpa using g|(simp at g ⊢;omega)
 clear g
 have H':=zM H
 clear H
 go_enter Try.func21,Try.ntmps21
 go_wp2
 go_loopg [5] k (fun kq v5 w'=>∃(a:Int),v5= .int .i64 a∧Aside0 (laws_eqValueS.l0 kq l0 l1 a=some r)∧Aside0 (kq≤k)∧Aside0 (Below w.heap.size w w'))
 case atStart=>exact⟨(0),sr,H',⟨Nat.le_refl _⟩,⟨sb⟩⟩
 case round=>(
 clear H'
 try clear c1
 try clear g
 try clear c3b0
 try clear c3b1
 try clear c3b2
 obtain⟨a,rfl,HA,ac,HB⟩:=hrel
 cases gk with
 |zero=>exact absurd HA.out (by simp[laws_eqValueS.l0])
 |succ k1=>(
 have H:=HA.out
 clear HA
 simp only[laws_eqValueS.l0]at H
 by_cases M:a<(l0.length:Int)
 ·(
 rw[if_pos M]at H
 have c4b0:=zT M
 clear M
 by_cases P:0≤a
 ·(
 rw[if_pos P]at H
 have c5b0:=zT P
 clear P
 by_cases Q:a<(l1.length:Int)
 ·(
 rw[if_pos Q]at H
 have c6b0:=zT Q
 clear Q
 obtain⟨ad,A7,H⟩:=sO H
 by_cases R:ad=true
 ·(
 subst R
 rewrite[if_pos rfl]at H
 have H':=zM H
 clear H
 try go_wp2
 replace HB:=zM (below_drew1 HB.out)
 have G:0≤(a:Int):=zzA
 have I:a<(l0.length:Int):=zzA
 obtain⟨c,T,j,l,m,o⟩:=at_T29 aa.out a G I
 have p:=o
 have q:=m
 have s:=l
 have u:=j
 cases T
 replace j:=sX HB j
 replace l:=sX HB l
 replace m:=sX HB m
 replace o:=sX HB o
 replace G:=eq_true G
 replace I:=eq_true I
 have J:0≤(a:Int):=zzA
 have L:a<(l1.length:Int):=zzA
 obtain⟨d,U,x,y,z,A⟩:=at_T29 ab.out a J L
 have B:=A
 have D:=z
 have E:=y
 have F:=x
 cases U
 replace x:=sX HB x
 replace y:=sX HB y
 replace z:=sX HB z
 replace A:=sX HB A
 replace J:=eq_true J
 replace L:=eq_true L
 refine start_ (n:=10) (S:=fun w'=>w'.cell? (c.add ((a).toNat*4))=some (.int .i64 ((rd_T29 l0 a).f0))∧w'.cell? ⟨(c.add ((a).toNat*4)).block,(c.add ((a).toNat*4)).off+1,none⟩=some (.int .i64 ((rd_T29 l0 a).f1))∧w'.cell? ⟨(c.add ((a).toNat*4)).block,(c.add ((a).toNat*4)).off+2,none⟩=some (.string ((rd_T29 l0 a).f2))∧w'.cell? ⟨(c.add ((a).toNat*4)).block,(c.add ((a).toNat*4)).off+3,none⟩=some (.int .i64 ((rd_T29 l0 a).f3))∧w'.cell? (d.add ((a).toNat*4))=some (.int .i64 ((rd_T29 l1 a).f0))∧w'.cell? ⟨(d.add ((a).toNat*4)).block,(d.add ((a).toNat*4)).off+1,none⟩=some (.int .i64 ((rd_T29 l1 a).f1))∧w'.cell? ⟨(d.add ((a).toNat*4)).block,(d.add ((a).toNat*4)).off+2,none⟩=some (.string ((rd_T29 l1 a).f2))∧w'.cell? ⟨(d.add ((a).toNat*4)).block,(d.add ((a).toNat*4)).off+3,none⟩=some (.int .i64 ((rd_T29 l1 a).f3))) (ds:=[]) #[false,false,false,false,false,false,false,false,false,false] (by kernel_rfl) rfl rfl ⟨((HB.out.cell (zL w _ u)).trans u),((HB.out.cell (zL w _ s)).trans s),((HB.out.cell (zL w _ q)).trans q),((HB.out.cell (zL w _ p)).trans p),((HB.out.cell (zL w _ F)).trans F),((HB.out.cell (zL w _ E)).trans E),((HB.out.cell (zL w _ D)).trans D),((HB.out.cell (zL w _ B)).trans B)⟩ (fun hHeld=>?_);refine with_tabW laws_eqValueS.tab6 laws_eqValueS.bits6 (fun b O=>?_)
 generalize wr.drew=w9 at HB j l m o x y z A hHeld ⊢
 refine pure_ (i:=0) (N:=some 17) (v:=?_) (a':=?_) (bN 10 1) rfl rfl (any_of b.out (by kernel_rfl)) (fun _ _ _ h=>h) (Or.inl ⟨by rfl,?_⟩) ?_ ?_
 rotate_left
 ·(
 intro w'
 go_simp
 with_reducible rfl)
 rotate_left
 ·(
 simp only[zP,i64_w,i32_w]
 rfl)
 refine pure_ (i:=1) (N:=some 18) (v:=?_) (a':=?_) (bN 10 3) rfl rfl (any_of b.out (by kernel_rfl)) (fun _ _ _ h=>h) (Or.inl ⟨by rfl,?_⟩) ?_ ?_
 rotate_left
 ·(
 intro w'
 go_simp
 with_reducible rfl)
 rotate_left
 ·(
 simp only[zP,i64_w,i32_w]
 rfl)
 refine pure_ (i:=2) (N:=some 19) (v:=?_) (a':=?_) (bN 10 7) rfl rfl (any_of b.out (by kernel_rfl)) (fun _ _ _ h=>h) (Or.inl ⟨by rfl,?_⟩) ?_ ?_
 rotate_left
 ·(
 intro w'
 go_simp
 with_reducible rfl)
 rotate_left
 ·(
 simp only[zP,i64_w,i32_w]
 rfl)
 refine pure_ (i:=4) (N:=some 21) (v:=?_) (a':=?_) (bN 10 23) rfl rfl (any_of b.out (by kernel_rfl)) (fun _ _ _ h=>h) (Or.inl ⟨by rfl,?_⟩) ?_ ?_
 rotate_left
 ·(
 intro w'
 go_simp
 with_reducible rfl)
 rotate_left
 ·(
 simp only[zP,i64_w,i32_w]
 rfl)
 refine pure_ (i:=5) (N:=some 22) (v:=?_) (a':=?_) (bN 10 55) rfl rfl (any_of b.out (by kernel_rfl)) (fun _ _ _ h=>h) (Or.inl ⟨by rfl,?_⟩) ?_ ?_
 rotate_left
 ·(
 intro w'
 go_simp
 with_reducible rfl)
 rotate_left
 ·(
 simp only[zP,i64_w,i32_w]
 rfl)
 refine pure_ (i:=6) (N:=some 23) (v:=?_) (a':=?_) (bN 10 119) rfl rfl (any_of b.out (by kernel_rfl)) (fun _ _ _ h=>h) (Or.inl ⟨by rfl,?_⟩) ?_ ?_
 rotate_left
 ·(
 intro w'
 go_simp
 with_reducible rfl)
 rotate_left
 ·(
 simp only[zP,i64_w,i32_w]
 rfl)
 refine take_ (i:=3) (N:=some 20) (v:=?_) (a':=?_) (bN 10 127) rfl rfl (take_ofW b.out O.out (by kernel_rfl)) (fun _ _ _ h=>h) (Or.inl ⟨by rfl,?_⟩) hHeld ?_ ?_
 rotate_left
 ·(
 rintro w' ⟨V,W,X,Y,Z,s5,s6,s7⟩
 go_simp
 with_reducible rfl)
 rotate_left
 ·(
 simp only[zP,i64_w,i32_w]
 rfl)
 refine take_ (i:=7) (N:=some 24) (v:=?_) (a':=?_) (bN 10 255) rfl rfl (take_ofW b.out O.out (by kernel_rfl)) (fun _ _ _ h=>h) (Or.inl ⟨by rfl,?_⟩) hHeld ?_ ?_
 rotate_left
 ·(
 rintro w' ⟨V,W,X,Y,Z,s5,s6,s7⟩
 go_simp
 with_reducible rfl)
 rotate_left
 ·(
 simp only[zP,i64_w,i32_w]
 rfl)
 refine one_ (i:=8) (N:=some 25) (bN 10 511) rfl rfl (one_of b.out (by kernel_rfl)) (by decide) (fun K hK=>?_)
 refine goes_ Try.func15 (by kernel_rfl) rfl #[.agg #[.int .i64 ((rd_T29 l0 a).f0),.int .i64 ((rd_T29 l0 a).f1),.string ((rd_T29 l0 a).f2),.int .i64 ((rd_T29 l0 a).f3)],.agg #[.int .i64 ((rd_T29 l1 a).f0),.int .i64 ((rd_T29 l1 a).f1),.string ((rd_T29 l1 a).f2),.int .i64 ((rd_T29 l1 a).f3)]] (by rfl) rfl rfl (by(try simp only[List.map_toArray,List.map_cons,List.map_nil]);first|done|rfl|(simp only[List.length_drop,List.length_take];rfl)) ?_
 with_reducible refine(laws_eqValue.calls ((rd_T29 l0 a).f0) ((rd_T29 l0 a).f1) ((rd_T29 l0 a).f2) ((rd_T29 l0 a).f3) ((rd_T29 l1 a).f0) ((rd_T29 l1 a).f1) ((rd_T29 l1 a).f2) ((rd_T29 l1 a).f3) true _ A7.out).mono ?_
 rintro e ah ⟨rfl,hb⟩
 refine⟨_,rfl,?_⟩
 replace HB:=sB HB hb
 (try clear hb)
 (try clear hb2)
 (try clear hk)
 (try clear hi)
 refine hK.out _ _ ⟨((HB.out.cell (zL w _ u)).trans u),((HB.out.cell (zL w _ s)).trans s),((HB.out.cell (zL w _ q)).trans q),((HB.out.cell (zL w _ p)).trans p),((HB.out.cell (zL w _ F)).trans F),((HB.out.cell (zL w _ E)).trans E),((HB.out.cell (zL w _ D)).trans D),((HB.out.cell (zL w _ B)).trans B)⟩ (fun hHeld=>?_)
 clear hK K
 refine norm_ (a':=?_) ?_ ?_
 rotate_left
 ·(
 show Act.put _ (some 25) _=_
 simp only[zP,i64_w,i32_w]
 rfl)
 refine pure_ (i:=9) (N:=some 26) (v:=?_) (a':=?_) (bN 10 1023) rfl rfl (any_of b.out (by kernel_rfl)) (fun _ _ _ h=>h) (Or.inl ⟨by rfl,?_⟩) ?_ ?_
 rotate_left
 ·(
 intro w'
 go_simp
 with_reducible rfl)
 rotate_left
 ·(
 simp only[zP,i64_w,i32_w]
 rfl)
 refine done_ (done_of b.out (by kernel_rfl)) ?_
 try go_wp2
 go_roundg k1
 case measure=>have:=ac.out;omega
 case rel=>exact⟨(wrap64 (a+1)),sr,H',⟨by have:=ac.out;omega⟩,⟨sb⟩⟩)
 replace R:=zB R
 subst R
 rewrite[if_neg zQ]at H
 obtain rfl:=zI H
 try go_wp2
 replace HB:=zM (below_drew1 HB.out)
 have G:0≤(a:Int):=zzA
 have I:a<(l0.length:Int):=zzA
 obtain⟨c,T,j,l,m,o⟩:=at_T29 aa.out a G I
 have p:=o
 have q:=m
 have s:=l
 have u:=j
 cases T
 replace j:=sX HB j
 replace l:=sX HB l
 replace m:=sX HB m
 replace o:=sX HB o
 replace G:=eq_true G
 replace I:=eq_true I
 have J:0≤(a:Int):=zzA
 have L:a<(l1.length:Int):=zzA
 obtain⟨d,U,x,y,z,A⟩:=at_T29 ab.out a J L
 have B:=A
 have D:=z
 have E:=y
 have F:=x
 cases U
 replace x:=sX HB x
 replace y:=sX HB y
 replace z:=sX HB z
 replace A:=sX HB A
 replace J:=eq_true J
 replace L:=eq_true L
 refine start_ (n:=10) (S:=fun w'=>w'.cell? (c.add ((a).toNat*4))=some (.int .i64 ((rd_T29 l0 a).f0))∧w'.cell? ⟨(c.add ((a).toNat*4)).block,(c.add ((a).toNat*4)).off+1,none⟩=some (.int .i64 ((rd_T29 l0 a).f1))∧w'.cell? ⟨(c.add ((a).toNat*4)).block,(c.add ((a).toNat*4)).off+2,none⟩=some (.string ((rd_T29 l0 a).f2))∧w'.cell? ⟨(c.add ((a).toNat*4)).block,(c.add ((a).toNat*4)).off+3,none⟩=some (.int .i64 ((rd_T29 l0 a).f3))∧w'.cell? (d.add ((a).toNat*4))=some (.int .i64 ((rd_T29 l1 a).f0))∧w'.cell? ⟨(d.add ((a).toNat*4)).block,(d.add ((a).toNat*4)).off+1,none⟩=some (.int .i64 ((rd_T29 l1 a).f1))∧w'.cell? ⟨(d.add ((a).toNat*4)).block,(d.add ((a).toNat*4)).off+2,none⟩=some (.string ((rd_T29 l1 a).f2))∧w'.cell? ⟨(d.add ((a).toNat*4)).block,(d.add ((a).toNat*4)).off+3,none⟩=some (.int .i64 ((rd_T29 l1 a).f3))) (ds:=[]) #[false,false,false,false,false,false,false,false,false,false] (by kernel_rfl) rfl rfl ⟨((HB.out.cell (zL w _ u)).trans u),((HB.out.cell (zL w _ s)).trans s),((HB.out.cell (zL w _ q)).trans q),((HB.out.cell (zL w _ p)).trans p),((HB.out.cell (zL w _ F)).trans F),((HB.out.cell (zL w _ E)).trans E),((HB.out.cell (zL w _ D)).trans D),((HB.out.cell (zL w _ B)).trans B)⟩ (fun hHeld=>?_);refine with_tabW laws_eqValueS.tab6 laws_eqValueS.bits6 (fun b O=>?_)
 generalize wr.drew=w11 at HB j l m o x y z A hHeld ⊢
 refine pure_ (i:=0) (N:=some 17) (v:=?_) (a':=?_) (bN 10 1) rfl rfl (any_of b.out (by kernel_rfl)) (fun _ _ _ h=>h) (Or.inl ⟨by rfl,?_⟩) ?_ ?_
 rotate_left
 ·(
 intro w'
 go_simp
 with_reducible rfl)
 rotate_left
 ·(
 simp only[zP,i64_w,i32_w]
 rfl)
 refine pure_ (i:=1) (N:=some 18) (v:=?_) (a':=?_) (bN 10 3) rfl rfl (any_of b.out (by kernel_rfl)) (fun _ _ _ h=>h) (Or.inl ⟨by rfl,?_⟩) ?_ ?_
 rotate_left
 ·(
 intro w'
 go_simp
 with_reducible rfl)
 rotate_left
 ·(
 simp only[zP,i64_w,i32_w]
 rfl)
 refine pure_ (i:=2) (N:=some 19) (v:=?_) (a':=?_) (bN 10 7) rfl rfl (any_of b.out (by kernel_rfl)) (fun _ _ _ h=>h) (Or.inl ⟨by rfl,?_⟩) ?_ ?_
 rotate_left
 ·(
 intro w'
 go_simp
 with_reducible rfl)
 rotate_left
 ·(
 simp only[zP,i64_w,i32_w]
 rfl)
 refine pure_ (i:=4) (N:=some 21) (v:=?_) (a':=?_) (bN 10 23) rfl rfl (any_of b.out (by kernel_rfl)) (fun _ _ _ h=>h) (Or.inl ⟨by rfl,?_⟩) ?_ ?_
 rotate_left
 ·(
 intro w'
 go_simp
 with_reducible rfl)
 rotate_left
 ·(
 simp only[zP,i64_w,i32_w]
 rfl)
 refine pure_ (i:=5) (N:=some 22) (v:=?_) (a':=?_) (bN 10 55) rfl rfl (any_of b.out (by kernel_rfl)) (fun _ _ _ h=>h) (Or.inl ⟨by rfl,?_⟩) ?_ ?_
 rotate_left
 ·(
 intro w'
 go_simp
 with_reducible rfl)
 rotate_left
 ·(
 simp only[zP,i64_w,i32_w]
 rfl)
 refine pure_ (i:=6) (N:=some 23) (v:=?_) (a':=?_) (bN 10 119) rfl rfl (any_of b.out (by kernel_rfl)) (fun _ _ _ h=>h) (Or.inl ⟨by rfl,?_⟩) ?_ ?_
 rotate_left
 ·(
 intro w'
 go_simp
 with_reducible rfl)
 rotate_left
 ·(
 simp only[zP,i64_w,i32_w]
 rfl)
 refine take_ (i:=3) (N:=some 20) (v:=?_) (a':=?_) (bN 10 127) rfl rfl (take_ofW b.out O.out (by kernel_rfl)) (fun _ _ _ h=>h) (Or.inl ⟨by rfl,?_⟩) hHeld ?_ ?_
 rotate_left
 ·(
 rintro w' ⟨V,W,X,Y,Z,s5,s6,s7⟩
 go_simp
 with_reducible rfl)
 rotate_left
 ·(
 simp only[zP,i64_w,i32_w]
 rfl)
 refine take_ (i:=7) (N:=some 24) (v:=?_) (a':=?_) (bN 10 255) rfl rfl (take_ofW b.out O.out (by kernel_rfl)) (fun _ _ _ h=>h) (Or.inl ⟨by rfl,?_⟩) hHeld ?_ ?_
 rotate_left
 ·(
 rintro w' ⟨V,W,X,Y,Z,s5,s6,s7⟩
 go_simp
 with_reducible rfl)
 rotate_left
 ·(
 simp only[zP,i64_w,i32_w]
 rfl)
 refine one_ (i:=8) (N:=some 25) (bN 10 511) rfl rfl (one_of b.out (by kernel_rfl)) (by decide) (fun K hK=>?_)
 refine goes_ Try.func15 (by kernel_rfl) rfl #[.agg #[.int .i64 ((rd_T29 l0 a).f0),.int .i64 ((rd_T29 l0 a).f1),.string ((rd_T29 l0 a).f2),.int .i64 ((rd_T29 l0 a).f3)],.agg #[.int .i64 ((rd_T29 l1 a).f0),.int .i64 ((rd_T29 l1 a).f1),.string ((rd_T29 l1 a).f2),.int .i64 ((rd_T29 l1 a).f3)]] (by rfl) rfl rfl (by(try simp only[List.map_toArray,List.map_cons,List.map_nil]);first|done|rfl|(simp only[List.length_drop,List.length_take];rfl)) ?_
 with_reducible refine(laws_eqValue.calls ((rd_T29 l0 a).f0) ((rd_T29 l0 a).f1) ((rd_T29 l0 a).f2) ((rd_T29 l0 a).f3) ((rd_T29 l1 a).f0) ((rd_T29 l1 a).f1) ((rd_T29 l1 a).f2) ((rd_T29 l1 a).f3) false _ A7.out).mono ?_
 rintro e ai ⟨rfl,hb⟩
 refine⟨_,rfl,?_⟩
 replace HB:=sB HB hb
 (try clear hb)
 (try clear hb2)
 (try clear hk)
 (try clear hi)
 refine hK.out _ _ ⟨((HB.out.cell (zL w _ u)).trans u),((HB.out.cell (zL w _ s)).trans s),((HB.out.cell (zL w _ q)).trans q),((HB.out.cell (zL w _ p)).trans p),((HB.out.cell (zL w _ F)).trans F),((HB.out.cell (zL w _ E)).trans E),((HB.out.cell (zL w _ D)).trans D),((HB.out.cell (zL w _ B)).trans B)⟩ (fun hHeld=>?_)
 clear hK K
 refine norm_ (a':=?_) ?_ ?_
 rotate_left
 ·(
 show Act.put _ (some 25) _=_
 simp only[zP,i64_w,i32_w]
 rfl)
 refine pure_ (i:=9) (N:=some 26) (v:=?_) (a':=?_) (bN 10 1023) rfl rfl (any_of b.out (by kernel_rfl)) (fun _ _ _ h=>h) (Or.inl ⟨by rfl,?_⟩) ?_ ?_
 rotate_left
 ·(
 intro w'
 go_simp
 with_reducible rfl)
 rotate_left
 ·(
 simp only[zP,i64_w,i32_w]
 rfl)
 refine done_ (done_of b.out (by kernel_rfl)) ?_
 try go_wp2
 go_ret
 exact⟨sq,sb⟩)
 rw[if_neg Q]at H
 exact absurd H (by simp))
 rw[if_neg P]at H
 exact absurd H (by simp))
 rw[if_neg M]at H
 have c4b0:=zF M
 clear M
 obtain rfl:=zI H
 go_wp2
 go_ret
 exact⟨sq,sb⟩)))
 rw[if_neg g]at H
 have c3b0:((l0.length:Int)==(l1.length:Int))=false:=zN g
 have c3b1:((l0.length:Int) !=(l1.length:Int))=true:=zX g
 have c3b2:(l0.length==l1.length)=false:=by first|simpa using g|(simp at g ⊢;omega)
 obtain rfl:=zI H
 go_enter Try.func21,Try.ntmps21
 go_wp2
 go_ret
 exact⟨sq,sb⟩
end Go.Proofs.Ytengilknjiobiaa.PFnExactRefsOf
