/- Printed functions: impl_PatternCode_entry, laws_eqPatternIns, laws_eqPatternInsS. -/
import Derived.Test.YtcppdkdnpmgpmaaYEoP0
namespace Go.Proofs.Ytcppdkdnpmgpmaa.PFnExactEntryOf
open Go.RowKit Go.Proofs.YtcppdkdnpmgpmaaG Go.Proofs.YtcppdkdnpmgpmaaW.PrintWords Go.Proofs.YtcppdkdnpmgpmaaW.PrintLast Go.Proofs.YtcppdkdnpmgpmaaW.PrintMore
attribute [local go_sem] max2_int min2_int max_two min_two max_three min_three max_four min_four
set_option linter.unusedVariables false
set_option linter.unusedSimpArgs false
def impl_PatternCode_entry.l0 : Nat → ByteArray → List (S51) → Int → Int → Option (Int × Bool)
 |0,_,_,_,_=>none
 |k+1,x1,x9,x10,x11=>if x11<x10 then(if 0≤x11 then(if x11<(x9.length:Int)then(if((rd_T51 x9 x11).f0).toList=x1.toList then(some ((rd_T51 x9 x11).f1,true))else(impl_PatternCode_entry.l0 k x1 x9 x10 (wrap64 (x11+1))))else(none))else(none))else(some (0,false))
def impl_PatternCode_entry.f (k:Nat) (l0_0:List (S55)) (l0_1:List (S51)) (a1:ByteArray):Option (Int×Bool):=impl_PatternCode_entry.l0 k a1 l0_1 (l0_1.length:Int) 0
set_option maxHeartbeats 8000000 in
set_option maxRecDepth 100000 in
theorem impl_PatternCode_entry.calls (k:Nat) (A0_0:Option Addr) (c0_0:Nat) (l0_0:List (S55)) (A0_1:Option Addr) (c0_1:Nat) (l0_1:List (S51)) (a1:ByteArray) (r1:Int) (r2:Bool) (w:World) (hr0_0:Kd.C k55 w A0_0 l0_0.length l0_0) (hc0_0:l0_0.length≤c0_0) (hr0_1:Kd.C k51 w A0_1 l0_1.length l0_1) (hc0_1:l0_1.length≤c0_1) (h:impl_PatternCode_entry.f k l0_0 l0_1 a1=some (r1,r2)):
  Calls Try.prog 16 #[.agg #[.slice A0_0 l0_0.length c0_0,.slice A0_1 l0_1.length c0_1],.string a1] w fun e w'=>e= .returned (.tuple #[.int .i64 r1,.bool r2])∧Below w.heap.size w w':=by
 have O:=Try.underlying32
 have P:=Try.underlying51
 have Q:=zM hr0_0
 have R:=zM hc0_0
 clear hr0_0 hc0_0
 have y:=zM hr0_1
 have T:=zM hc0_1
 clear hr0_1 hc0_1
 have HB:=zM (Below.refl w.heap.size w)
 have H:(impl_PatternCode_entry.l0 k a1 l0_1 (l0_1.length:Int) 0)=some (r1,r2):=h
 clear h
 have H':=zM H
 clear H
 go_enter Try.func16,Try.ntmps16
 go_wp2_with (first|((with_reducible refine gate_dst (N:=2) rfl ?_);refine sV (N:=2) (cs:= #[.slice A0_0 l0_0.length c0_0,.slice A0_1 l0_1.length c0_1]) (t:=32) ?_;intro A hg U hbox hb;have b:=zM (hbox);have V:=sG HB hg;have W:=sG HB hg;replace HB:=sB HB hb;clear hb hbox hg;obtain⟨B,D,E,F⟩:=cells2 b.out))
 go_loopg [11] k (fun kq G w'=>∃(a:Int),G= .int .i64 a∧Aside0 (impl_PatternCode_entry.l0 kq a1 l0_1 (l0_1.length:Int) a=some (r1,r2))∧Aside0 (kq≤k)∧Aside0 (w'.heap[A]?=some (.cells #[(.slice A0_0 l0_0.length c0_0),(.slice A0_1 l0_1.length c0_1)] 32 (0,0)))∧Aside0 (Below w.heap.size w w'))
 case atStart=>exact⟨(0),sr,H',⟨Nat.le_refl _⟩,⟨by exact sT b.out⟩,⟨sb⟩⟩
 case round=>(
 clear H'
 try clear B
 try clear D
 try clear E
 try clear F
 obtain⟨a,rfl,HA,z,b,HB⟩:=hrel
 cases gk with
 |zero=>exact absurd HA.out (by simp[impl_PatternCode_entry.l0])
 |succ k1=>(
 have H:=HA.out
 clear HA
 simp only[impl_PatternCode_entry.l0]at H
 by_cases j:a<(l0_1.length:Int)
 ·(
 rw[if_pos j]at H
 have c5b0:=zT j
 clear j
 by_cases p:0≤a
 ·(
 rw[if_pos p]at H
 have c6b0:=zT p
 clear p
 by_cases q:a<(l0_1.length:Int)
 ·(
 rw[if_pos q]at H
 have c7b0:=zT q
 clear q
 by_cases c:((rd_T51 l0_1 a).f0).toList=a1.toList
 ·(
 rw[if_pos c]at H
 have c8b0:(((rd_T51 l0_1 a).f0).toList==a1.toList)=true:=zE c
 have c8b1:(((rd_T51 l0_1 a).f0).toList !=a1.toList)=false:=zY c
 clear c
 simp only[Option.some.injEq,Prod.mk.injEq]at H
 obtain⟨rfl,rfl⟩:=H
 have d:0≤(a:Int):=zzA
 have g:a<(l0_1.length:Int):=zzA
 obtain⟨I,s,l,m⟩:=at_T51 y.out a d g
 cases s
 replace l:=sX HB l
 replace m:=sX HB m
 replace d:=eq_true d
 replace g:=eq_true g
 go_wp2_with (first|((with_reducible refine gate_dst (N:=7) rfl ?_);refine sV (N:=7) (cs:= #[.string (⟨#[]⟩:ByteArray),.int .i64 0]) (t:=51) ?_;intro J hg X hbox hb;have u:=zM (hbox);have L:=sG HB hg;have M:=sG HB hg;replace HB:=sB HB hb;have o:=sN b hg;have x:=sM b hg;replace b:=sK b hb;clear hb hbox hg;have Y:=x.out;have Z:=o.out;obtain⟨aa,ab,ac,ad⟩:=cells2 u.out))
 go_ret2
 exact⟨sq,sb⟩)
 rw[if_neg c]at H
 have c8b0:(((rd_T51 l0_1 a).f0).toList==a1.toList)=false:=zN c
 have c8b1:(((rd_T51 l0_1 a).f0).toList !=a1.toList)=true:=zX c
 have H':=zM H
 clear H
 have d:0≤(a:Int):=zzA
 have g:a<(l0_1.length:Int):=zzA
 obtain⟨I,s,l,m⟩:=at_T51 y.out a d g
 cases s
 replace l:=sX HB l
 replace m:=sX HB m
 replace d:=eq_true d
 replace g:=eq_true g
 go_wp2_with (first|((with_reducible refine gate_dst (N:=7) rfl ?_);refine sV (N:=7) (cs:= #[.string (⟨#[]⟩:ByteArray),.int .i64 0]) (t:=51) ?_;intro J hg ae hbox hb;have u:=zM (hbox);have L:=sG HB hg;have M:=sG HB hg;replace HB:=sB HB hb;have o:=sN b hg;have x:=sM b hg;replace b:=sK b hb;clear hb hbox hg;have af:=x.out;have ag:=o.out;obtain⟨ah,ai,aj,ak⟩:=cells2 u.out))
 go_roundg k1
 case measure=>have:=z.out;omega
 case rel=>exact⟨(wrap64 (a+1)),sr,H',⟨by have:=z.out;omega⟩,⟨by(with_reducible repeat(first|refine blk_drewN ?_ _|refine blk_drew ?_|refine blk_alloc ?_ _));refine blk_far ?_ o.out _;(with_reducible repeat(first|refine blk_drewN ?_ _|refine blk_drew ?_|refine blk_alloc ?_ _));refine blk_far ?_ o.out _;exact sT b.out⟩,⟨sb⟩⟩)
 rw[if_neg q]at H
 exact absurd H (by simp))
 rw[if_neg p]at H
 exact absurd H (by simp))
 rw[if_neg j]at H
 have c5b0:=zF j
 clear j
 simp only[Option.some.injEq,Prod.mk.injEq]at H
 obtain⟨rfl,rfl⟩:=H
 go_wp2
 go_ret2
 exact⟨sq,sb⟩))
def laws_eqPatternIns.f (a0_0:Int) (a0_1:Int) (a0_2:ByteArray) (a1_0:Int) (a1_1:Int) (a1_2:ByteArray):Option (Bool):=if a0_0=a1_0 then(if a0_1=a1_1 then(if a0_2.toList=a1_2.toList then(some true)else(some false))else(some false))else(some false)
set_option maxHeartbeats 8000000 in
set_option maxRecDepth 100000 in
theorem laws_eqPatternIns.calls (a0_0:Int) (a0_1:Int) (a0_2:ByteArray) (a1_0:Int) (a1_1:Int) (a1_2:ByteArray) (r:Bool) (w:World) (h:laws_eqPatternIns.f a0_0 a0_1 a0_2 a1_0 a1_1 a1_2=some r):
  Calls Try.prog 26 #[.agg #[.int .i64 a0_0,.int .i64 a0_1,.string a0_2],.agg #[.int .i64 a1_0,.int .i64 a1_1,.string a1_2]] w fun e w'=>e= .returned (.bool r)∧Below w.heap.size w w':=by
 have x:=Try.underlying55
 have HB:=zM (Below.refl w.heap.size w)
 have H:(if a0_0=a1_0 then(if a0_1=a1_1 then(if a0_2.toList=a1_2.toList then(some true)else(some false))else(some false))else(some false))=some r:=h
 clear h
 by_cases b:a0_0=a1_0
 ·(
 rw[if_pos b]at H
 have c3b0:(a0_0==a1_0)=true:=zE b
 have c3b1:(a0_0 !=a1_0)=false:=zY b
 clear b
 by_cases c:a0_1=a1_1
 ·(
 rw[if_pos c]at H
 have c4b0:(a0_1==a1_1)=true:=zE c
 have c4b1:(a0_1 !=a1_1)=false:=zY c
 clear c
 by_cases d:a0_2.toList=a1_2.toList
 ·(
 rw[if_pos d]at H
 have c5b0:(a0_2.toList==a1_2.toList)=true:=zE d
 have c5b1:(a0_2.toList !=a1_2.toList)=false:=zY d
 clear d
 obtain rfl:=zI H
 go_enter Try.func26,Try.ntmps26
 go_wp2_with (first|((with_reducible refine gate_dst (N:=2) rfl ?_);refine sV (N:=2) (cs:= #[.int .i64 a0_0,.int .i64 a0_1,.string a0_2]) (t:=55) ?_;intro m hg y hbox hb;have a:=zM (hbox);have o:=sG HB hg;have p:=sG HB hg;replace HB:=sB HB hb;clear hb hbox hg)|((with_reducible refine gate_dst (N:=3) rfl ?_);refine sV (N:=3) (cs:= #[.int .i64 a1_0,.int .i64 a1_1,.string a1_2]) (t:=55) ?_;intro q hg z hbox hb;have g:=zM (hbox);have s:=sG HB hg;have u:=sG HB hg;replace HB:=sB HB hb;have j:=sN a hg;have l:=sM a hg;replace a:=sK a hb;clear hb hbox hg;have A:=j.out;have B:=l.out;obtain⟨D,E,F,G,I,J⟩:=cells3 a.out;obtain⟨L,M,O,P,Q,R⟩:=cells3 g.out))
 go_ret
 exact⟨sq,sb⟩)
 rw[if_neg d]at H
 have c5b0:(a0_2.toList==a1_2.toList)=false:=zN d
 have c5b1:(a0_2.toList !=a1_2.toList)=true:=zX d
 obtain rfl:=zI H
 go_enter Try.func26,Try.ntmps26
 go_wp2_with (first|((with_reducible refine gate_dst (N:=2) rfl ?_);refine sV (N:=2) (cs:= #[.int .i64 a0_0,.int .i64 a0_1,.string a0_2]) (t:=55) ?_;intro m hg T hbox hb;have a:=zM (hbox);have o:=sG HB hg;have p:=sG HB hg;replace HB:=sB HB hb;clear hb hbox hg)|((with_reducible refine gate_dst (N:=3) rfl ?_);refine sV (N:=3) (cs:= #[.int .i64 a1_0,.int .i64 a1_1,.string a1_2]) (t:=55) ?_;intro q hg U hbox hb;have g:=zM (hbox);have s:=sG HB hg;have u:=sG HB hg;replace HB:=sB HB hb;have j:=sN a hg;have l:=sM a hg;replace a:=sK a hb;clear hb hbox hg;have V:=j.out;have W:=l.out;obtain⟨X,Y,Z,aa,ab,ac⟩:=cells3 a.out;obtain⟨ad,ae,af,ag,ah,ai⟩:=cells3 g.out))
 go_ret
 exact⟨sq,sb⟩)
 rw[if_neg c]at H
 have c4b0:(a0_1==a1_1)=false:=zN c
 have c4b1:(a0_1 !=a1_1)=true:=zX c
 obtain rfl:=zI H
 go_enter Try.func26,Try.ntmps26
 go_wp2_with (first|((with_reducible refine gate_dst (N:=2) rfl ?_);refine sV (N:=2) (cs:= #[.int .i64 a0_0,.int .i64 a0_1,.string a0_2]) (t:=55) ?_;intro m hg aj hbox hb;have a:=zM (hbox);have o:=sG HB hg;have p:=sG HB hg;replace HB:=sB HB hb;clear hb hbox hg)|((with_reducible refine gate_dst (N:=3) rfl ?_);refine sV (N:=3) (cs:= #[.int .i64 a1_0,.int .i64 a1_1,.string a1_2]) (t:=55) ?_;intro q hg ak hbox hb;have g:=zM (hbox);have s:=sG HB hg;have u:=sG HB hg;replace HB:=sB HB hb;have j:=sN a hg;have l:=sM a hg;replace a:=sK a hb;clear hb hbox hg;have al:=j.out;have am:=l.out;obtain⟨an,ao,ap,aq,ar,au⟩:=cells3 a.out;obtain⟨av,aw,ax,ay,az,aA⟩:=cells3 g.out))
 go_ret
 exact⟨sq,sb⟩)
 rw[if_neg b]at H
 have c3b0:(a0_0==a1_0)=false:=zN b
 have c3b1:(a0_0 !=a1_0)=true:=zX b
 obtain rfl:=zI H
 go_enter Try.func26,Try.ntmps26
 go_wp2_with (first|((with_reducible refine gate_dst (N:=2) rfl ?_);refine sV (N:=2) (cs:= #[.int .i64 a0_0,.int .i64 a0_1,.string a0_2]) (t:=55) ?_;intro m hg aB hbox hb;have a:=zM (hbox);have o:=sG HB hg;have p:=sG HB hg;replace HB:=sB HB hb;clear hb hbox hg)|((with_reducible refine gate_dst (N:=3) rfl ?_);refine sV (N:=3) (cs:= #[.int .i64 a1_0,.int .i64 a1_1,.string a1_2]) (t:=55) ?_;intro q hg aC hbox hb;have g:=zM (hbox);have s:=sG HB hg;have u:=sG HB hg;replace HB:=sB HB hb;have j:=sN a hg;have l:=sM a hg;replace a:=sK a hb;clear hb hbox hg;have aD:=j.out;have aE:=l.out;obtain⟨aF,aG,aH,aI,aJ,aK⟩:=cells3 a.out;obtain⟨aL,aM,aN,aO,aP,aQ⟩:=cells3 g.out))
 go_ret
 exact⟨sq,sb⟩
def laws_eqPatternInsS.l0 : Nat → List (S55) → List (S55) → Int → Option (Bool)
 |0,_,_,_=>none
 |k+1,x0,x1,x5=>if x5<(x0.length:Int)then(if 0≤x5 then(if x5<(x1.length:Int)then((laws_eqPatternIns.f ((rd_T55 x0 x5).f0) ((rd_T55 x0 x5).f1) ((rd_T55 x0 x5).f2) ((rd_T55 x1 x5).f0) ((rd_T55 x1 x5).f1) ((rd_T55 x1 x5).f2)).bind fun t395=>(if t395=true then(laws_eqPatternInsS.l0 k x0 x1 (wrap64 (x5+1)))else(some false)))else(none))else(none))else(some true)
def laws_eqPatternInsS.f (k:Nat) (l0:List (S55)) (l1:List (S55)):Option (Bool):=if(l0.length:Int)=(l1.length:Int)then(laws_eqPatternInsS.l0 k l0 l1 0)else(some false)
def laws_eqPatternInsS.T6:Bool×List (List Nat×List Nat):=(true,[([],[]),([],[]),([0,1],[0,1]),([2],[2]),([],[]),([],[]),([4,5],[4,5]),([6],[6]),([3,7],[3,7]),([8],[8])])
def laws_eqPatternInsS.B6:List Nat:=[0,0,3,7,0,0,48,112,255,511]
theorem laws_eqPatternInsS.tab6:rtab .any (opsOf Try.f17 6)=laws_eqPatternInsS.T6:=by kernel_rfl
theorem laws_eqPatternInsS.bits6:waitsOk laws_eqPatternInsS.T6.2 laws_eqPatternInsS.B6=true:=by kernel_rfl
set_option maxHeartbeats 8000000 in
set_option maxRecDepth 100000 in
theorem laws_eqPatternInsS.calls (k:Nat) (A0:Option Addr) (c0:Nat) (l0:List (S55)) (A1:Option Addr) (c1:Nat) (l1:List (S55)) (r:Bool) (w:World) (hr0:Kd.C k55 w A0 l0.length l0) (hc0:l0.length≤c0) (hr1:Kd.C k55 w A1 l1.length l1) (hc1:l1.length≤c1) (h:laws_eqPatternInsS.f k l0 l1=some r):
  Calls Try.prog 17 #[.slice A0 l0.length c0,.slice A1 l1.length c1] w fun e w'=>e= .returned (.bool r)∧Below w.heap.size w w':=by
 have ab:=Try.underlying55
 have X:=zM hr0
 have ac:=zM hc0
 clear hr0 hc0
 have Y:=zM hr1
 have ad:=zM hc1
 clear hr1 hc1
 have HB:=zM (Below.refl w.heap.size w)
 have H:(if(l0.length:Int)=(l1.length:Int)then(laws_eqPatternInsS.l0 k l0 l1 0)else(some false))=some r:=h
 clear h
 by_cases c:(l0.length:Int)=(l1.length:Int)
 ·(
 rw[if_pos c]at H
 have c3b0:((l0.length:Int)==(l1.length:Int))=true:=zE c
 have c3b1:((l0.length:Int) !=(l1.length:Int))=false:=zY c
 have c3b2:(l0.length==l1.length)=true:=by first|simpa using c|(simp at c ⊢;omega)
 clear c
 have H':=zM H
 clear H
 go_enter Try.func17,Try.ntmps17
 go_wp2
 go_loopg [5] k (fun kq v5 w'=>∃(a:Int),v5= .int .i64 a∧Aside0 (laws_eqPatternInsS.l0 kq l0 l1 a=some r)∧Aside0 (kq≤k)∧Aside0 (Below w.heap.size w w'))
 case atStart=>exact⟨(0),sr,H',⟨Nat.le_refl _⟩,⟨sb⟩⟩
 case round=>(
 clear H'
 try clear c1
 try clear c
 try clear c3b0
 try clear c3b1
 try clear c3b2
 obtain⟨a,rfl,HA,Z,HB⟩:=hrel
 cases gk with
 |zero=>exact absurd HA.out (by simp[laws_eqPatternInsS.l0])
 |succ k1=>(
 have H:=HA.out
 clear HA
 simp only[laws_eqPatternInsS.l0]at H
 by_cases G:a<(l0.length:Int)
 ·(
 rw[if_pos G]at H
 have c4b0:=zT G
 clear G
 by_cases J:0≤a
 ·(
 rw[if_pos J]at H
 have c5b0:=zT J
 clear J
 by_cases L:a<(l1.length:Int)
 ·(
 rw[if_pos L]at H
 have c6b0:=zT L
 clear L
 obtain⟨aa,A7,H⟩:=sO H
 by_cases M:aa=true
 ·(
 subst M
 rewrite[if_pos rfl]at H
 have H':=zM H
 clear H
 try go_wp2
 replace HB:=zM (below_drew1 HB.out)
 have B:0≤(a:Int):=zzA
 have D:a<(l0.length:Int):=zzA
 obtain⟨d,O,j,l,m⟩:=at_T55 X.out a B D
 have o:=m
 have p:=l
 have q:=j
 cases O
 replace j:=sX HB j
 replace l:=sX HB l
 replace m:=sX HB m
 replace B:=eq_true B
 replace D:=eq_true D
 have E:0≤(a:Int):=zzA
 have F:a<(l1.length:Int):=zzA
 obtain⟨g,P,s,u,x⟩:=at_T55 Y.out a E F
 have y:=x
 have z:=u
 have A:=s
 cases P
 replace s:=sX HB s
 replace u:=sX HB u
 replace x:=sX HB x
 replace E:=eq_true E
 replace F:=eq_true F
 refine start_ (n:=10) (S:=fun w'=>w'.cell? (d.add ((a).toNat*3))=some (.int .i64 ((rd_T55 l0 a).f0))∧w'.cell? ⟨(d.add ((a).toNat*3)).block,(d.add ((a).toNat*3)).off+1,none⟩=some (.int .i64 ((rd_T55 l0 a).f1))∧w'.cell? ⟨(d.add ((a).toNat*3)).block,(d.add ((a).toNat*3)).off+2,none⟩=some (.string ((rd_T55 l0 a).f2))∧w'.cell? (g.add ((a).toNat*3))=some (.int .i64 ((rd_T55 l1 a).f0))∧w'.cell? ⟨(g.add ((a).toNat*3)).block,(g.add ((a).toNat*3)).off+1,none⟩=some (.int .i64 ((rd_T55 l1 a).f1))∧w'.cell? ⟨(g.add ((a).toNat*3)).block,(g.add ((a).toNat*3)).off+2,none⟩=some (.string ((rd_T55 l1 a).f2))) (ds:=[]) #[false,false,false,false,false,false,false,false,false,false] (by kernel_rfl) rfl rfl ⟨((HB.out.cell (zL w _ q)).trans q),((HB.out.cell (zL w _ p)).trans p),((HB.out.cell (zL w _ o)).trans o),((HB.out.cell (zL w _ A)).trans A),((HB.out.cell (zL w _ z)).trans z),((HB.out.cell (zL w _ y)).trans y)⟩ (fun hHeld=>?_);refine with_tabW laws_eqPatternInsS.tab6 laws_eqPatternInsS.bits6 (fun b I=>?_)
 generalize wr.drew=w9 at HB j l m s u x hHeld ⊢
 refine pure_ (i:=0) (N:=some 17) (v:=?_) (a':=?_) (bN 10 1) rfl rfl (any_of b.out (by kernel_rfl)) (fun _ _ _ h=>h) (Or.inl ⟨by rfl,?_⟩) ?_ ?_
 rotate_left
 ·(
 intro w'
 go_simp
 with_reducible rfl)
 rotate_left
 ·(
 simp only[zP,i64_w,i32_w]
 rfl)
 refine pure_ (i:=1) (N:=some 18) (v:=?_) (a':=?_) (bN 10 3) rfl rfl (any_of b.out (by kernel_rfl)) (fun _ _ _ h=>h) (Or.inl ⟨by rfl,?_⟩) ?_ ?_
 rotate_left
 ·(
 intro w'
 go_simp
 with_reducible rfl)
 rotate_left
 ·(
 simp only[zP,i64_w,i32_w]
 rfl)
 refine pure_ (i:=2) (N:=some 19) (v:=?_) (a':=?_) (bN 10 7) rfl rfl (any_of b.out (by kernel_rfl)) (fun _ _ _ h=>h) (Or.inl ⟨by rfl,?_⟩) ?_ ?_
 rotate_left
 ·(
 intro w'
 go_simp
 with_reducible rfl)
 rotate_left
 ·(
 simp only[zP,i64_w,i32_w]
 rfl)
 refine pure_ (i:=4) (N:=some 21) (v:=?_) (a':=?_) (bN 10 23) rfl rfl (any_of b.out (by kernel_rfl)) (fun _ _ _ h=>h) (Or.inl ⟨by rfl,?_⟩) ?_ ?_
 rotate_left
 ·(
 intro w'
 go_simp
 with_reducible rfl)
 rotate_left
 ·(
 simp only[zP,i64_w,i32_w]
 rfl)
 refine pure_ (i:=5) (N:=some 22) (v:=?_) (a':=?_) (bN 10 55) rfl rfl (any_of b.out (by kernel_rfl)) (fun _ _ _ h=>h) (Or.inl ⟨by rfl,?_⟩) ?_ ?_
 rotate_left
 ·(
 intro w'
 go_simp
 with_reducible rfl)
 rotate_left
 ·(
 simp only[zP,i64_w,i32_w]
 rfl)
 refine pure_ (i:=6) (N:=some 23) (v:=?_) (a':=?_) (bN 10 119) rfl rfl (any_of b.out (by kernel_rfl)) (fun _ _ _ h=>h) (Or.inl ⟨by rfl,?_⟩) ?_ ?_
 rotate_left
 ·(
 intro w'
 go_simp
 with_reducible rfl)
 rotate_left
 ·(
 simp only[zP,i64_w,i32_w]
 rfl)
 refine take_ (i:=3) (N:=some 20) (v:=?_) (a':=?_) (bN 10 127) rfl rfl (take_ofW b.out I.out (by kernel_rfl)) (fun _ _ _ h=>h) (Or.inl ⟨by rfl,?_⟩) hHeld ?_ ?_
 rotate_left
 ·(
 rintro w' ⟨Q,R,T,U,V,W⟩
 go_simp
 with_reducible rfl)
 rotate_left
 ·(
 simp only[zP,i64_w,i32_w]
 rfl)
 refine take_ (i:=7) (N:=some 24) (v:=?_) (a':=?_) (bN 10 255) rfl rfl (take_ofW b.out I.out (by kernel_rfl)) (fun _ _ _ h=>h) (Or.inl ⟨by rfl,?_⟩) hHeld ?_ ?_
 rotate_left
 ·(
 rintro w' ⟨Q,R,T,U,V,W⟩
 go_simp
 with_reducible rfl)
 rotate_left
 ·(
 simp only[zP,i64_w,i32_w]
 rfl)
 refine one_ (i:=8) (N:=some 25) (bN 10 511) rfl rfl (one_of b.out (by kernel_rfl)) (by decide) (fun K hK=>?_)
 refine goes_ Try.func26 (by kernel_rfl) rfl #[.agg #[.int .i64 ((rd_T55 l0 a).f0),.int .i64 ((rd_T55 l0 a).f1),.string ((rd_T55 l0 a).f2)],.agg #[.int .i64 ((rd_T55 l1 a).f0),.int .i64 ((rd_T55 l1 a).f1),.string ((rd_T55 l1 a).f2)]] (by rfl) rfl rfl (by(try simp only[List.map_toArray,List.map_cons,List.map_nil]);first|done|rfl|(simp only[List.length_drop,List.length_take];rfl)) ?_
 with_reducible refine(laws_eqPatternIns.calls ((rd_T55 l0 a).f0) ((rd_T55 l0 a).f1) ((rd_T55 l0 a).f2) ((rd_T55 l1 a).f0) ((rd_T55 l1 a).f1) ((rd_T55 l1 a).f2) true _ A7.out).mono ?_
 rintro e ae ⟨rfl,hb⟩
 refine⟨_,rfl,?_⟩
 replace HB:=sB HB hb
 (try clear hb)
 (try clear hb2)
 (try clear hk)
 (try clear hi)
 refine hK.out _ _ ⟨((HB.out.cell (zL w _ q)).trans q),((HB.out.cell (zL w _ p)).trans p),((HB.out.cell (zL w _ o)).trans o),((HB.out.cell (zL w _ A)).trans A),((HB.out.cell (zL w _ z)).trans z),((HB.out.cell (zL w _ y)).trans y)⟩ (fun hHeld=>?_)
 clear hK K
 refine norm_ (a':=?_) ?_ ?_
 rotate_left
 ·(
 show Act.put _ (some 25) _=_
 simp only[zP,i64_w,i32_w]
 rfl)
 refine pure_ (i:=9) (N:=some 26) (v:=?_) (a':=?_) (bN 10 1023) rfl rfl (any_of b.out (by kernel_rfl)) (fun _ _ _ h=>h) (Or.inl ⟨by rfl,?_⟩) ?_ ?_
 rotate_left
 ·(
 intro w'
 go_simp
 with_reducible rfl)
 rotate_left
 ·(
 simp only[zP,i64_w,i32_w]
 rfl)
 refine done_ (done_of b.out (by kernel_rfl)) ?_
 try go_wp2
 go_roundg k1
 case measure=>have:=Z.out;omega
 case rel=>exact⟨(wrap64 (a+1)),sr,H',⟨by have:=Z.out;omega⟩,⟨sb⟩⟩)
 replace M:=zB M
 subst M
 rewrite[if_neg zQ]at H
 obtain rfl:=zI H
 try go_wp2
 replace HB:=zM (below_drew1 HB.out)
 have B:0≤(a:Int):=zzA
 have D:a<(l0.length:Int):=zzA
 obtain⟨d,O,j,l,m⟩:=at_T55 X.out a B D
 have o:=m
 have p:=l
 have q:=j
 cases O
 replace j:=sX HB j
 replace l:=sX HB l
 replace m:=sX HB m
 replace B:=eq_true B
 replace D:=eq_true D
 have E:0≤(a:Int):=zzA
 have F:a<(l1.length:Int):=zzA
 obtain⟨g,P,s,u,x⟩:=at_T55 Y.out a E F
 have y:=x
 have z:=u
 have A:=s
 cases P
 replace s:=sX HB s
 replace u:=sX HB u
 replace x:=sX HB x
 replace E:=eq_true E
 replace F:=eq_true F
 refine start_ (n:=10) (S:=fun w'=>w'.cell? (d.add ((a).toNat*3))=some (.int .i64 ((rd_T55 l0 a).f0))∧w'.cell? ⟨(d.add ((a).toNat*3)).block,(d.add ((a).toNat*3)).off+1,none⟩=some (.int .i64 ((rd_T55 l0 a).f1))∧w'.cell? ⟨(d.add ((a).toNat*3)).block,(d.add ((a).toNat*3)).off+2,none⟩=some (.string ((rd_T55 l0 a).f2))∧w'.cell? (g.add ((a).toNat*3))=some (.int .i64 ((rd_T55 l1 a).f0))∧w'.cell? ⟨(g.add ((a).toNat*3)).block,(g.add ((a).toNat*3)).off+1,none⟩=some (.int .i64 ((rd_T55 l1 a).f1))∧w'.cell? ⟨(g.add ((a).toNat*3)).block,(g.add ((a).toNat*3)).off+2,none⟩=some (.string ((rd_T55 l1 a).f2))) (ds:=[]) #[false,false,false,false,false,false,false,false,false,false] (by kernel_rfl) rfl rfl ⟨((HB.out.cell (zL w _ q)).trans q),((HB.out.cell (zL w _ p)).trans p),((HB.out.cell (zL w _ o)).trans o),((HB.out.cell (zL w _ A)).trans A),((HB.out.cell (zL w _ z)).trans z),((HB.out.cell (zL w _ y)).trans y)⟩ (fun hHeld=>?_);refine with_tabW laws_eqPatternInsS.tab6 laws_eqPatternInsS.bits6 (fun b I=>?_)
 generalize wr.drew=w11 at HB j l m s u x hHeld ⊢
 refine pure_ (i:=0) (N:=some 17) (v:=?_) (a':=?_) (bN 10 1) rfl rfl (any_of b.out (by kernel_rfl)) (fun _ _ _ h=>h) (Or.inl ⟨by rfl,?_⟩) ?_ ?_
 rotate_left
 ·(
 intro w'
 go_simp
 with_reducible rfl)
 rotate_left
 ·(
 simp only[zP,i64_w,i32_w]
 rfl)
 refine pure_ (i:=1) (N:=some 18) (v:=?_) (a':=?_) (bN 10 3) rfl rfl (any_of b.out (by kernel_rfl)) (fun _ _ _ h=>h) (Or.inl ⟨by rfl,?_⟩) ?_ ?_
 rotate_left
 ·(
 intro w'
 go_simp
 with_reducible rfl)
 rotate_left
 ·(
 simp only[zP,i64_w,i32_w]
 rfl)
 refine pure_ (i:=2) (N:=some 19) (v:=?_) (a':=?_) (bN 10 7) rfl rfl (any_of b.out (by kernel_rfl)) (fun _ _ _ h=>h) (Or.inl ⟨by rfl,?_⟩) ?_ ?_
 rotate_left
 ·(
 intro w'
 go_simp
 with_reducible rfl)
 rotate_left
 ·(
 simp only[zP,i64_w,i32_w]
 rfl)
 refine pure_ (i:=4) (N:=some 21) (v:=?_) (a':=?_) (bN 10 23) rfl rfl (any_of b.out (by kernel_rfl)) (fun _ _ _ h=>h) (Or.inl ⟨by rfl,?_⟩) ?_ ?_
 rotate_left
 ·(
 intro w'
 go_simp
 with_reducible rfl)
 rotate_left
 ·(
 simp only[zP,i64_w,i32_w]
 rfl)
 refine pure_ (i:=5) (N:=some 22) (v:=?_) (a':=?_) (bN 10 55) rfl rfl (any_of b.out (by kernel_rfl)) (fun _ _ _ h=>h) (Or.inl ⟨by rfl,?_⟩) ?_ ?_
 rotate_left
 ·(
 intro w'
 go_simp
 with_reducible rfl)
 rotate_left
 ·(
 simp only[zP,i64_w,i32_w]
 rfl)
 refine pure_ (i:=6) (N:=some 23) (v:=?_) (a':=?_) (bN 10 119) rfl rfl (any_of b.out (by kernel_rfl)) (fun _ _ _ h=>h) (Or.inl ⟨by rfl,?_⟩) ?_ ?_
 rotate_left
 ·(
 intro w'
 go_simp
 with_reducible rfl)
 rotate_left
 ·(
 simp only[zP,i64_w,i32_w]
 rfl)
 refine take_ (i:=3) (N:=some 20) (v:=?_) (a':=?_) (bN 10 127) rfl rfl (take_ofW b.out I.out (by kernel_rfl)) (fun _ _ _ h=>h) (Or.inl ⟨by rfl,?_⟩) hHeld ?_ ?_
 rotate_left
 ·(
 rintro w' ⟨Q,R,T,U,V,W⟩
 go_simp
 with_reducible rfl)
 rotate_left
 ·(
 simp only[zP,i64_w,i32_w]
 rfl)
 refine take_ (i:=7) (N:=some 24) (v:=?_) (a':=?_) (bN 10 255) rfl rfl (take_ofW b.out I.out (by kernel_rfl)) (fun _ _ _ h=>h) (Or.inl ⟨by rfl,?_⟩) hHeld ?_ ?_
 rotate_left
 ·(
 rintro w' ⟨Q,R,T,U,V,W⟩
 go_simp
 with_reducible rfl)
 rotate_left
 ·(
 simp only[zP,i64_w,i32_w]
 rfl)
 refine one_ (i:=8) (N:=some 25) (bN 10 511) rfl rfl (one_of b.out (by kernel_rfl)) (by decide) (fun K hK=>?_)
 refine goes_ Try.func26 (by kernel_rfl) rfl #[.agg #[.int .i64 ((rd_T55 l0 a).f0),.int .i64 ((rd_T55 l0 a).f1),.string ((rd_T55 l0 a).f2)],.agg #[.int .i64 ((rd_T55 l1 a).f0),.int .i64 ((rd_T55 l1 a).f1),.string ((rd_T55 l1 a).f2)]] (by rfl) rfl rfl (by(try simp only[List.map_toArray,List.map_cons,List.map_nil]);first|done|rfl|(simp only[List.length_drop,List.length_take];rfl)) ?_
 with_reducible refine(laws_eqPatternIns.calls ((rd_T55 l0 a).f0) ((rd_T55 l0 a).f1) ((rd_T55 l0 a).f2) ((rd_T55 l1 a).f0) ((rd_T55 l1 a).f1) ((rd_T55 l1 a).f2) false _ A7.out).mono ?_
 rintro e af ⟨rfl,hb⟩
 refine⟨_,rfl,?_⟩
 replace HB:=sB HB hb
 (try clear hb)
 (try clear hb2)
 (try clear hk)
 (try clear hi)
 refine hK.out _ _ ⟨((HB.out.cell (zL w _ q)).trans q),((HB.out.cell (zL w _ p)).trans p),((HB.out.cell (zL w _ o)).trans o),((HB.out.cell (zL w _ A)).trans A),((HB.out.cell (zL w _ z)).trans z),((HB.out.cell (zL w _ y)).trans y)⟩ (fun hHeld=>?_)
 clear hK K
 refine norm_ (a':=?_) ?_ ?_
 rotate_left
 ·(
 show Act.put _ (some 25) _=_
 simp only[zP,i64_w,i32_w]
 rfl)
 refine pure_ (i:=9) (N:=some 26) (v:=?_) (a':=?_) (bN 10 1023) rfl rfl (any_of b.out (by kernel_rfl)) (fun _ _ _ h=>h) (Or.inl ⟨by rfl,?_⟩) ?_ ?_
 rotate_left
 ·(
 intro w'
 go_simp
 with_reducible rfl)
 rotate_left
 ·(
 simp only[zP,i64_w,i32_w]
 rfl)
 refine done_ (done_of b.out (by kernel_rfl)) ?_
 try go_wp2
 go_ret
 exact⟨sq,sb⟩)
 rw[if_neg L]at H
 exact absurd H (by simp))
 rw[if_neg J]at H
 exact absurd H (by simp))
 rw[if_neg G]at H
 have c4b0:=zF G
 clear G
 obtain rfl:=zI H
 go_wp2
 go_ret
 exact⟨sq,sb⟩)))
 rw[if_neg c]at H
 have c3b0:((l0.length:Int)==(l1.length:Int))=false:=zN c
 have c3b1:((l0.length:Int) !=(l1.length:Int))=true:=zX c
 have c3b2:(l0.length==l1.length)=false:=by first|simpa using c|(simp at c ⊢;omega)
 obtain rfl:=zI H
 go_enter Try.func17,Try.ntmps17
 go_wp2
 go_ret
 exact⟨sq,sb⟩
end Go.Proofs.Ytcppdkdnpmgpmaa.PFnExactEntryOf
