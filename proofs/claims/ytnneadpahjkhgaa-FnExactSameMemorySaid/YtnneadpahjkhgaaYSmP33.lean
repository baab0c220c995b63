/- Printed functions: laws_eqStringS, laws_eqFunction, laws_eqRecordType, laws_eqFile. -/
import Derived.Test.YtnneadpahjkhgaaYSmP0
namespace Go.Proofs.Ytnneadpahjkhgaa.PFnExactSameMemory
open Go.RowKit Go.Proofs.YtnneadpahjkhgaaG Go.Proofs.YtnneadpahjkhgaaW.PrintWords Go.Proofs.YtnneadpahjkhgaaW.PrintLast Go.Proofs.YtnneadpahjkhgaaW.PrintMore
attribute [local go_sem] max2_int min2_int max_two min_two max_three min_three max_four min_four
set_option linter.unusedVariables false
set_option linter.unusedSimpArgs false
def laws_eqStringS.l0 : Nat → List ByteArray → List ByteArray → Int → Option (Bool)
 |0,_,_,_=>none
 |k+1,x0,x1,x5=>if x5<(x0.length:Int)then(if 0≤x5 then(if x5<(x1.length:Int)then(if(rdOf ByteArray.empty x0 x5).toList=(rdOf ByteArray.empty x1 x5).toList then(laws_eqStringS.l0 k x0 x1 (wrap64 (x5+1)))else(some false))else(none))else(none))else(some true)
def laws_eqStringS.f (k:Nat) (l0:List ByteArray) (l1:List ByteArray):Option (Bool):=if(l0.length:Int)=(l1.length:Int)then(laws_eqStringS.l0 k l0 l1 0)else(some false)
set_option maxHeartbeats 8000000 in
set_option maxRecDepth 100000 in
theorem laws_eqStringS.calls (k:Nat) (A0:Option Addr) (c0:Nat) (l0:List ByteArray) (A1:Option Addr) (c1:Nat) (l1:List ByteArray) (r:Bool) (w:World) (hr0:Kd.C Kd.string w A0 l0.length l0) (hc0:l0.length≤c0) (hr1:Kd.C Kd.string w A1 l1.length l1) (hc1:l1.length≤c1) (h:laws_eqStringS.f k l0 l1=some r):
  Calls Try.prog 48 #[.slice A0 l0.length c0,.slice A1 l1.length c1] w fun e w'=>e= .returned (.bool r)∧Drawn0 w w':=by
 have q:=zM hr0
 have B:=zM hc0
 clear hr0 hc0
 have s:=zM hr1
 have D:=zM hc1
 clear hr1 hc1
 have H:(if(l0.length:Int)=(l1.length:Int)then(laws_eqStringS.l0 k l0 l1 0)else(some false))=some r:=h
 clear h
 by_cases b:(l0.length:Int)=(l1.length:Int)
 ·(
 rw[if_pos b]at H
 have c3b0:((l0.length:Int)==(l1.length:Int))=true:=zE b
 have c3b1:((l0.length:Int) !=(l1.length:Int))=false:=zY b
 have c3b2:(l0.length==l1.length)=true:=by first|simpa using b|(simp at b ⊢;omega)
 clear b
 have H':=zM H
 clear H
 go_enter Try.func48,Try.ntmps48
 go_wp2
 repeat(go_quiet (fail);try go_wp2)
 go_loopg [5] k (fun kq v w'=>∃(a:Int),v= .int .i64 a∧Aside0 (laws_eqStringS.l0 kq l0 l1 a=some r)∧Aside0 (kq≤k)∧Drawn0 w w')
 case atStart=>exact⟨(0),sr,H',⟨Nat.le_refl _⟩,by repeat(first|exact Drawn0.refl _|apply Drawn0.step)⟩
 case round=>(
 clear H'
 try clear c1
 try clear b
 try clear c3b0
 try clear c3b1
 try clear c3b2
 obtain⟨a,rfl,HA,u,⟨E,rfl⟩⟩:=hrel
 cases gk with
 |zero=>exact absurd HA.out (by simp[laws_eqStringS.l0])
 |succ k1=>(
 have H:=HA.out
 clear HA
 simp only[laws_eqStringS.l0]at H
 by_cases l:a<(l0.length:Int)
 ·(
 rw[if_pos l]at H
 have c4b0:=zT l
 clear l
 by_cases m:0≤a
 ·(
 rw[if_pos m]at H
 have c5b0:=zT m
 clear m
 by_cases n:a<(l1.length:Int)
 ·(
 rw[if_pos n]at H
 have c6b0:=zT n
 clear n
 by_cases c:(rdOf ByteArray.empty l0 a).toList=(rdOf ByteArray.empty l1 a).toList
 ·(
 rw[if_pos c]at H
 have c7b0:((rdOf ByteArray.empty l0 a).toList==(rdOf ByteArray.empty l1 a).toList)=true:=zE c
 have c7b1:((rdOf ByteArray.empty l0 a).toList !=(rdOf ByteArray.empty l1 a).toList)=false:=zY c
 clear c
 have H':=zM H
 clear H
 have d:0≤(a:Int):=zO (by first|(with_reducible assumption)|assumption)
 have g:a<(l0.length:Int):=zO (by first|(with_reducible assumption)|assumption)
 obtain⟨x,o,y⟩:=Kd.at_string q.out a d g
 cases o
 replace d:=eq_true d
 replace g:=eq_true g
 have i:0≤(a:Int):=zO (by first|(with_reducible assumption)|assumption)
 have j:a<(l1.length:Int):=zO (by first|(with_reducible assumption)|assumption)
 obtain⟨z,p,A⟩:=Kd.at_string s.out a i j
 cases p
 replace i:=eq_true i
 replace j:=eq_true j
 go_wp2
 repeat(go_quiet (fail);try go_wp2)
 go_roundg k1
 case measure=>have:=u.out;omega
 case rel=>exact⟨(wrap64 (a+1)),sr,H',⟨by have:=u.out;omega⟩,by repeat(first|exact Drawn0.refl _|apply Drawn0.step)⟩)
 rw[if_neg c]at H
 have c7b0:((rdOf ByteArray.empty l0 a).toList==(rdOf ByteArray.empty l1 a).toList)=false:=zN c
 have c7b1:((rdOf ByteArray.empty l0 a).toList !=(rdOf ByteArray.empty l1 a).toList)=true:=zX c
 obtain rfl:=zI H
 have d:0≤(a:Int):=zO (by first|(with_reducible assumption)|assumption)
 have g:a<(l0.length:Int):=zO (by first|(with_reducible assumption)|assumption)
 obtain⟨x,o,y⟩:=Kd.at_string q.out a d g
 cases o
 replace d:=eq_true d
 replace g:=eq_true g
 have i:0≤(a:Int):=zO (by first|(with_reducible assumption)|assumption)
 have j:a<(l1.length:Int):=zO (by first|(with_reducible assumption)|assumption)
 obtain⟨z,p,A⟩:=Kd.at_string s.out a i j
 cases p
 replace i:=eq_true i
 replace j:=eq_true j
 go_wp2
 repeat(go_quiet (fail);try go_wp2)
 go_ret
 exact⟨by first|rfl|(simp;done)|(simp[*];done),by repeat(first|exact Drawn0.refl _|apply Drawn0.step)⟩)
 rw[if_neg n]at H
 exact absurd H (by simp))
 rw[if_neg m]at H
 exact absurd H (by simp))
 rw[if_neg l]at H
 have c4b0:=zF l
 clear l
 obtain rfl:=zI H
 go_wp2
 repeat(go_quiet (fail);try go_wp2)
 go_ret
 exact⟨by first|rfl|(simp;done)|(simp[*];done),by repeat(first|exact Drawn0.refl _|apply Drawn0.step)⟩)))
 rw[if_neg b]at H
 have c3b0:((l0.length:Int)==(l1.length:Int))=false:=zN b
 have c3b1:((l0.length:Int) !=(l1.length:Int))=true:=zX b
 have c3b2:(l0.length==l1.length)=false:=by first|simpa using b|(simp at b ⊢;omega)
 obtain rfl:=zI H
 go_enter Try.func48,Try.ntmps48
 go_wp2
 repeat(go_quiet (fail);try go_wp2)
 go_ret
 exact⟨by first|rfl|(simp;done)|(simp[*];done),by repeat(first|exact Drawn0.refl _|apply Drawn0.step)⟩
def laws_eqFunction.f (k:Nat) (a0_0:ByteArray) (l0_1:List ByteArray) (l0_2:List ByteArray) (a0_3:ByteArray) (a1_0:ByteArray) (l1_1:List ByteArray) (l1_2:List ByteArray) (a1_3:ByteArray):Option (Bool):=if a0_0.toList=a1_0.toList then((laws_eqStringS.f k l0_1 l1_1).bind fun t468=>(if t468=true then((laws_eqStringS.f k l0_2 l1_2).bind fun t469=>(if t469=true then(if a0_3.toList=a1_3.toList then(some true)else(some false))else(some false)))else(some false)))else(some false)
set_option maxHeartbeats 8000000 in
set_option maxRecDepth 100000 in
theorem laws_eqFunction.calls (k:Nat) (a0_0:ByteArray) (A0_1:Option Addr) (c0_1:Nat) (l0_1:List ByteArray) (A0_2:Option Addr) (c0_2:Nat) (l0_2:List ByteArray) (a0_3:ByteArray) (a1_0:ByteArray) (A1_1:Option Addr) (c1_1:Nat) (l1_1:List ByteArray) (A1_2:Option Addr) (c1_2:Nat) (l1_2:List ByteArray) (a1_3:ByteArray) (r:Bool) (w:World) (hr0_1:Kd.C Kd.string w A0_1 l0_1.length l0_1) (hc0_1:l0_1.length≤c0_1) (hr0_2:Kd.C Kd.string w A0_2 l0_2.length l0_2) (hc0_2:l0_2.length≤c0_2) (hr1_1:Kd.C Kd.string w A1_1 l1_1.length l1_1) (hc1_1:l1_1.length≤c1_1) (hr1_2:Kd.C Kd.string w A1_2 l1_2.length l1_2) (hc1_2:l1_2.length≤c1_2) (h:laws_eqFunction.f k a0_0 l0_1 l0_2 a0_3 a1_0 l1_1 l1_2 a1_3=some r):
  Calls Try.prog 99 #[.agg #[.string a0_0,.slice A0_1 l0_1.length c0_1,.slice A0_2 l0_2.length c0_2,.string a0_3],.agg #[.string a1_0,.slice A1_1 l1_1.length c1_1,.slice A1_2 l1_2.length c1_2,.string a1_3]] w fun e w'=>e= .returned (.bool r)∧Below w.heap.size w w':=by
 have J:=Try.underlying107
 have m:=zM hr0_1
 have n:=zM hc0_1
 clear hr0_1 hc0_1
 have A:=zM hr0_2
 have B:=zM hc0_2
 clear hr0_2 hc0_2
 have o:=zM hr1_1
 have p:=zM hc1_1
 clear hr1_1 hc1_1
 have D:=zM hr1_2
 have E:=zM hc1_2
 clear hr1_2 hc1_2
 have HB:=zM (Below.refl w.heap.size w)
 have H:(if a0_0.toList=a1_0.toList then((laws_eqStringS.f k l0_1 l1_1).bind fun F=>(if F=true then((laws_eqStringS.f k l0_2 l1_2).bind fun G=>(if G=true then(if a0_3.toList=a1_3.toList then(some true)else(some false))else(some false)))else(some false)))else(some false))=some r:=h
 clear h
 by_cases j:a0_0.toList=a1_0.toList
 ·(
 rw[if_pos j]at H
 have c3b0:(a0_0.toList==a1_0.toList)=true:=zE j
 have c3b1:(a0_0.toList !=a1_0.toList)=false:=zY j
 clear j
 obtain⟨F,q,H⟩:=sO H
 by_cases s:F=true
 ·(
 subst s
 rewrite[if_pos rfl]at H
 obtain⟨G,I,H⟩:=sO H
 by_cases u:G=true
 ·(
 subst u
 rewrite[if_pos rfl]at H
 by_cases l:a0_3.toList=a1_3.toList
 ·(
 rw[if_pos l]at H
 have c8b0:(a0_3.toList==a1_3.toList)=true:=zE l
 have c8b1:(a0_3.toList !=a1_3.toList)=false:=zY l
 clear l
 obtain rfl:=zI H
 go_enter Try.func99,Try.ntmps99
 go_wp2_with (first|((with_reducible refine gate_dst (N:=2) rfl ?_);refine sV (N:=2) (cs:= #[.string a0_0,.slice A0_1 l0_1.length c0_1,.slice A0_2 l0_2.length c0_2,.string a0_3]) (t:=107) ?_;intro v hg K hbox hb;have a:=zM (hbox);have x:=sG HB hg;have b:=sG HB hg;replace HB:=sB HB hb;clear hb hbox hg)|((with_reducible refine gate_dst (N:=3) rfl ?_);refine sV (N:=3) (cs:= #[.string a1_0,.slice A1_1 l1_1.length c1_1,.slice A1_2 l1_2.length c1_2,.string a1_3]) (t:=107) ?_;intro y hg L hbox hb;have d:=zM (hbox);have z:=sG HB hg;have c:=sG HB hg;replace HB:=sB HB hb;have g:=sN a hg;have i:=sM a hg;replace a:=sK a hb;clear hb hbox hg;have M:=g.out;have O:=i.out;obtain⟨P,Q,R,S,T,U,V,W⟩:=cells4 a.out;obtain⟨X,Y,Z,aa,ab,ac,ad,ae⟩:=cells4 d.out)|((with_reducible refine gate_callee (f:=48) rfl ?_);refine sC (some 14) Try.func48 #[.slice A0_1 l0_1.length c0_1,.slice A1_1 l1_1.length c1_1] (laws_eqStringS.calls k _ _ l0_1 _ _ l1_1 true _ ?side1 ?side2 ?side3 ?side4 q.out) ?_;(case side1=>exact sD (zC m.out HB.out));(case side2=>exact n.out);(case side3=>exact sD (zC o.out HB.out));(case side4=>exact p.out);rintro e w' ⟨rfl,⟨nd,rfl⟩⟩;refine⟨_,rfl,?_⟩)|((with_reducible refine gate_callee (f:=48) rfl ?_);refine sC (some 20) Try.func48 #[.slice A0_2 l0_2.length c0_2,.slice A1_2 l1_2.length c1_2] (laws_eqStringS.calls k _ _ l0_2 _ _ l1_2 true _ ?side1 ?side2 ?side3 ?side4 I.out) ?_;(case side1=>exact sD (zC A.out (by repeat(first|(with_reducible first|exact HB.out|apply below_alloc|apply pw_below_drewN|apply below_drew1|refine below_set ?_ b.out|refine below_set ?_ c.out)|exact HB.out))));(case side2=>exact B.out);(case side3=>exact sD (zC D.out (by repeat(first|(with_reducible first|exact HB.out|apply below_alloc|apply pw_below_drewN|apply below_drew1|refine below_set ?_ b.out|refine below_set ?_ c.out)|exact HB.out))));(case side4=>exact E.out);rintro e w' ⟨rfl,⟨nd,rfl⟩⟩;refine⟨_,rfl,?_⟩))
 go_ret
 exact⟨sq,sb⟩)
 rw[if_neg l]at H
 have c8b0:(a0_3.toList==a1_3.toList)=false:=zN l
 have c8b1:(a0_3.toList !=a1_3.toList)=true:=zX l
 obtain rfl:=zI H
 go_enter Try.func99,Try.ntmps99
 go_wp2_with (first|((with_reducible refine gate_dst (N:=2) rfl ?_);refine sV (N:=2) (cs:= #[.string a0_0,.slice A0_1 l0_1.length c0_1,.slice A0_2 l0_2.length c0_2,.string a0_3]) (t:=107) ?_;intro v hg af hbox hb;have a:=zM (hbox);have x:=sG HB hg;have b:=sG HB hg;replace HB:=sB HB hb;clear hb hbox hg)|((with_reducible refine gate_dst (N:=3) rfl ?_);refine sV (N:=3) (cs:= #[.string a1_0,.slice A1_1 l1_1.length c1_1,.slice A1_2 l1_2.length c1_2,.string a1_3]) (t:=107) ?_;intro y hg ag hbox hb;have d:=zM (hbox);have z:=sG HB hg;have c:=sG HB hg;replace HB:=sB HB hb;have g:=sN a hg;have i:=sM a hg;replace a:=sK a hb;clear hb hbox hg;have ah:=g.out;have ai:=i.out;obtain⟨aj,ak,al,am,an,ao,ap,aq⟩:=cells4 a.out;obtain⟨ar,au,av,aw,ax,ay,az,aA⟩:=cells4 d.out)|((with_reducible refine gate_callee (f:=48) rfl ?_);refine sC (some 14) Try.func48 #[.slice A0_1 l0_1.length c0_1,.slice A1_1 l1_1.length c1_1] (laws_eqStringS.calls k _ _ l0_1 _ _ l1_1 true _ ?side1 ?side2 ?side3 ?side4 q.out) ?_;(case side1=>exact sD (zC m.out HB.out));(case side2=>exact n.out);(case side3=>exact sD (zC o.out HB.out));(case side4=>exact p.out);rintro e w' ⟨rfl,⟨nd,rfl⟩⟩;refine⟨_,rfl,?_⟩)|((with_reducible refine gate_callee (f:=48) rfl ?_);refine sC (some 20) Try.func48 #[.slice A0_2 l0_2.length c0_2,.slice A1_2 l1_2.length c1_2] (laws_eqStringS.calls k _ _ l0_2 _ _ l1_2 true _ ?side1 ?side2 ?side3 ?side4 I.out) ?_;(case side1=>exact sD (zC A.out (by repeat(first|(with_reducible first|exact HB.out|apply below_alloc|apply pw_below_drewN|apply below_drew1|refine below_set ?_ b.out|refine below_set ?_ c.out)|exact HB.out))));(case side2=>exact B.out);(case side3=>exact sD (zC D.out (by repeat(first|(with_reducible first|exact HB.out|apply below_alloc|apply pw_below_drewN|apply below_drew1|refine below_set ?_ b.out|refine below_set ?_ c.out)|exact HB.out))));(case side4=>exact E.out);rintro e w' ⟨rfl,⟨nd,rfl⟩⟩;refine⟨_,rfl,?_⟩))
 go_ret
 exact⟨sq,sb⟩)
 replace u:=zB u
 subst u
 rewrite[if_neg zQ]at H
 obtain rfl:=zI H
 go_enter Try.func99,Try.ntmps99
 go_wp2_with (first|((with_reducible refine gate_dst (N:=2) rfl ?_);refine sV (N:=2) (cs:= #[.string a0_0,.slice A0_1 l0_1.length c0_1,.slice A0_2 l0_2.length c0_2,.string a0_3]) (t:=107) ?_;intro v hg aB hbox hb;have a:=zM (hbox);have x:=sG HB hg;have b:=sG HB hg;replace HB:=sB HB hb;clear hb hbox hg)|((with_reducible refine gate_dst (N:=3) rfl ?_);refine sV (N:=3) (cs:= #[.string a1_0,.slice A1_1 l1_1.length c1_1,.slice A1_2 l1_2.length c1_2,.string a1_3]) (t:=107) ?_;intro y hg aC hbox hb;have d:=zM (hbox);have z:=sG HB hg;have c:=sG HB hg;replace HB:=sB HB hb;have g:=sN a hg;have i:=sM a hg;replace a:=sK a hb;clear hb hbox hg;have aD:=g.out;have aE:=i.out;obtain⟨aF,aG,aH,aI,aJ,aK,aL,aM⟩:=cells4 a.out;obtain⟨aN,aO,aP,aQ,aR,aS,aT,aU⟩:=cells4 d.out)|((with_reducible refine gate_callee (f:=48) rfl ?_);refine sC (some 14) Try.func48 #[.slice A0_1 l0_1.length c0_1,.slice A1_1 l1_1.length c1_1] (laws_eqStringS.calls k _ _ l0_1 _ _ l1_1 true _ ?side1 ?side2 ?side3 ?side4 q.out) ?_;(case side1=>exact sD (zC m.out HB.out));(case side2=>exact n.out);(case side3=>exact sD (zC o.out HB.out));(case side4=>exact p.out);rintro e w' ⟨rfl,⟨nd,rfl⟩⟩;refine⟨_,rfl,?_⟩)|((with_reducible refine gate_callee (f:=48) rfl ?_);refine sC (some 20) Try.func48 #[.slice A0_2 l0_2.length c0_2,.slice A1_2 l1_2.length c1_2] (laws_eqStringS.calls k _ _ l0_2 _ _ l1_2 false _ ?side1 ?side2 ?side3 ?side4 I.out) ?_;(case side1=>exact sD (zC A.out (by repeat(first|(with_reducible first|exact HB.out|apply below_alloc|apply pw_below_drewN|apply below_drew1|refine below_set ?_ b.out|refine below_set ?_ c.out)|exact HB.out))));(case side2=>exact B.out);(case side3=>exact sD (zC D.out (by repeat(first|(with_reducible first|exact HB.out|apply below_alloc|apply pw_below_drewN|apply below_drew1|refine below_set ?_ b.out|refine below_set ?_ c.out)|exact HB.out))));(case side4=>exact E.out);rintro e w' ⟨rfl,⟨nd,rfl⟩⟩;refine⟨_,rfl,?_⟩))
 go_ret
 exact⟨sq,sb⟩)
 replace s:=zB s
 subst s
 rewrite[if_neg zQ]at H
 obtain rfl:=zI H
 go_enter Try.func99,Try.ntmps99
 go_wp2_with (first|((with_reducible refine gate_dst (N:=2) rfl ?_);refine sV (N:=2) (cs:= #[.string a0_0,.slice A0_1 l0_1.length c0_1,.slice A0_2 l0_2.length c0_2,.string a0_3]) (t:=107) ?_;intro v hg aV hbox hb;have a:=zM (hbox);have x:=sG HB hg;have b:=sG HB hg;replace HB:=sB HB hb;clear hb hbox hg)|((with_reducible refine gate_dst (N:=3) rfl ?_);refine sV (N:=3) (cs:= #[.string a1_0,.slice A1_1 l1_1.length c1_1,.slice A1_2 l1_2.length c1_2,.string a1_3]) (t:=107) ?_;intro y hg aW hbox hb;have d:=zM (hbox);have z:=sG HB hg;have c:=sG HB hg;replace HB:=sB HB hb;have g:=sN a hg;have i:=sM a hg;replace a:=sK a hb;clear hb hbox hg;have aX:=g.out;have aY:=i.out;obtain⟨aZ,a0,a1,a2,a3,a4,a5,a6⟩:=cells4 a.out;obtain⟨a7,a8,a9,ba,bb,bc,bd,be⟩:=cells4 d.out)|((with_reducible refine gate_callee (f:=48) rfl ?_);refine sC (some 14) Try.func48 #[.slice A0_1 l0_1.length c0_1,.slice A1_1 l1_1.length c1_1] (laws_eqStringS.calls k _ _ l0_1 _ _ l1_1 false _ ?side1 ?side2 ?side3 ?side4 q.out) ?_;(case side1=>exact sD (zC m.out HB.out));(case side2=>exact n.out);(case side3=>exact sD (zC o.out HB.out));(case side4=>exact p.out);rintro e w' ⟨rfl,⟨nd,rfl⟩⟩;refine⟨_,rfl,?_⟩))
 go_ret
 exact⟨sq,sb⟩)
 rw[if_neg j]at H
 have c3b0:(a0_0.toList==a1_0.toList)=false:=zN j
 have c3b1:(a0_0.toList !=a1_0.toList)=true:=zX j
 obtain rfl:=zI H
 go_enter Try.func99,Try.ntmps99
 go_wp2_with (first|((with_reducible refine gate_dst (N:=2) rfl ?_);refine sV (N:=2) (cs:= #[.string a0_0,.slice A0_1 l0_1.length c0_1,.slice A0_2 l0_2.length c0_2,.string a0_3]) (t:=107) ?_;intro v hg bf hbox hb;have a:=zM (hbox);have x:=sG HB hg;have b:=sG HB hg;replace HB:=sB HB hb;clear hb hbox hg)|((with_reducible refine gate_dst (N:=3) rfl ?_);refine sV (N:=3) (cs:= #[.string a1_0,.slice A1_1 l1_1.length c1_1,.slice A1_2 l1_2.length c1_2,.string a1_3]) (t:=107) ?_;intro y hg bg hbox hb;have d:=zM (hbox);have z:=sG HB hg;have c:=sG HB hg;replace HB:=sB HB hb;have g:=sN a hg;have i:=sM a hg;replace a:=sK a hb;clear hb hbox hg;have bh:=g.out;have bi:=i.out;obtain⟨bj,bk,bl,bm,bn,bo,bp,bq⟩:=cells4 a.out;obtain⟨br,bs,bt,bu,bv,bw,bx,bz⟩:=cells4 d.out))
 go_ret
 exact⟨sq,sb⟩
def laws_eqRecordType.f (k:Nat) (a0_0:ByteArray) (l0_1:List ByteArray) (a1_0:ByteArray) (l1_1:List ByteArray):Option (Bool):=if a0_0.toList=a1_0.toList then((laws_eqStringS.f k l0_1 l1_1).bind fun t475=>(if t475=true then(some true)else(some false)))else(some false)
set_option maxHeartbeats 8000000 in
set_option maxRecDepth 100000 in
theorem laws_eqRecordType.calls (k:Nat) (a0_0:ByteArray) (A0_1:Option Addr) (c0_1:Nat) (l0_1:List ByteArray) (a1_0:ByteArray) (A1_1:Option Addr) (c1_1:Nat) (l1_1:List ByteArray) (r:Bool) (w:World) (hr0_1:Kd.C Kd.string w A0_1 l0_1.length l0_1) (hc0_1:l0_1.length≤c0_1) (hr1_1:Kd.C Kd.string w A1_1 l1_1.length l1_1) (hc1_1:l1_1.length≤c1_1) (h:laws_eqRecordType.f k a0_0 l0_1 a1_0 l1_1=some r):
  Calls Try.prog 100 #[.agg #[.string a0_0,.slice A0_1 l0_1.length c0_1],.agg #[.string a1_0,.slice A1_1 l1_1.length c1_1]] w fun e w'=>e= .returned (.bool r)∧Below w.heap.size w w':=by
 have z:=Try.underlying109
 have l:=zM hr0_1
 have m:=zM hc0_1
 clear hr0_1 hc0_1
 have n:=zM hr1_1
 have o:=zM hc1_1
 clear hr1_1 hc1_1
 have HB:=zM (Below.refl w.heap.size w)
 have H:(if a0_0.toList=a1_0.toList then((laws_eqStringS.f k l0_1 l1_1).bind fun j=>(if j=true then(some true)else(some false)))else(some false))=some r:=h
 clear h
 by_cases b:a0_0.toList=a1_0.toList
 ·(
 rw[if_pos b]at H
 have c3b0:(a0_0.toList==a1_0.toList)=true:=zE b
 have c3b1:(a0_0.toList !=a1_0.toList)=false:=zY b
 clear b
 obtain⟨j,p,H⟩:=sO H
 by_cases i:j=true
 ·(
 subst i
 rewrite[if_pos rfl]at H
 obtain rfl:=zI H
 go_enter Try.func100,Try.ntmps100
 go_wp2_with (first|((with_reducible refine gate_dst (N:=2) rfl ?_);refine sV (N:=2) (cs:= #[.string a0_0,.slice A0_1 l0_1.length c0_1]) (t:=109) ?_;intro q hg A hbox hb;have a:=zM (hbox);have s:=sG HB hg;have u:=sG HB hg;replace HB:=sB HB hb;clear hb hbox hg)|((with_reducible refine gate_dst (N:=3) rfl ?_);refine sV (N:=3) (cs:= #[.string a1_0,.slice A1_1 l1_1.length c1_1]) (t:=109) ?_;intro v hg B hbox hb;have c:=zM (hbox);have x:=sG HB hg;have y:=sG HB hg;replace HB:=sB HB hb;have d:=sN a hg;have g:=sM a hg;replace a:=sK a hb;clear hb hbox hg;have D:=d.out;have E:=g.out;obtain⟨F,G,I,J⟩:=cells2 a.out;obtain⟨K,L,M,O⟩:=cells2 c.out)|((with_reducible refine gate_callee (f:=48) rfl ?_);refine sC (some 14) Try.func48 #[.slice A0_1 l0_1.length c0_1,.slice A1_1 l1_1.length c1_1] (laws_eqStringS.calls k _ _ l0_1 _ _ l1_1 true _ ?side1 ?side2 ?side3 ?side4 p.out) ?_;(case side1=>exact sD (zC l.out HB.out));(case side2=>exact m.out);(case side3=>exact sD (zC n.out HB.out));(case side4=>exact o.out);rintro e w' ⟨rfl,⟨nd,rfl⟩⟩;refine⟨_,rfl,?_⟩))
 go_ret
 exact⟨sq,sb⟩)
 replace i:=zB i
 subst i
 rewrite[if_neg zQ]at H
 obtain rfl:=zI H
 go_enter Try.func100,Try.ntmps100
 go_wp2_with (first|((with_reducible refine gate_dst (N:=2) rfl ?_);refine sV (N:=2) (cs:= #[.string a0_0,.slice A0_1 l0_1.length c0_1]) (t:=109) ?_;intro q hg P hbox hb;have a:=zM (hbox);have s:=sG HB hg;have u:=sG HB hg;replace HB:=sB HB hb;clear hb hbox hg)|((with_reducible refine gate_dst (N:=3) rfl ?_);refine sV (N:=3) (cs:= #[.string a1_0,.slice A1_1 l1_1.length c1_1]) (t:=109) ?_;intro v hg Q hbox hb;have c:=zM (hbox);have x:=sG HB hg;have y:=sG HB hg;replace HB:=sB HB hb;have d:=sN a hg;have g:=sM a hg;replace a:=sK a hb;clear hb hbox hg;have R:=d.out;have S:=g.out;obtain⟨T,U,V,W⟩:=cells2 a.out;obtain⟨X,Y,Z,aa⟩:=cells2 c.out)|((with_reducible refine gate_callee (f:=48) rfl ?_);refine sC (some 14) Try.func48 #[.slice A0_1 l0_1.length c0_1,.slice A1_1 l1_1.length c1_1] (laws_eqStringS.calls k _ _ l0_1 _ _ l1_1 false _ ?side1 ?side2 ?side3 ?side4 p.out) ?_;(case side1=>exact sD (zC l.out HB.out));(case side2=>exact m.out);(case side3=>exact sD (zC n.out HB.out));(case side4=>exact o.out);rintro e w' ⟨rfl,⟨nd,rfl⟩⟩;refine⟨_,rfl,?_⟩))
 go_ret
 exact⟨sq,sb⟩)
 rw[if_neg b]at H
 have c3b0:(a0_0.toList==a1_0.toList)=false:=zN b
 have c3b1:(a0_0.toList !=a1_0.toList)=true:=zX b
 obtain rfl:=zI H
 go_enter Try.func100,Try.ntmps100
 go_wp2_with (first|((with_reducible refine gate_dst (N:=2) rfl ?_);refine sV (N:=2) (cs:= #[.string a0_0,.slice A0_1 l0_1.length c0_1]) (t:=109) ?_;intro q hg ab hbox hb;have a:=zM (hbox);have s:=sG HB hg;have u:=sG HB hg;replace HB:=sB HB hb;clear hb hbox hg)|((with_reducible refine gate_dst (N:=3) rfl ?_);refine sV (N:=3) (cs:= #[.string a1_0,.slice A1_1 l1_1.length c1_1]) (t:=109) ?_;intro v hg ac hbox hb;have c:=zM (hbox);have x:=sG HB hg;have y:=sG HB hg;replace HB:=sB HB hb;have d:=sN a hg;have g:=sM a hg;replace a:=sK a hb;clear hb hbox hg;have ad:=d.out;have ae:=g.out;obtain⟨af,ag,ah,ai⟩:=cells2 a.out;obtain⟨aj,ak,al,am⟩:=cells2 c.out))
 go_ret
 exact⟨sq,sb⟩
def laws_eqFile.f (k:Nat) (a0_0:ByteArray) (l0_1:List ByteArray) (a0_2:Int) (a0_3:Int) (a1_0:ByteArray) (l1_1:List ByteArray) (a1_2:Int) (a1_3:Int):Option (Bool):=if a0_0.toList=a1_0.toList then((laws_eqStringS.f k l0_1 l1_1).bind fun t486=>(if t486=true then(if a0_2=a1_2 then(if a0_3=a1_3 then(some true)else(some false))else(some false))else(some false)))else(some false)
set_option maxHeartbeats 8000000 in
set_option maxRecDepth 100000 in
theorem laws_eqFile.calls (k:Nat) (a0_0:ByteArray) (A0_1:Option Addr) (c0_1:Nat) (l0_1:List ByteArray) (a0_2:Int) (a0_3:Int) (a1_0:ByteArray) (A1_1:Option Addr) (c1_1:Nat) (l1_1:List ByteArray) (a1_2:Int) (a1_3:Int) (r:Bool) (w:World) (hr0_1:Kd.C Kd.string w A0_1 l0_1.length l0_1) (hc0_1:l0_1.length≤c0_1) (hr1_1:Kd.C Kd.string w A1_1 l1_1.length l1_1) (hc1_1:l1_1.length≤c1_1) (h:laws_eqFile.f k a0_0 l0_1 a0_2 a0_3 a1_0 l1_1 a1_2 a1_3=some r):
  Calls Try.prog 82 #[.agg #[.string a0_0,.slice A0_1 l0_1.length c0_1,.int .i64 a0_2,.int .i64 a0_3],.agg #[.string a1_0,.slice A1_1 l1_1.length c1_1,.int .i64 a1_2,.int .i64 a1_3]] w fun e w'=>e= .returned (.bool r)∧Below w.heap.size w w':=by
 have B:=Try.underlying87
 have l:=zM hr0_1
 have m:=zM hc0_1
 clear hr0_1 hc0_1
 have n:=zM hr1_1
 have o:=zM hc1_1
 clear hr1_1 hc1_1
 have HB:=zM (Below.refl w.heap.size w)
 have H:(if a0_0.toList=a1_0.toList then((laws_eqStringS.f k l0_1 l1_1).bind fun A=>(if A=true then(if a0_2=a1_2 then(if a0_3=a1_3 then(some true)else(some false))else(some false))else(some false)))else(some false))=some r:=h
 clear h
 by_cases g:a0_0.toList=a1_0.toList
 ·(
 rw[if_pos g]at H
 have c3b0:(a0_0.toList==a1_0.toList)=true:=zE g
 have c3b1:(a0_0.toList !=a1_0.toList)=false:=zY g
 clear g
 obtain⟨A,p,H⟩:=sO H
 by_cases q:A=true
 ·(
 subst q
 rewrite[if_pos rfl]at H
 by_cases i:a0_2=a1_2
 ·(
 rw[if_pos i]at H
 have c6b0:(a0_2==a1_2)=true:=zE i
 have c6b1:(a0_2 !=a1_2)=false:=zY i
 clear i
 by_cases j:a0_3=a1_3
 ·(
 rw[if_pos j]at H
 have c7b0:(a0_3==a1_3)=true:=zE j
 have c7b1:(a0_3 !=a1_3)=false:=zY j
 clear j
 obtain rfl:=zI H
 go_enter Try.func82,Try.ntmps82
 go_wp2_with (first|((with_reducible refine gate_dst (N:=2) rfl ?_);refine sV (N:=2) (cs:= #[.string a0_0,.slice A0_1 l0_1.length c0_1,.int .i64 a0_2,.int .i64 a0_3]) (t:=87) ?_;intro s hg D hbox hb;have a:=zM (hbox);have u:=sG HB hg;have v:=sG HB hg;replace HB:=sB HB hb;clear hb hbox hg)|((with_reducible refine gate_dst (N:=3) rfl ?_);refine sV (N:=3) (cs:= #[.string a1_0,.slice A1_1 l1_1.length c1_1,.int .i64 a1_2,.int .i64 a1_3]) (t:=87) ?_;intro x hg E hbox hb;have b:=zM (hbox);have y:=sG HB hg;have z:=sG HB hg;replace HB:=sB HB hb;have c:=sN a hg;have d:=sM a hg;replace a:=sK a hb;clear hb hbox hg;have F:=c.out;have G:=d.out;obtain⟨I,J,K,L,M,O,P,Q⟩:=cells4 a.out;obtain⟨R,S,T,U,V,W,X,Y⟩:=cells4 b.out)|((with_reducible refine gate_callee (f:=48) rfl ?_);refine sC (some 14) Try.func48 #[.slice A0_1 l0_1.length c0_1,.slice A1_1 l1_1.length c1_1] (laws_eqStringS.calls k _ _ l0_1 _ _ l1_1 true _ ?side1 ?side2 ?side3 ?side4 p.out) ?_;(case side1=>exact sD (zC l.out HB.out));(case side2=>exact m.out);(case side3=>exact sD (zC n.out HB.out));(case side4=>exact o.out);rintro e w' ⟨rfl,⟨nd,rfl⟩⟩;refine⟨_,rfl,?_⟩))
 go_ret
 exact⟨sq,sb⟩)
 rw[if_neg j]at H
 have c7b0:(a0_3==a1_3)=false:=zN j
 have c7b1:(a0_3 !=a1_3)=true:=zX j
 obtain rfl:=zI H
 go_enter Try.func82,Try.ntmps82
 go_wp2_with (first|((with_reducible refine gate_dst (N:=2) rfl ?_);refine sV (N:=2) (cs:= #[.string a0_0,.slice A0_1 l0_1.length c0_1,.int .i64 a0_2,.int .i64 a0_3]) (t:=87) ?_;intro s hg Z hbox hb;have a:=zM (hbox);have u:=sG HB hg;have v:=sG HB hg;replace HB:=sB HB hb;clear hb hbox hg)|((with_reducible refine gate_dst (N:=3) rfl ?_);refine sV (N:=3) (cs:= #[.string a1_0,.slice A1_1 l1_1.length c1_1,.int .i64 a1_2,.int .i64 a1_3]) (t:=87) ?_;intro x hg aa hbox hb;have b:=zM (hbox);have y:=sG HB hg;have z:=sG HB hg;replace HB:=sB HB hb;have c:=sN a hg;have d:=sM a hg;replace a:=sK a hb;clear hb hbox hg;have ab:=c.out;have ac:=d.out;obtain⟨ad,ae,af,ag,ah,ai,aj,ak⟩:=cells4 a.out;obtain⟨al,am,an,ao,ap,aq,ar,au⟩:=cells4 b.out)|((with_reducible refine gate_callee (f:=48) rfl ?_);refine sC (some 14) Try.func48 #[.slice A0_1 l0_1.length c0_1,.slice A1_1 l1_1.length c1_1] (laws_eqStringS.calls k _ _ l0_1 _ _ l1_1 true _ ?side1 ?side2 ?side3 ?side4 p.out) ?_;(case side1=>exact sD (zC l.out HB.out));(case side2=>exact m.out);(case side3=>exact sD (zC n.out HB.out));(case side4=>exact o.out);rintro e w' ⟨rfl,⟨nd,rfl⟩⟩;refine⟨_,rfl,?_⟩))
 go_ret
 exact⟨sq,sb⟩)
 rw[if_neg i]at H
 have c6b0:(a0_2==a1_2)=false:=zN i
 have c6b1:(a0_2 !=a1_2)=true:=zX i
 obtain rfl:=zI H
 go_enter Try.func82,Try.ntmps82
 go_wp2_with (first|((with_reducible refine gate_dst (N:=2) rfl ?_);refine sV (N:=2) (cs:= #[.string a0_0,.slice A0_1 l0_1.length c0_1,.int .i64 a0_2,.int .i64 a0_3]) (t:=87) ?_;intro s hg av hbox hb;have a:=zM (hbox);have u:=sG HB hg;have v:=sG HB hg;replace HB:=sB HB hb;clear hb hbox hg)|((with_reducible refine gate_dst (N:=3) rfl ?_);refine sV (N:=3) (cs:= #[.string a1_0,.slice A1_1 l1_1.length c1_1,.int .i64 a1_2,.int .i64 a1_3]) (t:=87) ?_;intro x hg aw hbox hb;have b:=zM (hbox);have y:=sG HB hg;have z:=sG HB hg;replace HB:=sB HB hb;have c:=sN a hg;have d:=sM a hg;replace a:=sK a hb;clear hb hbox hg;have ax:=c.out;have ay:=d.out;obtain⟨az,aA,aB,aC,aD,aE,aF,aG⟩:=cells4 a.out;obtain⟨aH,aI,aJ,aK,aL,aM,aN,aO⟩:=cells4 b.out)|((with_reducible refine gate_callee (f:=48) rfl ?_);refine sC (some 14) Try.func48 #[.slice A0_1 l0_1.length c0_1,.slice A1_1 l1_1.length c1_1] (laws_eqStringS.calls k _ _ l0_1 _ _ l1_1 true _ ?side1 ?side2 ?side3 ?side4 p.out) ?_;(case side1=>exact sD (zC l.out HB.out));(case side2=>exact m.out);(case side3=>exact sD (zC n.out HB.out));(case side4=>exact o.out);rintro e w' ⟨rfl,⟨nd,rfl⟩⟩;refine⟨_,rfl,?_⟩))
 go_ret
 exact⟨sq,sb⟩)
 replace q:=zB q
 subst q
 rewrite[if_neg zQ]at H
 obtain rfl:=zI H
 go_enter Try.func82,Try.ntmps82
 go_wp2_with (first|((with_reducible refine gate_dst (N:=2) rfl ?_);refine sV (N:=2) (cs:= #[.string a0_0,.slice A0_1 l0_1.length c0_1,.int .i64 a0_2,.int .i64 a0_3]) (t:=87) ?_;intro s hg aP hbox hb;have a:=zM (hbox);have u:=sG HB hg;have v:=sG HB hg;replace HB:=sB HB hb;clear hb hbox hg)|((with_reducible refine gate_dst (N:=3) rfl ?_);refine sV (N:=3) (cs:= #[.string a1_0,.slice A1_1 l1_1.length c1_1,.int .i64 a1_2,.int .i64 a1_3]) (t:=87) ?_;intro x hg aQ hbox hb;have b:=zM (hbox);have y:=sG HB hg;have z:=sG HB hg;replace HB:=sB HB hb;have c:=sN a hg;have d:=sM a hg;replace a:=sK a hb;clear hb hbox hg;have aR:=c.out;have aS:=d.out;obtain⟨aT,aU,aV,aW,aX,aY,aZ,a0⟩:=cells4 a.out;obtain⟨a1,a2,a3,a4,a5,a6,a7,a8⟩:=cells4 b.out)|((with_reducible refine gate_callee (f:=48) rfl ?_);refine sC (some 14) Try.func48 #[.slice A0_1 l0_1.length c0_1,.slice A1_1 l1_1.length c1_1] (laws_eqStringS.calls k _ _ l0_1 _ _ l1_1 false _ ?side1 ?side2 ?side3 ?side4 p.out) ?_;(case side1=>exact sD (zC l.out HB.out));(case side2=>exact m.out);(case side3=>exact sD (zC n.out HB.out));(case side4=>exact o.out);rintro e w' ⟨rfl,⟨nd,rfl⟩⟩;refine⟨_,rfl,?_⟩))
 go_ret
 exact⟨sq,sb⟩)
 rw[if_neg g]at H
 have c3b0:(a0_0.toList==a1_0.toList)=false:=zN g
 have c3b1:(a0_0.toList !=a1_0.toList)=true:=zX g
 obtain rfl:=zI H
 go_enter Try.func82,Try.ntmps82
 go_wp2_with (first|((with_reducible refine gate_dst (N:=2) rfl ?_);refine sV (N:=2) (cs:= #[.string a0_0,.slice A0_1 l0_1.length c0_1,.int .i64 a0_2,.int .i64 a0_3]) (t:=87) ?_;intro s hg a9 hbox hb;have a:=zM (hbox);have u:=sG HB hg;have v:=sG HB hg;replace HB:=sB HB hb;clear hb hbox hg)|((with_reducible refine gate_dst (N:=3) rfl ?_);refine sV (N:=3) (cs:= #[.string a1_0,.slice A1_1 l1_1.length c1_1,.int .i64 a1_2,.int .i64 a1_3]) (t:=87) ?_;intro x hg ba hbox hb;have b:=zM (hbox);have y:=sG HB hg;have z:=sG HB hg;replace HB:=sB HB hb;have c:=sN a hg;have d:=sM a hg;replace a:=sK a hb;clear hb hbox hg;have bb:=c.out;have bc:=d.out;obtain⟨bd,be,bf,bg,bh,bi,bj,bk⟩:=cells4 a.out;obtain⟨bl,bm,bn,bo,bp,bq,br,bs⟩:=cells4 b.out))
 go_ret
 exact⟨sq,sb⟩
end Go.Proofs.Ytnneadpahjkhgaa.PFnExactSameMemory
