/- Printed functions: spec_l07Find, spec_l07ObjectKind, spec_l07Fits, spec_l07FitAll. -/
import Derived.Test.YtengilknjiobiaaYPoP0
import Derived.Test.YtengilknjiobiaaYPoP4
import Derived.Test.YtengilknjiobiaaYPoP6
namespace Go.Proofs.Ytengilknjiobiaa.PFnExactPairsOf
open Go.RowKit Go.Proofs.YtengilknjiobiaaG Go.Proofs.YtengilknjiobiaaW.PrintWords Go.Proofs.YtengilknjiobiaaW.PrintLast Go.Proofs.YtengilknjiobiaaW.PrintMore
attribute [local go_sem] max2_int min2_int max_two min_two max_three min_three max_four min_four
set_option linter.unusedVariables false
set_option linter.unusedSimpArgs false
def spec_l07Find.l0 : Nat → List (S34) → Int → Int → Option (Int)
 |0,_,_,_=>none
 |k+1,x0,x1,x5=>if 0<(x0.length:Int)then(if x5<(((rd_T34 x0 0).f1).length:Int)then(if 0≤x5 then(if((rd_T56 ((rd_T34 x0 0).f1) x5).f0)=x1 then(some x5)else(spec_l07Find.l0 k x0 x1 (wrap64 (x5+1))))else(none))else(some (-1)))else(none)
def spec_l07Find.f (k:Nat) (l0:List (S34)) (a1:Int):Option (Int):=spec_l07Find.l0 k l0 a1 0
set_option maxHeartbeats 8000000 in
set_option maxRecDepth 100000 in
theorem spec_l07Find.calls (k:Nat) (A0:Option Addr) (l0:List (S34)) (a1:Int) (r:Int) (w:World) (hr0:Kd.C k34 w A0 l0.length l0) (h:spec_l07Find.f k l0 a1=some r):
  Calls Try.prog 42 #[.pointer A0,.int .i64 a1] w fun e w'=>e= .returned (.int .i64 r)∧Drawn0 w w':=by
 have s:=zM hr0
 have aw:=zM (Nat.le_refl l0.length)
 clear hr0
 have H:(spec_l07Find.l0 k l0 a1 0)=some r:=h
 clear h
 have H':=zM H
 clear H
 go_enter Try.func42,Try.ntmps42
 go_wp2
 go_loopg [5] k (fun kq W w'=>∃(a:Int),W= .int .i64 a∧Aside0 (spec_l07Find.l0 kq l0 a1 a=some r)∧Aside0 (kq≤k)∧Drawn0 w w')
 case atStart=>exact⟨(0),sr,H',⟨Nat.le_refl _⟩,by repeat(first|exact Drawn0.refl _|apply Drawn0.step)⟩
 case round=>(
 clear H'
 obtain⟨a,rfl,HA,Q,⟨m1,rfl⟩⟩:=hrel
 cases gk with
 |zero=>exact absurd HA.out (by simp[spec_l07Find.l0])
 |succ k1=>(
 have H:=HA.out
 clear HA
 simp only[spec_l07Find.l0]at H
 by_cases F:0<(l0.length:Int)
 ·(
 rw[if_pos F]at H
 have c3b0:=zT F
 have c3b1:decide (0<l0.length)=true:=zT (by omega)
 clear F
 by_cases q:a<(((rd_T34 l0 0).f1).length:Int)
 ·(
 rw[if_pos q]at H
 have c4b0:=zT q
 clear q
 by_cases G:0≤a
 ·(
 rw[if_pos G]at H
 have c5b0:=zT G
 clear G
 by_cases i:((rd_T56 ((rd_T34 l0 0).f1) a).f0)=a1
 ·(
 rw[if_pos i]at H
 have c6b0:(((rd_T56 ((rd_T34 l0 0).f1) a).f0)==a1)=true:=zE i
 have c6b1:(((rd_T56 ((rd_T34 l0 0).f1) a).f0) !=a1)=false:=zY i
 clear i
 obtain rfl:=zI H
 have b:0≤(0:Int):=(by omega)
 have c:0<(l0.length:Int):=zzA
 obtain⟨I,R,S,u,v,j,d,g⟩:=at_T34 s.out 0 b c
 cases u
 have T:(0<l0.length)=True:=eq_true (by omega)
 (try rw[sZ]at v)
 (try rw[sZ]at j)
 have U:=zM g
 have V:=zM d
 clear g d
 replace b:=eq_true b
 replace c:=eq_true c
 have l:0≤(0:Int):=(by omega)
 have m:0<(l0.length:Int):=zzA
 obtain⟨ad201,X,Y,J,K,x,y,z⟩:=at_T34 s.out 0 l m
 obtain rfl:I=ad201:=(by injection J)
 have Z:(0<l0.length)=True:=eq_true (by omega)
 (try rw[sZ]at K)
 (try rw[sZ]at x)
 have L:=zM z
 have aa:=zM y
 clear z y
 replace l:=eq_true l
 replace m:=eq_true m
 have n:=zI (j.symm.trans x)
 injection n with n M O
 subst n
 subst O
 clear M
 have o:0≤(a:Int):=zzA
 have p:a<(((rd_T34 l0 0).f1).length:Int):=zzA
 obtain⟨ab,ac,ad,ae,af,P,ag,ah,ai,aj,ak,al,am,an,ao,ap,A,B,D,E⟩:=at_T56 L.out a o p
 cases P
 have aq:=zM B
 have ar:=zM A
 clear B A
 have au:=zM E
 have av:=zM D
 clear E D
 replace o:=eq_true o
 replace p:=eq_true p
 go_wp2
 go_ret
 exact⟨by first|rfl|(simp;done)|(simp[*];done),by repeat(first|exact Drawn0.refl _|apply Drawn0.step)⟩)
 rw[if_neg i]at H
 have c6b0:(((rd_T56 ((rd_T34 l0 0).f1) a).f0)==a1)=false:=zN i
 have c6b1:(((rd_T56 ((rd_T34 l0 0).f1) a).f0) !=a1)=true:=zX i
 have H':=zM H
 clear H
 have b:0≤(0:Int):=(by omega)
 have c:0<(l0.length:Int):=zzA
 obtain⟨I,R,S,u,v,j,d,g⟩:=at_T34 s.out 0 b c
 cases u
 have T:(0<l0.length)=True:=eq_true (by omega)
 (try rw[sZ]at v)
 (try rw[sZ]at j)
 have U:=zM g
 have V:=zM d
 clear g d
 replace b:=eq_true b
 replace c:=eq_true c
 have l:0≤(0:Int):=(by omega)
 have m:0<(l0.length:Int):=zzA
 obtain⟨ad201,X,Y,J,K,x,y,z⟩:=at_T34 s.out 0 l m
 obtain rfl:I=ad201:=(by injection J)
 have Z:(0<l0.length)=True:=eq_true (by omega)
 (try rw[sZ]at K)
 (try rw[sZ]at x)
 have L:=zM z
 have aa:=zM y
 clear z y
 replace l:=eq_true l
 replace m:=eq_true m
 have n:=zI (j.symm.trans x)
 injection n with n M O
 subst n
 subst O
 clear M
 have o:0≤(a:Int):=zzA
 have p:a<(((rd_T34 l0 0).f1).length:Int):=zzA
 obtain⟨ab,ac,ad,ae,af,P,ag,ah,ai,aj,ak,al,am,an,ao,ap,A,B,D,E⟩:=at_T56 L.out a o p
 cases P
 have aq:=zM B
 have ar:=zM A
 clear B A
 have au:=zM E
 have av:=zM D
 clear E D
 replace o:=eq_true o
 replace p:=eq_true p
 go_wp2
 go_roundg k1
 case measure=>have:=Q.out;omega
 case rel=>exact⟨(wrap64 (a+1)),sr,H',⟨by have:=Q.out;omega⟩,by repeat(first|exact Drawn0.refl _|apply Drawn0.step)⟩)
 rw[if_neg G]at H
 exact absurd H (by simp))
 rw[if_neg q]at H
 have c4b0:=zF q
 clear q
 obtain rfl:=zI H
 have b:0≤(0:Int):=(by omega)
 have c:0<(l0.length:Int):=zzA
 obtain⟨I,R,S,u,v,j,d,g⟩:=at_T34 s.out 0 b c
 cases u
 have T:(0<l0.length)=True:=eq_true (by omega)
 (try rw[sZ]at v)
 (try rw[sZ]at j)
 have U:=zM g
 have V:=zM d
 clear g d
 replace b:=eq_true b
 replace c:=eq_true c
 go_wp2
 go_ret
 exact⟨by first|rfl|(simp;done)|(simp[*];done),by repeat(first|exact Drawn0.refl _|apply Drawn0.step)⟩)
 rw[if_neg F]at H
 exact absurd H (by simp)))
def spec_l07ObjectKind.f (a0:Int):Option (Int):=some (wrap64 ((wrap64 (a0- 4))+1))
set_option maxHeartbeats 8000000 in
set_option maxRecDepth 100000 in
theorem spec_l07ObjectKind.calls (a0:Int) (r:Int) (w:World) (h:spec_l07ObjectKind.f a0=some r):
  Calls Try.prog 121 #[.int .i64 a0] w fun e w'=>e= .returned (.int .i64 r)∧Drawn0 w w':=by
 have H:(some (wrap64 ((wrap64 (a0- 4))+1)))=some r:=h
 clear h
 obtain rfl:=zI H
 go_enter Try.func121,Try.ntmps121
 go_wp2
 go_ret
 exact⟨by first|rfl|(simp;done)|(simp[*];done),by repeat(first|exact Drawn0.refl _|apply Drawn0.step)⟩
def spec_l07Fits.f (k:Nat) (l0:List (S34)) (a1_0:Int) (a1_1:Int) (a1_2:ByteArray) (a1_3:Int):Option (Bool):=(spec_ValidValue.f k a1_0 a1_1 a1_2 a1_3).bind fun t204=>(if t204=true then((spec_l07IsRef.f a1_0 a1_1 a1_2 a1_3).bind fun t205=>(if t205=true then((spec_l07Find.f k l0 a1_3).bind fun t206=>(if t206≥0 then(if 0<(l0.length:Int)then(if 0≤t206 then(if t206<(((rd_T34 l0 0).f1).length:Int)then((spec_l07ObjectKind.f a1_0).bind fun t209=>(some (((rd_T56 ((rd_T34 l0 0).f1) t206).f1)==t209)))else(none))else(none))else(none))else(some false)))else(some true)))else(some false))
set_option maxHeartbeats 8000000 in
set_option maxRecDepth 100000 in
theorem spec_l07Fits.calls (k:Nat) (A0:Option Addr) (l0:List (S34)) (a1_0:Int) (a1_1:Int) (a1_2:ByteArray) (a1_3:Int) (r:Bool) (w:World) (hr0:Kd.C k34 w A0 l0.length l0) (h:spec_l07Fits.f k l0 a1_0 a1_1 a1_2 a1_3=some r):
  Calls Try.prog 103 #[.pointer A0,.agg #[.int .i64 a1_0,.int .i64 a1_1,.string a1_2,.int .i64 a1_3]] w fun e w'=>e= .returned (.bool r)∧Below w.heap.size w w':=by
 have bQ:=Try.underlying29
 have q:=zM hr0
 have bR:=zM (Nat.le_refl l0.length)
 clear hr0
 have HB:=zM (Below.refl w.heap.size w)
 have H:((spec_ValidValue.f k a1_0 a1_1 a1_2 a1_3).bind fun Z=>(if Z=true then((spec_l07IsRef.f a1_0 a1_1 a1_2 a1_3).bind fun aa=>(if aa=true then((spec_l07Find.f k l0 a1_3).bind fun b=>(if b≥0 then(if 0<(l0.length:Int)then(if 0≤b then(if b<(((rd_T34 l0 0).f1).length:Int)then((spec_l07ObjectKind.f a1_0).bind fun Q=>(some (((rd_T56 ((rd_T34 l0 0).f1) b).f1)==Q)))else(none))else(none))else(none))else(some false)))else(some true)))else(some false)))=some r:=h
 clear h
 obtain⟨Z,c,H⟩:=sO H
 by_cases U:Z=true
 ·(
 subst U
 rewrite[if_pos rfl]at H
 obtain⟨aa,s,H⟩:=sO H
 by_cases V:aa=true
 ·(
 subst V
 rewrite[if_pos rfl]at H
 obtain⟨b,O,H⟩:=sO H
 by_cases P:b≥0
 ·(
 rw[if_pos P]at H
 have c8b0:decide (0≤b)=true:=zT P
 clear P
 by_cases W:0<(l0.length:Int)
 ·(
 rw[if_pos W]at H
 have c9b0:=zT W
 have c9b1:decide (0<l0.length)=true:=zT (by omega)
 clear W
 by_cases X:0≤b
 ·(
 rw[if_pos X]at H
 have c10b0:=zT X
 clear X
 by_cases Y:b<(((rd_T34 l0 0).f1).length:Int)
 ·(
 rw[if_pos Y]at H
 have c11b0:=zT Y
 clear Y
 obtain⟨Q,ab,H⟩:=sO H
 obtain rfl:=zI H
 go_enter Try.func103,Try.ntmps103
 go_wp2_with (first|((with_reducible refine gate_dst (N:=3) rfl ?_);refine sV (N:=3) (cs:= #[.int .i64 a1_0,.int .i64 a1_1,.string a1_2,.int .i64 a1_3]) (t:=29) ?_;intro d hg ac hbox hb;have a:=zM (hbox);have g:=sG HB hg;have i:=sG HB hg;replace HB:=sB HB hb;clear hb hbox hg;obtain⟨ad,ae,af,ag,ah,ai,aj,ak⟩:=cells4 a.out)|(go_at_call 85;(with_reducible refine(spec_ValidValue.calls k a1_0 a1_1 a1_2 a1_3 true _ c.out).mono ?_);rintro e al ⟨rfl,hb⟩;replace a:=sK a hb;replace HB:=sB HB hb;(try clear hb);obtain⟨am,an,ao,ap,aq,ar,au,av⟩:=cells4 a.out)|(go_at_call 55;(with_reducible refine(spec_l07IsRef.calls a1_0 a1_1 a1_2 a1_3 true _ s.out).mono ?_);rintro e aw ⟨rfl,hb⟩;replace a:=sK a hb;replace HB:=sB HB hb;(try clear hb);obtain⟨ax,ay,az,aA,aB,aC,aD,aE⟩:=cells4 a.out)|(go_at_call 42;(with_reducible refine(spec_l07Find.calls k _ l0 a1_3 b _ ?side1 O.out).mono ?_);(case side1=>exact sD (zC q.out HB.out));rintro e w' ⟨rfl,⟨nd,rfl⟩⟩;(try first|exact⟨rfl,_,World.drewN_drewN _ _ _⟩|exact⟨rfl,_,Eq.trans (World.drewN_drewN _ _ _) (congrArg (World.drewN _) (Nat.add_assoc _ _ _))⟩);have j:0≤(0:Int):=(by omega);have l:0<(l0.length:Int):=zzA;obtain⟨aF,aG,aH,R,m,n,u,v⟩:=at_T34 q.out 0 j l;cases R;have aI:(0<l0.length)=True:=eq_true (by omega);(try rw[sZ]at m);(try rw[sZ]at n);replace m:=sX HB m;replace n:=sX HB n;have S:=zM v;have aJ:=zM u;clear v u;replace j:=eq_true j;replace l:=eq_true l;have o:0≤(b:Int):=zzA;have p:b<(((rd_T34 l0 0).f1).length:Int):=zzA;obtain⟨aK,aL,aM,aN,aO,T,x,y,z,A,B,D,E,F,G,I,J,K,L,M⟩:=at_T56 S.out b o p;cases T;replace x:=sX HB x;replace y:=sX HB y;replace z:=sX HB z;replace A:=sX HB A;replace B:=sX HB B;replace D:=sX HB D;replace E:=sX HB E;replace F:=sX HB F;replace G:=sX HB G;replace I:=sX HB I;have aP:=zM K;have aQ:=zM J;clear K J;have aR:=zM M;have aS:=zM L;clear M L;replace o:=eq_true o;replace p:=eq_true p)|(go_at_call 121;(with_reducible refine(spec_l07ObjectKind.calls a1_0 Q _ ab.out).mono ?_);rintro e w' ⟨rfl,⟨nd,rfl⟩⟩;(try first|exact⟨rfl,_,World.drewN_drewN _ _ _⟩|exact⟨rfl,_,Eq.trans (World.drewN_drewN _ _ _) (congrArg (World.drewN _) (Nat.add_assoc _ _ _))⟩)))
 repeat(go_quiet (first|((with_reducible refine gate_dst (N:=3) rfl ?_);refine sV (N:=3) (cs:= #[.int .i64 a1_0,.int .i64 a1_1,.string a1_2,.int .i64 a1_3]) (t:=29) ?_;intro d hg ac hbox hb;have a:=zM (hbox);have g:=sG HB hg;have i:=sG HB hg;replace HB:=sB HB hb;clear hb hbox hg;obtain⟨ad,ae,af,ag,ah,ai,aj,ak⟩:=cells4 a.out)|(go_at_call 85;(with_reducible refine(spec_ValidValue.calls k a1_0 a1_1 a1_2 a1_3 true _ c.out).mono ?_);rintro e al ⟨rfl,hb⟩;replace a:=sK a hb;replace HB:=sB HB hb;(try clear hb);obtain⟨am,an,ao,ap,aq,ar,au,av⟩:=cells4 a.out)|(go_at_call 55;(with_reducible refine(spec_l07IsRef.calls a1_0 a1_1 a1_2 a1_3 true _ s.out).mono ?_);rintro e aw ⟨rfl,hb⟩;replace a:=sK a hb;replace HB:=sB HB hb;(try clear hb);obtain⟨ax,ay,az,aA,aB,aC,aD,aE⟩:=cells4 a.out)|(go_at_call 42;(with_reducible refine(spec_l07Find.calls k _ l0 a1_3 b _ ?side1 O.out).mono ?_);(case side1=>exact sD (zC q.out HB.out));rintro e w' ⟨rfl,⟨nd,rfl⟩⟩;(try first|exact⟨rfl,_,World.drewN_drewN _ _ _⟩|exact⟨rfl,_,Eq.trans (World.drewN_drewN _ _ _) (congrArg (World.drewN _) (Nat.add_assoc _ _ _))⟩);have j:0≤(0:Int):=(by omega);have l:0<(l0.length:Int):=zzA;obtain⟨aF,aG,aH,R,m,n,u,v⟩:=at_T34 q.out 0 j l;cases R;have aI:(0<l0.length)=True:=eq_true (by omega);(try rw[sZ]at m);(try rw[sZ]at n);replace m:=sX HB m;replace n:=sX HB n;have S:=zM v;have aJ:=zM u;clear v u;replace j:=eq_true j;replace l:=eq_true l;have o:0≤(b:Int):=zzA;have p:b<(((rd_T34 l0 0).f1).length:Int):=zzA;obtain⟨aK,aL,aM,aN,aO,T,x,y,z,A,B,D,E,F,G,I,J,K,L,M⟩:=at_T56 S.out b o p;cases T;replace x:=sX HB x;replace y:=sX HB y;replace z:=sX HB z;replace A:=sX HB A;replace B:=sX HB B;replace D:=sX HB D;replace E:=sX HB E;replace F:=sX HB F;replace G:=sX HB G;replace I:=sX HB I;have aP:=zM K;have aQ:=zM J;clear K J;have aR:=zM M;have aS:=zM L;clear M L;replace o:=eq_true o;replace p:=eq_true p)|(go_at_call 121;(with_reducible refine(spec_l07ObjectKind.calls a1_0 Q _ ab.out).mono ?_);rintro e w' ⟨rfl,⟨nd,rfl⟩⟩;(try first|exact⟨rfl,_,World.drewN_drewN _ _ _⟩|exact⟨rfl,_,Eq.trans (World.drewN_drewN _ _ _) (congrArg (World.drewN _) (Nat.add_assoc _ _ _))⟩)));try go_wp2_with (first|((with_reducible refine gate_dst (N:=3) rfl ?_);refine sV (N:=3) (cs:= #[.int .i64 a1_0,.int .i64 a1_1,.string a1_2,.int .i64 a1_3]) (t:=29) ?_;intro d hg ac hbox hb;have a:=zM (hbox);have g:=sG HB hg;have i:=sG HB hg;replace HB:=sB HB hb;clear hb hbox hg;obtain⟨ad,ae,af,ag,ah,ai,aj,ak⟩:=cells4 a.out)|(go_at_call 85;(with_reducible refine(spec_ValidValue.calls k a1_0 a1_1 a1_2 a1_3 true _ c.out).mono ?_);rintro e al ⟨rfl,hb⟩;replace a:=sK a hb;replace HB:=sB HB hb;(try clear hb);obtain⟨am,an,ao,ap,aq,ar,au,av⟩:=cells4 a.out)|(go_at_call 55;(with_reducible refine(spec_l07IsRef.calls a1_0 a1_1 a1_2 a1_3 true _ s.out).mono ?_);rintro e aw ⟨rfl,hb⟩;replace a:=sK a hb;replace HB:=sB HB hb;(try clear hb);obtain⟨ax,ay,az,aA,aB,aC,aD,aE⟩:=cells4 a.out)|(go_at_call 42;(with_reducible refine(spec_l07Find.calls k _ l0 a1_3 b _ ?side1 O.out).mono ?_);(case side1=>exact sD (zC q.out HB.out));rintro e w' ⟨rfl,⟨nd,rfl⟩⟩;(try first|exact⟨rfl,_,World.drewN_drewN _ _ _⟩|exact⟨rfl,_,Eq.trans (World.drewN_drewN _ _ _) (congrArg (World.drewN _) (Nat.add_assoc _ _ _))⟩);have j:0≤(0:Int):=(by omega);have l:0<(l0.length:Int):=zzA;obtain⟨aF,aG,aH,R,m,n,u,v⟩:=at_T34 q.out 0 j l;cases R;have aI:(0<l0.length)=True:=eq_true (by omega);(try rw[sZ]at m);(try rw[sZ]at n);replace m:=sX HB m;replace n:=sX HB n;have S:=zM v;have aJ:=zM u;clear v u;replace j:=eq_true j;replace l:=eq_true l;have o:0≤(b:Int):=zzA;have p:b<(((rd_T34 l0 0).f1).length:Int):=zzA;obtain⟨aK,aL,aM,aN,aO,T,x,y,z,A,B,D,E,F,G,I,J,K,L,M⟩:=at_T56 S.out b o p;cases T;replace x:=sX HB x;replace y:=sX HB y;replace z:=sX HB z;replace A:=sX HB A;replace B:=sX HB B;replace D:=sX HB D;replace E:=sX HB E;replace F:=sX HB F;replace G:=sX HB G;replace I:=sX HB I;have aP:=zM K;have aQ:=zM J;clear K J;have aR:=zM M;have aS:=zM L;clear M L;replace o:=eq_true o;replace p:=eq_true p)|(go_at_call 121;(with_reducible refine(spec_l07ObjectKind.calls a1_0 Q _ ab.out).mono ?_);rintro e w' ⟨rfl,⟨nd,rfl⟩⟩;(try first|exact⟨rfl,_,World.drewN_drewN _ _ _⟩|exact⟨rfl,_,Eq.trans (World.drewN_drewN _ _ _) (congrArg (World.drewN _) (Nat.add_assoc _ _ _))⟩))))
 go_ret
 exact⟨sq,sb⟩)
 rw[if_neg Y]at H
 exact absurd H (by simp))
 rw[if_neg X]at H
 exact absurd H (by simp))
 rw[if_neg W]at H
 exact absurd H (by simp))
 rw[if_neg P]at H
 have c8b0:decide (0≤b)=false:=zF P
 clear P
 obtain rfl:=zI H
 go_enter Try.func103,Try.ntmps103
 go_wp2_with (first|((with_reducible refine gate_dst (N:=3) rfl ?_);refine sV (N:=3) (cs:= #[.int .i64 a1_0,.int .i64 a1_1,.string a1_2,.int .i64 a1_3]) (t:=29) ?_;intro d hg aT hbox hb;have a:=zM (hbox);have g:=sG HB hg;have i:=sG HB hg;replace HB:=sB HB hb;clear hb hbox hg;obtain⟨aU,aV,aW,aX,aY,aZ,a2,a3⟩:=cells4 a.out)|(go_at_call 85;(with_reducible refine(spec_ValidValue.calls k a1_0 a1_1 a1_2 a1_3 true _ c.out).mono ?_);rintro e a4 ⟨rfl,hb⟩;replace a:=sK a hb;replace HB:=sB HB hb;(try clear hb);obtain⟨a5,a6,a7,a8,a9,ba,bb,bc⟩:=cells4 a.out)|(go_at_call 55;(with_reducible refine(spec_l07IsRef.calls a1_0 a1_1 a1_2 a1_3 true _ s.out).mono ?_);rintro e bd ⟨rfl,hb⟩;replace a:=sK a hb;replace HB:=sB HB hb;(try clear hb);obtain⟨be,bf,bg,bh,bi,bj,bk,bl⟩:=cells4 a.out)|(go_at_call 42;(with_reducible refine(spec_l07Find.calls k _ l0 a1_3 b _ ?side1 O.out).mono ?_);(case side1=>exact sD (zC q.out HB.out));rintro e w' ⟨rfl,⟨nd,rfl⟩⟩;(try first|exact⟨rfl,_,World.drewN_drewN _ _ _⟩|exact⟨rfl,_,Eq.trans (World.drewN_drewN _ _ _) (congrArg (World.drewN _) (Nat.add_assoc _ _ _))⟩)))
 repeat(go_quiet (first|((with_reducible refine gate_dst (N:=3) rfl ?_);refine sV (N:=3) (cs:= #[.int .i64 a1_0,.int .i64 a1_1,.string a1_2,.int .i64 a1_3]) (t:=29) ?_;intro d hg aT hbox hb;have a:=zM (hbox);have g:=sG HB hg;have i:=sG HB hg;replace HB:=sB HB hb;clear hb hbox hg;obtain⟨aU,aV,aW,aX,aY,aZ,a2,a3⟩:=cells4 a.out)|(go_at_call 85;(with_reducible refine(spec_ValidValue.calls k a1_0 a1_1 a1_2 a1_3 true _ c.out).mono ?_);rintro e a4 ⟨rfl,hb⟩;replace a:=sK a hb;replace HB:=sB HB hb;(try clear hb);obtain⟨a5,a6,a7,a8,a9,ba,bb,bc⟩:=cells4 a.out)|(go_at_call 55;(with_reducible refine(spec_l07IsRef.calls a1_0 a1_1 a1_2 a1_3 true _ s.out).mono ?_);rintro e bd ⟨rfl,hb⟩;replace a:=sK a hb;replace HB:=sB HB hb;(try clear hb);obtain⟨be,bf,bg,bh,bi,bj,bk,bl⟩:=cells4 a.out)|(go_at_call 42;(with_reducible refine(spec_l07Find.calls k _ l0 a1_3 b _ ?side1 O.out).mono ?_);(case side1=>exact sD (zC q.out HB.out));rintro e w' ⟨rfl,⟨nd,rfl⟩⟩;(try first|exact⟨rfl,_,World.drewN_drewN _ _ _⟩|exact⟨rfl,_,Eq.trans (World.drewN_drewN _ _ _) (congrArg (World.drewN _) (Nat.add_assoc _ _ _))⟩)));try go_wp2_with (first|((with_reducible refine gate_dst (N:=3) rfl ?_);refine sV (N:=3) (cs:= #[.int .i64 a1_0,.int .i64 a1_1,.string a1_2,.int .i64 a1_3]) (t:=29) ?_;intro d hg aT hbox hb;have a:=zM (hbox);have g:=sG HB hg;have i:=sG HB hg;replace HB:=sB HB hb;clear hb hbox hg;obtain⟨aU,aV,aW,aX,aY,aZ,a2,a3⟩:=cells4 a.out)|(go_at_call 85;(with_reducible refine(spec_ValidValue.calls k a1_0 a1_1 a1_2 a1_3 true _ c.out).mono ?_);rintro e a4 ⟨rfl,hb⟩;replace a:=sK a hb;replace HB:=sB HB hb;(try clear hb);obtain⟨a5,a6,a7,a8,a9,ba,bb,bc⟩:=cells4 a.out)|(go_at_call 55;(with_reducible refine(spec_l07IsRef.calls a1_0 a1_1 a1_2 a1_3 true _ s.out).mono ?_);rintro e bd ⟨rfl,hb⟩;replace a:=sK a hb;replace HB:=sB HB hb;(try clear hb);obtain⟨be,bf,bg,bh,bi,bj,bk,bl⟩:=cells4 a.out)|(go_at_call 42;(with_reducible refine(spec_l07Find.calls k _ l0 a1_3 b _ ?side1 O.out).mono ?_);(case side1=>exact sD (zC q.out HB.out));rintro e w' ⟨rfl,⟨nd,rfl⟩⟩;(try first|exact⟨rfl,_,World.drewN_drewN _ _ _⟩|exact⟨rfl,_,Eq.trans (World.drewN_drewN _ _ _) (congrArg (World.drewN _) (Nat.add_assoc _ _ _))⟩))))
 go_ret
 exact⟨sq,sb⟩)
 replace V:=zB V
 subst V
 rewrite[if_neg zQ]at H
 obtain rfl:=zI H
 go_enter Try.func103,Try.ntmps103
 go_wp2_with (first|((with_reducible refine gate_dst (N:=3) rfl ?_);refine sV (N:=3) (cs:= #[.int .i64 a1_0,.int .i64 a1_1,.string a1_2,.int .i64 a1_3]) (t:=29) ?_;intro d hg bm hbox hb;have a:=zM (hbox);have g:=sG HB hg;have i:=sG HB hg;replace HB:=sB HB hb;clear hb hbox hg;obtain⟨bn,bo,bp,bq,br,bs,bt,bu⟩:=cells4 a.out)|(go_at_call 85;(with_reducible refine(spec_ValidValue.calls k a1_0 a1_1 a1_2 a1_3 true _ c.out).mono ?_);rintro e bv ⟨rfl,hb⟩;replace a:=sK a hb;replace HB:=sB HB hb;(try clear hb);obtain⟨bw,bx,bz,bA,bB,bC,bD,bE⟩:=cells4 a.out)|(go_at_call 55;(with_reducible refine(spec_l07IsRef.calls a1_0 a1_1 a1_2 a1_3 false _ s.out).mono ?_);rintro e bF ⟨rfl,hb⟩;replace a:=sK a hb;replace HB:=sB HB hb;(try clear hb)))
 repeat(go_quiet (first|((with_reducible refine gate_dst (N:=3) rfl ?_);refine sV (N:=3) (cs:= #[.int .i64 a1_0,.int .i64 a1_1,.string a1_2,.int .i64 a1_3]) (t:=29) ?_;intro d hg bm hbox hb;have a:=zM (hbox);have g:=sG HB hg;have i:=sG HB hg;replace HB:=sB HB hb;clear hb hbox hg;obtain⟨bn,bo,bp,bq,br,bs,bt,bu⟩:=cells4 a.out)|(go_at_call 85;(with_reducible refine(spec_ValidValue.calls k a1_0 a1_1 a1_2 a1_3 true _ c.out).mono ?_);rintro e bv ⟨rfl,hb⟩;replace a:=sK a hb;replace HB:=sB HB hb;(try clear hb);obtain⟨bw,bx,bz,bA,bB,bC,bD,bE⟩:=cells4 a.out)|(go_at_call 55;(with_reducible refine(spec_l07IsRef.calls a1_0 a1_1 a1_2 a1_3 false _ s.out).mono ?_);rintro e bF ⟨rfl,hb⟩;replace a:=sK a hb;replace HB:=sB HB hb;(try clear hb)));try go_wp2_with (first|((with_reducible refine gate_dst (N:=3) rfl ?_);refine sV (N:=3) (cs:= #[.int .i64 a1_0,.int .i64 a1_1,.string a1_2,.int .i64 a1_3]) (t:=29) ?_;intro d hg bm hbox hb;have a:=zM (hbox);have g:=sG HB hg;have i:=sG HB hg;replace HB:=sB HB hb;clear hb hbox hg;obtain⟨bn,bo,bp,bq,br,bs,bt,bu⟩:=cells4 a.out)|(go_at_call 85;(with_reducible refine(spec_ValidValue.calls k a1_0 a1_1 a1_2 a1_3 true _ c.out).mono ?_);rintro e bv ⟨rfl,hb⟩;replace a:=sK a hb;replace HB:=sB HB hb;(try clear hb);obtain⟨bw,bx,bz,bA,bB,bC,bD,bE⟩:=cells4 a.out)|(go_at_call 55;(with_reducible refine(spec_l07IsRef.calls a1_0 a1_1 a1_2 a1_3 false _ s.out).mono ?_);rintro e bF ⟨rfl,hb⟩;replace a:=sK a hb;replace HB:=sB HB hb;(try clear hb))))
 go_ret
 exact⟨sq,sb⟩)
 replace U:=zB U
 subst U
 rewrite[if_neg zQ]at H
 obtain rfl:=zI H
 go_enter Try.func103,Try.ntmps103
 go_wp2_with (first|((with_reducible refine gate_dst (N:=3) rfl ?_);refine sV (N:=3) (cs:= #[.int .i64 a1_0,.int .i64 a1_1,.string a1_2,.int .i64 a1_3]) (t:=29) ?_;intro d hg bG hbox hb;have a:=zM (hbox);have g:=sG HB hg;have i:=sG HB hg;replace HB:=sB HB hb;clear hb hbox hg;obtain⟨bH,bI,bJ,bK,bL,bM,bN,bO⟩:=cells4 a.out)|(go_at_call 85;(with_reducible refine(spec_ValidValue.calls k a1_0 a1_1 a1_2 a1_3 false _ c.out).mono ?_);rintro e bP ⟨rfl,hb⟩;replace a:=sK a hb;replace HB:=sB HB hb;(try clear hb)))
 repeat(go_quiet (first|((with_reducible refine gate_dst (N:=3) rfl ?_);refine sV (N:=3) (cs:= #[.int .i64 a1_0,.int .i64 a1_1,.string a1_2,.int .i64 a1_3]) (t:=29) ?_;intro d hg bG hbox hb;have a:=zM (hbox);have g:=sG HB hg;have i:=sG HB hg;replace HB:=sB HB hb;clear hb hbox hg;obtain⟨bH,bI,bJ,bK,bL,bM,bN,bO⟩:=cells4 a.out)|(go_at_call 85;(with_reducible refine(spec_ValidValue.calls k a1_0 a1_1 a1_2 a1_3 false _ c.out).mono ?_);rintro e bP ⟨rfl,hb⟩;replace a:=sK a hb;replace HB:=sB HB hb;(try clear hb)));try go_wp2_with (first|((with_reducible refine gate_dst (N:=3) rfl ?_);refine sV (N:=3) (cs:= #[.int .i64 a1_0,.int .i64 a1_1,.string a1_2,.int .i64 a1_3]) (t:=29) ?_;intro d hg bG hbox hb;have a:=zM (hbox);have g:=sG HB hg;have i:=sG HB hg;replace HB:=sB HB hb;clear hb hbox hg;obtain⟨bH,bI,bJ,bK,bL,bM,bN,bO⟩:=cells4 a.out)|(go_at_call 85;(with_reducible refine(spec_ValidValue.calls k a1_0 a1_1 a1_2 a1_3 false _ c.out).mono ?_);rintro e bP ⟨rfl,hb⟩;replace a:=sK a hb;replace HB:=sB HB hb;(try clear hb))))
 go_ret
 exact⟨sq,sb⟩
def spec_l07FitAll.l0 : Nat → List (S34) → List (S29) → Int → Option (Bool)
 |0,_,_,_=>none
 |k+1,x0,x1,x5=>if x5<(x1.length:Int)then(if 0≤x5 then((spec_l07Fits.f k x0 ((rd_T29 x1 x5).f0) ((rd_T29 x1 x5).f1) ((rd_T29 x1 x5).f2) ((rd_T29 x1 x5).f3)).bind fun t211=>(if t211=true then(spec_l07FitAll.l0 k x0 x1 (wrap64 (x5+1)))else(some false)))else(none))else(some true)
def spec_l07FitAll.f (k:Nat) (l0:List (S34)) (l1:List (S29)):Option (Bool):=spec_l07FitAll.l0 k l0 l1 0
set_option maxHeartbeats 8000000 in
set_option maxRecDepth 100000 in
theorem spec_l07FitAll.calls (k:Nat) (A0:Option Addr) (l0:List (S34)) (A1:Option Addr) (c1:Nat) (l1:List (S29)) (r:Bool) (w:World) (hr0:Kd.C k34 w A0 l0.length l0) (hr1:Kd.C k29 w A1 l1.length l1) (hc1:l1.length≤c1) (h:spec_l07FitAll.f k l0 l1=some r):
  Calls Try.prog 73 #[.pointer A0,.slice A1 l1.length c1] w fun e w'=>e= .returned (.bool r)∧Below w.heap.size w w':=by
 have z:=Try.underlying29
 have p:=zM hr0
 have A:=zM (Nat.le_refl l0.length)
 clear hr0
 have q:=zM hr1
 have B:=zM hc1
 clear hr1 hc1
 have HB:=zM (Below.refl w.heap.size w)
 have H:(spec_l07FitAll.l0 k l0 l1 0)=some r:=h
 clear h
 have H':=zM H
 clear H
 go_enter Try.func73,Try.ntmps73
 go_wp2
 go_loopg [5] k (fun kq v w'=>∃(a:Int),v= .int .i64 a∧Aside0 (spec_l07FitAll.l0 kq l0 l1 a=some r)∧Aside0 (kq≤k)∧Aside0 (Below w.heap.size w w'))
 case atStart=>exact⟨(0),sr,H',⟨Nat.le_refl _⟩,⟨sb⟩⟩
 case round=>(
 clear H'
 try clear c1
 obtain⟨a,rfl,HA,s,HB⟩:=hrel
 cases gk with
 |zero=>exact absurd HA.out (by simp[spec_l07FitAll.l0])
 |succ k1=>(
 have H:=HA.out
 clear HA
 simp only[spec_l07FitAll.l0]at H
 by_cases d:a<(l1.length:Int)
 ·(
 rw[if_pos d]at H
 have c3b0:=zT d
 clear d
 by_cases m:0≤a
 ·(
 rw[if_pos m]at H
 have c4b0:=zT m
 clear m
 obtain⟨x,u,H⟩:=sO H
 by_cases n:x=true
 ·(
 subst n
 rewrite[if_pos rfl]at H
 have H':=zM H
 clear H
 have b:0≤(a:Int):=zzA
 have c:a<(l1.length:Int):=zzA
 obtain⟨y,o,g,i,j,l⟩:=at_T29 q.out a b c
 cases o
 replace g:=sX HB g
 replace i:=sX HB i
 replace j:=sX HB j
 replace l:=sX HB l
 replace b:=eq_true b
 replace c:=eq_true c
 go_wp2_with (first|((with_reducible refine gate_callee (f:=103) rfl ?_);refine sC (some 17) Try.func103 #[.pointer A0,.agg #[.int .i64 ((rd_T29 l1 a).f0),.int .i64 ((rd_T29 l1 a).f1),.string ((rd_T29 l1 a).f2),.int .i64 ((rd_T29 l1 a).f3)]] (spec_l07Fits.calls k1 _ l0 ((rd_T29 l1 a).f0) ((rd_T29 l1 a).f1) ((rd_T29 l1 a).f2) ((rd_T29 l1 a).f3) true _ ?side1 u.out) ?_;(case side1=>exact sD (zC p.out HB.out));rintro e D ⟨rfl,hb⟩;refine⟨_,rfl,?_⟩;replace HB:=sB HB hb;(try clear hb)))
 go_roundg k1
 case measure=>have:=s.out;omega
 case rel=>exact⟨(wrap64 (a+1)),sr,H',⟨by have:=s.out;omega⟩,⟨sb⟩⟩)
 replace n:=zB n
 subst n
 rewrite[if_neg zQ]at H
 obtain rfl:=zI H
 have b:0≤(a:Int):=zzA
 have c:a<(l1.length:Int):=zzA
 obtain⟨y,o,g,i,j,l⟩:=at_T29 q.out a b c
 cases o
 replace g:=sX HB g
 replace i:=sX HB i
 replace j:=sX HB j
 replace l:=sX HB l
 replace b:=eq_true b
 replace c:=eq_true c
 go_wp2_with (first|((with_reducible refine gate_callee (f:=103) rfl ?_);refine sC (some 17) Try.func103 #[.pointer A0,.agg #[.int .i64 ((rd_T29 l1 a).f0),.int .i64 ((rd_T29 l1 a).f1),.string ((rd_T29 l1 a).f2),.int .i64 ((rd_T29 l1 a).f3)]] (spec_l07Fits.calls k1 _ l0 ((rd_T29 l1 a).f0) ((rd_T29 l1 a).f1) ((rd_T29 l1 a).f2) ((rd_T29 l1 a).f3) false _ ?side1 u.out) ?_;(case side1=>exact sD (zC p.out HB.out));rintro e E ⟨rfl,hb⟩;refine⟨_,rfl,?_⟩;replace HB:=sB HB hb;(try clear hb)))
 go_ret
 exact⟨sq,sb⟩)
 rw[if_neg m]at H
 exact absurd H (by simp))
 rw[if_neg d]at H
 have c3b0:=zF d
 clear d
 obtain rfl:=zI H
 go_wp2
 go_ret
 exact⟨sq,sb⟩))
end Go.Proofs.Ytengilknjiobiaa.PFnExactPairsOf
