/- Printed functions: spec_ValidEnv. -/
import Derived.Test.YtdihlgkcpooadaaYIpP0
import Derived.Test.YtdihlgkcpooadaaYIpP4
import Derived.Test.YtdihlgkcpooadaaYIpP6
namespace Go.Proofs.Ytdihlgkcpooadaa.PFnExactIsPure
open Go.RowKit Go.Proofs.YtdihlgkcpooadaaG Go.Proofs.YtdihlgkcpooadaaW.PrintWords Go.Proofs.YtdihlgkcpooadaaW.PrintLast Go.Proofs.YtdihlgkcpooadaaW.PrintMore
attribute [local go_sem] max2_int min2_int max_two min_two max_three min_three max_four min_four
set_option linter.unusedVariables false
set_option linter.unusedSimpArgs false
mutual
def spec_ValidEnv.l0 : Nat → List (S52) → Int → Option (Bool)
 |0,_,_=>none
 |k+1,x0,x3=>if x3<(x0.length:Int)then(if 0≤x3 then((spec_IsName.f k ((rd_T52 x0 x3).f0)).bind fun t166=>(if t166=true then((spec_ValidPattern.f k ((rd_T52 x0 x3).f1.f0) ((rd_T52 x0 x3).f1.f1) ((rd_T52 x0 x3).f1.f2) ((rd_T52 x0 x3).f1.f3)).bind fun t168=>(spec_ValidEnv.j1 k x0 x3 (!t168)))else(spec_ValidEnv.j1 k x0 x3 true)))else(none))else(some true)
def spec_ValidEnv.j1 : Nat → List (S52) → Int → Bool → Option (Bool)
 |0,_,_,_=>none
 |k+1,x0,x3,x29=>if x29=true then(some false)else(spec_ValidEnv.l1 k x0 x3 0)
def spec_ValidEnv.l1 : Nat → List (S52) → Int → Int → Option (Bool)
 |0,_,_,_=>none
 |k+1,x0,x3,x4=>if x4<x3 then(if 0≤x4 then(if x4<(x0.length:Int)then(if 0≤x3 then(if x3<(x0.length:Int)then(if((rd_T52 x0 x4).f0).toList=((rd_T52 x0 x3).f0).toList then(some false)else(spec_ValidEnv.l1 k x0 x3 (wrap64 (x4+1))))else(none))else(none))else(none))else(none))else(spec_ValidEnv.l0 k x0 (wrap64 (x3+1)))
end
def spec_ValidEnv.f (k:Nat) (l0:List (S52)):Option (Bool):=if(l0.length:Int)>40 then(some false)else(spec_ValidEnv.l0 k l0 0)
set_option maxHeartbeats 8000000 in
set_option maxRecDepth 100000 in
theorem spec_ValidEnv.calls (k:Nat) (A0:Option Addr) (c0:Nat) (l0:List (S52)) (r:Bool) (w:World) (hr0:Kd.C k52 w A0 l0.length l0) (hc0:l0.length≤c0) (h:spec_ValidEnv.f k l0=some r):
  Calls Try.prog 8 #[.slice A0 l0.length c0] w fun e w'=>e= .returned (.bool r)∧Below w.heap.size w w':=by
 have aO:=Try.underlying36
 have j:=zM hr0
 have aP:=zM hc0
 clear hr0 hc0
 have HB:=zM (Below.refl w.heap.size w)
 have H:(if(l0.length:Int)>40 then(some false)else(spec_ValidEnv.l0 k l0 0))=some r:=h
 clear h
 by_cases l:(l0.length:Int)>40
 ·(
 rw[if_pos l]at H
 have c2b0:decide (40<(l0.length:Int))=true:=zT l
 have c2b1:decide (40<l0.length)=true:=zT (by omega)
 clear l
 obtain rfl:=zI H
 go_enter Try.func8,Try.ntmps8
 go_wp2
 repeat(go_quiet (fail);try go_wp2)
 go_ret
 exact⟨sq,sb⟩)
 rw[if_neg l]at H
 have c2b0:decide (40<(l0.length:Int))=false:=zF l
 have c2b1:decide (40<l0.length)=false:=zF (by omega)
 clear l
 have H':=zM H
 clear H
 go_enter Try.func8,Try.ntmps8
 go_wp2
 repeat(go_quiet (fail);try go_wp2)
 go_loopg [3] k (fun kq v3 w'=>∃(a:Int),v3= .int .i64 a∧Aside0 (spec_ValidEnv.l0 kq l0 a=some r)∧Aside0 (kq≤k)∧Aside0 (Below w.heap.size w w'))
 case atStart=>exact⟨(0),sr,H',⟨Nat.le_refl _⟩,⟨sb⟩⟩
 case round=>(
 clear H'
 try clear l
 try clear c2b0
 try clear c2b1
 obtain⟨a,rfl,HA,E,HB⟩:=hrel
 cases gk with
 |zero=>exact absurd HA.out (by simp[spec_ValidEnv.l0])
 |succ k1=>(
 have H:=HA.out
 clear HA
 simp only[spec_ValidEnv.l0]at H
 by_cases m:a<(l0.length:Int)
 ·(
 rw[if_pos m]at H
 have c3b0:=zT m
 clear m
 have ar:=zM H
 clear H
 go_upto_region 6 with(fail)
 repeat(go_quiet (fail);go_upto_region 6 with(fail))
 go_cut [29] (fun aA wc=>∃(kq:Nat) (ai:Bool),aA= .bool ai∧Aside0 (spec_ValidEnv.j1 kq l0 a ai=some r)∧Aside0 (kq≤k1)∧Aside0 (Below w.heap.size w wc))
 case first=>(
 have H:=ar.out
 clear ar
 by_cases c5:0≤a
 ·(
 rw[if_pos c5]at H
 have c5b0:=zT c5
 clear c5
 (first|rw[c5b0]|(simp only[i64_w,i32_w];rw[c5b0])|rw[c5b2]|skip)
 obtain⟨aB,F,H⟩:=sO H
 by_cases c7:aB=true
 ·(
 subst c7
 rewrite[if_pos rfl]at H
 obtain⟨aj,A8,H⟩:=sO H
 have H':=zM H
 clear H
 have v:0≤(a:Int):=zzA
 have x:a<(l0.length:Int):=zzA
 obtain⟨ak,aC,aD,au,I,J,K,L,n,M,N⟩:=at_T52 j.out a v x
 cases au
 replace I:=sX HB I
 replace J:=sX HB J
 replace K:=sX HB K
 replace L:=sX HB L
 replace n:=sX HB n
 have aE:=zM N
 have aF:=zM M
 clear N M
 replace v:=eq_true v
 replace x:=eq_true x
 go_wp2_with (first|(go_at_call 23;(with_reducible refine(spec_IsName.calls k1 ((rd_T52 l0 a).f0) true _ F.out).mono ?_);rintro e w' ⟨rfl,⟨nd,rfl⟩⟩;(try first|exact⟨rfl,_,World.drewN_drewN _ _ _⟩|exact⟨rfl,_,Eq.trans (World.drewN_drewN _ _ _) (congrArg (World.drewN _) (Nat.add_assoc _ _ _))⟩);have c:0≤(a:Int):=zzA;have d:a<(l0.length:Int):=zzA;obtain⟨ad167,ay,az,O,o,p,q,s,g,t,u⟩:=at_T52 j.out a c d;obtain rfl:ak=ad167:=(by injection O);replace o:=sX HB o;replace p:=sX HB p;replace q:=sX HB q;replace s:=sX HB s;replace g:=sX HB g;have P:=zM u;have Q:=zM t;clear u t;replace c:=eq_true c;replace d:=eq_true d;have i:=zI (n.symm.trans g);injection i with i R S;subst i;subst S;clear R)|(go_at_call 24;(with_reducible refine(spec_ValidPattern.calls k1 ((rd_T52 l0 a).f1.f0) ((rd_T52 l0 a).f1.f1) ((rd_T52 l0 a).f1.f2) _ _ ((rd_T52 l0 a).f1.f3) aj _ ?side1 ?side2 A8.out).mono ?_);(case side1=>exact zC P.out (sH HB.out));(case side2=>exact Q.out);rintro e w9 ⟨rfl,hb⟩;replace HB:=sB HB hb;(try clear hb)))
 repeat(go_quiet (first|(go_at_call 23;(with_reducible refine(spec_IsName.calls k1 ((rd_T52 l0 a).f0) true _ F.out).mono ?_);rintro e w' ⟨rfl,⟨nd,rfl⟩⟩;(try first|exact⟨rfl,_,World.drewN_drewN _ _ _⟩|exact⟨rfl,_,Eq.trans (World.drewN_drewN _ _ _) (congrArg (World.drewN _) (Nat.add_assoc _ _ _))⟩);have c:0≤(a:Int):=zzA;have d:a<(l0.length:Int):=zzA;obtain⟨ad167,ay,az,O,o,p,q,s,g,t,u⟩:=at_T52 j.out a c d;obtain rfl:ak=ad167:=(by injection O);replace o:=sX HB o;replace p:=sX HB p;replace q:=sX HB q;replace s:=sX HB s;replace g:=sX HB g;have P:=zM u;have Q:=zM t;clear u t;replace c:=eq_true c;replace d:=eq_true d;have i:=zI (n.symm.trans g);injection i with i R S;subst i;subst S;clear R)|(go_at_call 24;(with_reducible refine(spec_ValidPattern.calls k1 ((rd_T52 l0 a).f1.f0) ((rd_T52 l0 a).f1.f1) ((rd_T52 l0 a).f1.f2) _ _ ((rd_T52 l0 a).f1.f3) aj _ ?side1 ?side2 A8.out).mono ?_);(case side1=>exact zC P.out (sH HB.out));(case side2=>exact Q.out);rintro e w9 ⟨rfl,hb⟩;replace HB:=sB HB hb;(try clear hb)));try go_wp2_with (first|(go_at_call 23;(with_reducible refine(spec_IsName.calls k1 ((rd_T52 l0 a).f0) true _ F.out).mono ?_);rintro e w' ⟨rfl,⟨nd,rfl⟩⟩;(try first|exact⟨rfl,_,World.drewN_drewN _ _ _⟩|exact⟨rfl,_,Eq.trans (World.drewN_drewN _ _ _) (congrArg (World.drewN _) (Nat.add_assoc _ _ _))⟩);have c:0≤(a:Int):=zzA;have d:a<(l0.length:Int):=zzA;obtain⟨ad167,ay,az,O,o,p,q,s,g,t,u⟩:=at_T52 j.out a c d;obtain rfl:ak=ad167:=(by injection O);replace o:=sX HB o;replace p:=sX HB p;replace q:=sX HB q;replace s:=sX HB s;replace g:=sX HB g;have P:=zM u;have Q:=zM t;clear u t;replace c:=eq_true c;replace d:=eq_true d;have i:=zI (n.symm.trans g);injection i with i R S;subst i;subst S;clear R)|(go_at_call 24;(with_reducible refine(spec_ValidPattern.calls k1 ((rd_T52 l0 a).f1.f0) ((rd_T52 l0 a).f1.f1) ((rd_T52 l0 a).f1.f2) _ _ ((rd_T52 l0 a).f1.f3) aj _ ?side1 ?side2 A8.out).mono ?_);(case side1=>exact zC P.out (sH HB.out));(case side2=>exact Q.out);rintro e w9 ⟨rfl,hb⟩;replace HB:=sB HB hb;(try clear hb))))
 go_meet
 case rel=>exact⟨_,(!aj),sr,H',⟨by have:=E.out;first|omega|exact Nat.le_refl _⟩,⟨sb⟩⟩)
 replace c7:=zB c7
 subst c7
 rewrite[if_neg zQ]at H
 have H':=zM H
 clear H
 have v:0≤(a:Int):=zzA
 have x:a<(l0.length:Int):=zzA
 obtain⟨ak,aC,aD,au,I,J,K,L,n,M,N⟩:=at_T52 j.out a v x
 cases au
 replace I:=sX HB I
 replace J:=sX HB J
 replace K:=sX HB K
 replace L:=sX HB L
 replace n:=sX HB n
 have aE:=zM N
 have aF:=zM M
 clear N M
 replace v:=eq_true v
 replace x:=eq_true x
 go_wp2_with (first|(go_at_call 23;(with_reducible refine(spec_IsName.calls k1 ((rd_T52 l0 a).f0) false _ F.out).mono ?_);rintro e w' ⟨rfl,⟨nd,rfl⟩⟩;(try first|exact⟨rfl,_,World.drewN_drewN _ _ _⟩|exact⟨rfl,_,Eq.trans (World.drewN_drewN _ _ _) (congrArg (World.drewN _) (Nat.add_assoc _ _ _))⟩)))
 repeat(go_quiet (first|(go_at_call 23;(with_reducible refine(spec_IsName.calls k1 ((rd_T52 l0 a).f0) false _ F.out).mono ?_);rintro e w' ⟨rfl,⟨nd,rfl⟩⟩;(try first|exact⟨rfl,_,World.drewN_drewN _ _ _⟩|exact⟨rfl,_,Eq.trans (World.drewN_drewN _ _ _) (congrArg (World.drewN _) (Nat.add_assoc _ _ _))⟩)));try go_wp2_with (first|(go_at_call 23;(with_reducible refine(spec_IsName.calls k1 ((rd_T52 l0 a).f0) false _ F.out).mono ?_);rintro e w' ⟨rfl,⟨nd,rfl⟩⟩;(try first|exact⟨rfl,_,World.drewN_drewN _ _ _⟩|exact⟨rfl,_,Eq.trans (World.drewN_drewN _ _ _) (congrArg (World.drewN _) (Nat.add_assoc _ _ _))⟩))))
 go_meet
 case rel=>exact⟨_,(true),sr,H',⟨by have:=E.out;first|omega|exact Nat.le_refl _⟩,⟨sb⟩⟩)
 rw[if_neg c5]at H
 exact absurd H (by simp))
 case rest=>(
 clear ar
 try clear l
 try clear c2b0
 try clear c2b1
 try clear m
 try clear c3b0
 obtain⟨kq,ai,rfl,HA,al,HB⟩:=hcut
 cases kq with
 |zero=>exact absurd HA.out (by simp[spec_ValidEnv.j1])
 |succ kj3=>(
 have H:=HA.out
 clear HA
 simp only[spec_ValidEnv.j1]at H
 by_cases T:ai=true
 ·(
 subst T
 rewrite[if_pos rfl]at H
 obtain rfl:=zI H
 go_wp2
 repeat(go_quiet (fail);try go_wp2)
 go_ret
 exact⟨sq,sb⟩)
 replace T:=zB T
 subst T
 rewrite[if_neg zQ]at H
 have H':=zM H
 clear H
 go_wp2
 repeat(go_quiet (fail);try go_wp2)
 go_loopg [4] kj3 (fun kq v4 w'=>∃(b:Int),v4= .int .i64 b∧Aside0 (spec_ValidEnv.l1 kq l0 a b=some r)∧Aside0 (kq≤kj3)∧Aside0 (Below w.heap.size w w'))
 case atStart=>exact⟨(0),sr,H',⟨Nat.le_refl _⟩,⟨sb⟩⟩
 case round=>(
 clear H'
 try clear l
 try clear c2b0
 try clear c2b1
 try clear m
 try clear c3b0
 try clear T
 obtain⟨b,rfl,HA,am,HB⟩:=hrel
 cases gk with
 |zero=>exact absurd HA.out (by simp[spec_ValidEnv.l1])
 |succ k3=>(
 have H:=HA.out
 clear HA
 simp only[spec_ValidEnv.l1]at H
 by_cases G:b<a
 ·(
 rw[if_pos G]at H
 have c11b0:=zT G
 clear G
 by_cases an:0≤b
 ·(
 rw[if_pos an]at H
 have c12b0:=zT an
 clear an
 by_cases ao:b<(l0.length:Int)
 ·(
 rw[if_pos ao]at H
 have c13b0:=zT ao
 clear ao
 by_cases ap:0≤a
 ·(
 rw[if_pos ap]at H
 have c14b0:=zT ap
 clear ap
 by_cases aq:a<(l0.length:Int)
 ·(
 rw[if_pos aq]at H
 have c15b0:=zT aq
 clear aq
 by_cases y:((rd_T52 l0 b).f0).toList=((rd_T52 l0 a).f0).toList
 ·(
 rw[if_pos y]at H
 have c16b0:(((rd_T52 l0 b).f0).toList==((rd_T52 l0 a).f0).toList)=true:=zE y
 have c16b1:(((rd_T52 l0 b).f0).toList !=((rd_T52 l0 a).f0).toList)=false:=zY y
 clear y
 obtain rfl:=zI H
 have z:0≤(b:Int):=zzA
 have A:b<(l0.length:Int):=zzA
 obtain⟨av,aG,aH,aw,U,V,W,X,Y,Z,aa⟩:=at_T52 j.out b z A
 cases aw
 replace U:=sX HB U
 replace V:=sX HB V
 replace W:=sX HB W
 replace X:=sX HB X
 replace Y:=sX HB Y
 have aI:=zM aa
 have aJ:=zM Z
 clear aa Z
 replace z:=eq_true z
 replace A:=eq_true A
 have B:0≤(a:Int):=zzA
 have D:a<(l0.length:Int):=zzA
 obtain⟨ad170,aK,aL,ax,ab,ac,ad,ae,af,ag,ah⟩:=at_T52 j.out a B D
 obtain rfl:av=ad170:=(by injection ax)
 replace ab:=sX HB ab
 replace ac:=sX HB ac
 replace ad:=sX HB ad
 replace ae:=sX HB ae
 replace af:=sX HB af
 have aM:=zM ah
 have aN:=zM ag
 clear ah ag
 replace B:=eq_true B
 replace D:=eq_true D
 go_wp2
 repeat(go_quiet (fail);try go_wp2)
 go_ret
 exact⟨sq,sb⟩)
 rw[if_neg y]at H
 have c16b0:(((rd_T52 l0 b).f0).toList==((rd_T52 l0 a).f0).toList)=false:=zN y
 have c16b1:(((rd_T52 l0 b).f0).toList !=((rd_T52 l0 a).f0).toList)=true:=zX y
 have H':=zM H
 clear H
 have z:0≤(b:Int):=zzA
 have A:b<(l0.length:Int):=zzA
 obtain⟨av,aG,aH,aw,U,V,W,X,Y,Z,aa⟩:=at_T52 j.out b z A
 cases aw
 replace U:=sX HB U
 replace V:=sX HB V
 replace W:=sX HB W
 replace X:=sX HB X
 replace Y:=sX HB Y
 have aI:=zM aa
 have aJ:=zM Z
 clear aa Z
 replace z:=eq_true z
 replace A:=eq_true A
 have B:0≤(a:Int):=zzA
 have D:a<(l0.length:Int):=zzA
 obtain⟨ad170,aK,aL,ax,ab,ac,ad,ae,af,ag,ah⟩:=at_T52 j.out a B D
 obtain rfl:av=ad170:=(by injection ax)
 replace ab:=sX HB ab
 replace ac:=sX HB ac
 replace ad:=sX HB ad
 replace ae:=sX HB ae
 replace af:=sX HB af
 have aM:=zM ah
 have aN:=zM ag
 clear ah ag
 replace B:=eq_true B
 replace D:=eq_true D
 go_wp2
 repeat(go_quiet (fail);try go_wp2)
 go_roundg k3
 case measure=>have:=E.out;have:=al.out;have:=am.out;omega
 case rel=>exact⟨(wrap64 (b+1)),sr,H',⟨by have:=E.out;have:=al.out;have:=am.out;omega⟩,⟨sb⟩⟩)
 rw[if_neg aq]at H
 exact absurd H (by simp))
 rw[if_neg ap]at H
 exact absurd H (by simp))
 rw[if_neg ao]at H
 exact absurd H (by simp))
 rw[if_neg an]at H
 exact absurd H (by simp))
 rw[if_neg G]at H
 have c11b0:=zF G
 clear G
 have H':=zM H
 clear H
 go_wp2
 repeat(go_quiet (fail);try go_wp2)
 go_roundg k3
 case measure=>have:=E.out;have:=al.out;have:=am.out;omega
 case rel=>exact⟨(wrap64 (a+1)),sr,H',⟨by have:=E.out;have:=al.out;have:=am.out;omega⟩,⟨sb⟩⟩)))))
 rw[if_neg m]at H
 have c3b0:=zF m
 clear m
 obtain rfl:=zI H
 go_wp2
 repeat(go_quiet (fail);try go_wp2)
 go_ret
 exact⟨sq,sb⟩))
end Go.Proofs.Ytdihlgkcpooadaa.PFnExactIsPure
