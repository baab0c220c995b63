/- Printed functions: spec_IsPure. -/
import Derived.Test.YtdihlgkcpooadaaYIpP0
import Derived.Test.YtdihlgkcpooadaaYIpP11
import Derived.Test.YtdihlgkcpooadaaYIpP12
namespace Go.Proofs.Ytdihlgkcpooadaa.PFnExactIsPure
open Go.RowKit Go.Proofs.YtdihlgkcpooadaaG Go.Proofs.YtdihlgkcpooadaaW.PrintWords Go.Proofs.YtdihlgkcpooadaaW.PrintLast Go.Proofs.YtdihlgkcpooadaaW.PrintMore
attribute [local go_sem] max2_int min2_int max_two min_two max_three min_three max_four min_four
set_option linter.unusedVariables false
set_option linter.unusedSimpArgs false
mutual
def spec_IsPure.j0 : Nat → List (S52) → Bool → Option (Bool)
 |0,_,_=>none
 |k+1,x5,x20=>if x20=true then(some false)else(spec_IsPure.l0 k x5 0)
def spec_IsPure.l0 : Nat → List (S52) → Int → Option (Bool)
 |0,_,_=>none
 |k+1,x5,x7=>if x7<(x5.length:Int)then(if 0≤x7 then((spec_l15Clean.f k ((rd_T52 x5 x7).f1.f0) ((rd_T52 x5 x7).f1.f1) ((rd_T52 x5 x7).f1.f2) ((rd_T52 x5 x7).f1.f3)).bind fun t242=>(if t242=true then(spec_IsPure.l0 k x5 (wrap64 (x7+1)))else(some false)))else(none))else(some true)
end
def spec_IsPure.f (k:Nat) (l0:List (S52)) (a1_0:Int) (a1_1:Int) (a1_2:ByteArray) (l1_3:List (S36)):Option (Bool):=(spec_l15Ask.f k l0 a1_0 a1_1 a1_2 l1_3).bind fun bt236=>(if bt236.2=0 then((spec_l15Clean.f k a1_0 a1_1 a1_2 l1_3).bind fun t240=>(spec_IsPure.j0 k bt236.1 (!t240)))else(spec_IsPure.j0 k bt236.1 true))
set_option maxHeartbeats 8000000 in
set_option maxRecDepth 100000 in
theorem spec_IsPure.calls (k:Nat) (A0:Option Addr) (c0:Nat) (l0:List (S52)) (a1_0:Int) (a1_1:Int) (a1_2:ByteArray) (A1_3:Option Addr) (c1_3:Nat) (l1_3:List (S36)) (r:Bool) (w:World) (hr0:Kd.C k52 w A0 l0.length l0) (hc0:l0.length≤c0) (hr1_3:Kd.C k36 w A1_3 l1_3.length l1_3) (hc1_3:l1_3.length≤c1_3) (h:spec_IsPure.f k l0 a1_0 a1_1 a1_2 l1_3=some r):
  Calls Try.prog 13 #[.slice A0 l0.length c0,.agg #[.int .i64 a1_0,.int .i64 a1_1,.string a1_2,.slice A1_3 l1_3.length c1_3]] w fun e w'=>e= .returned (.bool r)∧Below w.heap.size w w':=by
 have aQ:=Try.underlying36
 have az:=zM hr0
 have aA:=zM hc0
 clear hr0 hc0
 have ag:=zM hr1_3
 have ah:=zM hc1_3
 clear hr1_3 hc1_3
 have HB:=zM (Below.refl w.heap.size w)
 have H:((spec_l15Ask.f k l0 a1_0 a1_1 a1_2 l1_3).bind fun U=>(if U.2=0 then((spec_l15Clean.f k a1_0 a1_1 a1_2 l1_3).bind fun A=>(spec_IsPure.j0 k U.1 (!A)))else(spec_IsPure.j0 k U.1 true)))=some r:=h
 clear h
 replace H:=Option.bind_eq_some_iff.mp H
 obtain⟨⟨b,u⟩,ai,H⟩:=H
 replace H:(if u=0 then((spec_l15Clean.f k a1_0 a1_1 a1_2 l1_3).bind fun A=>(spec_IsPure.j0 k b (!A)))else(spec_IsPure.j0 k b true))=some r:=H
 have A3:=zM ai
 clear ai
 have W:=zM H
 clear H
 go_enter Try.func13,Try.ntmps13
 go_upto_region 2 with(first|((with_reducible refine gate_dst (N:=3) rfl ?_);refine sV (N:=3) (cs:= #[.int .i64 a1_0,.int .i64 a1_1,.string a1_2,.slice A1_3 l1_3.length c1_3]) (t:=36) ?_;intro B hg w5 hbox hb;have c:=zM (hbox);have aj:=sG HB hg;have X:=sG HB hg;replace HB:=sB HB hb;clear hb hbox hg;obtain⟨ak,al,am,an,ao,ap,aq,ar⟩:=cells4 c.out)|((with_reducible refine gate_callee (f:=33) rfl ?_);refine sC (some 11) Try.func33 #[.slice A0 l0.length c0,.agg #[.int .i64 a1_0,.int .i64 a1_1,.string a1_2,.slice A1_3 l1_3.length c1_3]] (spec_l15Ask.calls k (fun j=>j<w.heap.size) _ _ l0 a1_0 a1_1 a1_2 (fun j=>j<w.heap.size) _ _ l1_3 b u _ ?side1 ?side2 A3.out) ?_;(case side1=>exact Kd.V_mk aA.out (Kd.F_below (Kd.C_F k52_heap az.out) zzR));(case side2=>exact Kd.V_mk ah.out (Kd.F_below (Kd.C_F k36_heap ag.out) zzR));rintro e w7 ⟨au,rfl,av,hb⟩;refine⟨_,rfl,?_⟩;have l:=zM (Kd.V_lower (Kd.V_mono (ok':=fun j=>j≠B) av (fun j aB=>Or.elim aB (fun E=>Or.elim E (fun E=>fun F=>Nat.not_le.2 E (by rw[F];exact aj.out)) (fun E=>fun F=>Nat.not_le.2 E (by rw[F];exact aj.out))) (fun aC=>(Kd.freshB (g:=B) (o:= .cells #[.int .i64 a1_0,.int .i64 a1_1,.string a1_2,.slice A1_3 l1_3.length c1_3] 36 (0,0)) (sT c.out) j aC)))) (below_size zzR));have m:=sK c hb;have n:=sB HB hb;clear c;clear HB;have G:=l;have c:=m;have HB:=n;clear l m n;(try clear hb);(try clear av)))
 (try simp only[zP])
 go_cut [20] (fun aD wc=>∃(kq:Nat) (R:Bool),aD= .bool R∧Aside0 (spec_IsPure.j0 kq b R=some r)∧Aside0 (kq≤k)∧Aside0 (Kd.V k52 52 wc w.heap.size (fun j=>j≠B) au b)∧Aside0 (wc.heap[B]?=some (.cells #[.int .i64 a1_0,.int .i64 a1_1,.string a1_2,(.slice A1_3 l1_3.length c1_3)] 36 (0,0)))∧Aside0 (Below w.heap.size w wc))
 case first=>(
 have H:=W.out
 clear W
 by_cases v:u=0
 ·(
 rw[if_pos v]at H
 have c8b0:(u==0)=true:=zE v
 have c8b1:(u !=0)=false:=zY v
 clear v
 (first|rw[c8b0]|(simp only[i64_w,i32_w];rw[c8b0])|rw[c8b2]|skip)
 obtain⟨A,A9,H⟩:=sO H
 have H':=zM H
 clear H
 obtain⟨aR,aS,aT,aU,aV,aW,aX,aY⟩:=cells4 c.out
 go_wp2_with (first|(go_at_call 34;(with_reducible refine(spec_l15Clean.calls k a1_0 a1_1 a1_2 _ _ l1_3 A _ ?side1 ?side2 A9.out).mono ?_);(case side1=>exact sD (zC ag.out HB.out));(case side2=>exact ah.out);rintro e aZ ⟨rfl,hb⟩;have l:=zM (Kd.V_below (by(with_reducible repeat(first|apply Kd.V_alloc|apply Kd.V_drewN|apply Kd.V_drew));exact G.out) hb);have m:=sK c hb;have n:=sB HB hb;clear G;clear c;clear HB;have G:=l;have c:=m;have HB:=n;clear l m n;(try clear hb)))
 go_meet
 case rel=>exact⟨_,(!A),sr,H',⟨by first|omega|exact Nat.le_refl _⟩,⟨by(with_reducible repeat(first|apply Kd.V_alloc|apply Kd.V_drewN|apply Kd.V_drew));exact G.out⟩,⟨by exact sT c.out⟩,⟨sb⟩⟩)
 rw[if_neg v]at H
 have c8b0:(u==0)=false:=zN v
 have c8b1:(u !=0)=true:=zX v
 (first|rw[c8b0]|(simp only[i64_w,i32_w];rw[c8b0])|rw[c8b2]|skip)
 have H':=zM H
 clear H
 go_wp2
 go_meet
 case rel=>exact⟨_,(true),sr,H',⟨by first|omega|exact Nat.le_refl _⟩,⟨by(with_reducible repeat(first|apply Kd.V_alloc|apply Kd.V_drewN|apply Kd.V_drew));exact G.out⟩,⟨by exact sT c.out⟩,⟨sb⟩⟩)
 case rest=>(
 clear W
 try clear ak
 try clear al
 try clear am
 try clear an
 try clear ao
 try clear ap
 try clear aq
 try clear ar
 obtain⟨kq,R,rfl,HA,aw,d,c,HB⟩:=hcut
 cases kq with
 |zero=>exact absurd HA.out (by simp[spec_IsPure.j0])
 |succ kj3=>(
 have H:=HA.out
 clear HA
 simp only[spec_IsPure.j0]at H
 by_cases I:R=true
 ·(
 subst I
 rewrite[if_pos rfl]at H
 obtain rfl:=zI H
 go_wp2
 go_ret
 exact⟨sq,sb⟩)
 replace I:=zB I
 subst I
 rewrite[if_neg zQ]at H
 have H':=zM H
 clear H
 go_wp2
 go_loopg [7] kj3 (fun kq v7 w'=>∃(a:Int),v7= .int .i64 a∧Aside0 (spec_IsPure.l0 kq b a=some r)∧Aside0 (kq≤kj3)∧Aside0 (Kd.V k52 52 w' w.heap.size (fun j=>j≠B) au b)∧Aside0 (w'.heap[B]?=some (.cells #[.int .i64 a1_0,.int .i64 a1_1,.string a1_2,(.slice A1_3 l1_3.length c1_3)] 36 (0,0)))∧Aside0 (Below w.heap.size w w'))
 case atStart=>exact⟨(0),sr,H',⟨Nat.le_refl _⟩,⟨by(with_reducible repeat(first|apply Kd.V_alloc|apply Kd.V_drewN|apply Kd.V_drew));exact d.out⟩,⟨by exact sT c.out⟩,⟨sb⟩⟩
 case round=>(
 clear H'
 try clear I
 try clear ak
 try clear al
 try clear am
 try clear an
 try clear ao
 try clear ap
 try clear aq
 try clear ar
 obtain⟨a,rfl,HA,ax,d,c,HB⟩:=hrel
 cases gk with
 |zero=>exact absurd HA.out (by simp[spec_IsPure.l0])
 |succ k2=>(
 have H:=HA.out
 clear HA
 simp only[spec_IsPure.l0]at H
 by_cases D:a<(b.length:Int)
 ·(
 rw[if_pos D]at H
 have c13b0:=zT D
 clear D
 by_cases S:0≤a
 ·(
 rw[if_pos S]at H
 have c14b0:=zT S
 clear S
 obtain⟨aE,ay,H⟩:=sO H
 by_cases T:aE=true
 ·(
 subst T
 rewrite[if_pos rfl]at H
 have H':=zM H
 clear H
 obtain⟨a0,a1,aF⟩:=Kd.V_slice d.out
 subst aF
 have p:0≤(a:Int):=zzA
 have q:a<(b.length:Int):=zzA
 obtain⟨aG,Y,Z,aa,aH,aI,aJ,aK,ab,J,K⟩:=at_T52 (Kd.V_reads' d.out).2.2 a p q
 cases aa
 obtain⟨aL,ac,ad,L⟩:=Kd.V_get d.out z52 a p (by first|exact q|exact zzA|(have F:=(Kd.V_reads' d.out).1;omega))
 obtain⟨aM,aN,rfl,x,y⟩:=k52_openF ad
 have s:=L 4 _ rfl
 rw[add_field _ _ 4 (by omega)]at s
 replace s:=zI (s.symm.trans ab)
 injection s with M ae O
 rw[M]at y
 rw[O]at x
 have z:=zM (show Kd.V k36 36 _ w.heap.size _ _ ((rd_T52 b a).f1.f3) from Kd.V_mk x y)
 clear M ae O y x
 clear L ac
 have i:=zM K
 have af:=zM J
 clear K J
 replace p:=eq_true p
 replace q:=eq_true q
 go_wp2_with (first|((with_reducible refine gate_callee (f:=34) rfl ?_);refine sC (some 32) Try.func34 #[.agg #[.int .i64 ((rd_T52 b a).f1.f0),.int .i64 ((rd_T52 b a).f1.f1),.string ((rd_T52 b a).f1.f2),.slice Y ((rd_T52 b a).f1.f3).length Z]] (spec_l15Clean.calls k2 ((rd_T52 b a).f1.f0) ((rd_T52 b a).f1.f1) ((rd_T52 b a).f1.f2) _ _ ((rd_T52 b a).f1.f3) true _ ?side1 ?side2 ay.out) ?_;(case side1=>exact sD (by repeat(first|(with_reducible exact i.out)|(with_reducible refine Kd.C_alloc ?_ _)|(with_reducible refine Kd.C_drewN ?_ _)|(with_reducible refine Kd.C_drew ?_)|exact i.out)));(case side2=>exact af.out);rintro e a2 ⟨rfl,hb⟩;refine⟨_,rfl,?_⟩;have l:=zM (Kd.V_below (by(with_reducible repeat(first|apply Kd.V_alloc|apply Kd.V_drewN|apply Kd.V_drew));exact d.out) hb);have m:=zM (Kd.V_below (by(with_reducible repeat(first|apply Kd.V_alloc|apply Kd.V_drewN|apply Kd.V_drew));exact z.out) hb);have n:=sK c hb;have P:=zM (zC (by repeat(first|(with_reducible exact i.out)|(with_reducible refine Kd.C_alloc ?_ _)|(with_reducible refine Kd.C_drewN ?_ _)|(with_reducible refine Kd.C_drew ?_)|exact i.out)) hb);have Q:=sB HB hb;clear d;clear z;clear c;clear i;clear HB;have d:=l;have z:=m;have c:=n;have i:=P;have HB:=Q;clear l m n P Q;(try clear hb)))
 go_roundg k2
 case measure=>have:=aw.out;have:=ax.out;omega
 case rel=>exact⟨(wrap64 (a+1)),sr,H',⟨by have:=aw.out;have:=ax.out;omega⟩,⟨by(with_reducible repeat(first|apply Kd.V_alloc|apply Kd.V_drewN|apply Kd.V_drew));exact d.out⟩,⟨by exact sT c.out⟩,⟨sb⟩⟩)
 replace T:=zB T
 subst T
 rewrite[if_neg zQ]at H
 obtain rfl:=zI H
 obtain⟨a3,a4,aO⟩:=Kd.V_slice d.out
 subst aO
 have p:0≤(a:Int):=zzA
 have q:a<(b.length:Int):=zzA
 obtain⟨aG,Y,Z,aa,aH,aI,aJ,aK,ab,J,K⟩:=at_T52 (Kd.V_reads' d.out).2.2 a p q
 cases aa
 obtain⟨aL,ac,ad,L⟩:=Kd.V_get d.out z52 a p (by first|exact q|exact zzA|(have F:=(Kd.V_reads' d.out).1;omega))
 obtain⟨aM,aN,rfl,x,y⟩:=k52_openF ad
 have s:=L 4 _ rfl
 rw[add_field _ _ 4 (by omega)]at s
 replace s:=zI (s.symm.trans ab)
 injection s with M ae O
 rw[M]at y
 rw[O]at x
 have z:=zM (show Kd.V k36 36 _ w.heap.size _ _ ((rd_T52 b a).f1.f3) from Kd.V_mk x y)
 clear M ae O y x
 clear L ac
 have i:=zM K
 have af:=zM J
 clear K J
 replace p:=eq_true p
 replace q:=eq_true q
 go_wp2_with (first|((with_reducible refine gate_callee (f:=34) rfl ?_);refine sC (some 32) Try.func34 #[.agg #[.int .i64 ((rd_T52 b a).f1.f0),.int .i64 ((rd_T52 b a).f1.f1),.string ((rd_T52 b a).f1.f2),.slice Y ((rd_T52 b a).f1.f3).length Z]] (spec_l15Clean.calls k2 ((rd_T52 b a).f1.f0) ((rd_T52 b a).f1.f1) ((rd_T52 b a).f1.f2) _ _ ((rd_T52 b a).f1.f3) false _ ?side1 ?side2 ay.out) ?_;(case side1=>exact sD (by repeat(first|(with_reducible exact i.out)|(with_reducible refine Kd.C_alloc ?_ _)|(with_reducible refine Kd.C_drewN ?_ _)|(with_reducible refine Kd.C_drew ?_)|exact i.out)));(case side2=>exact af.out);rintro e a5 ⟨rfl,hb⟩;refine⟨_,rfl,?_⟩;have l:=zM (Kd.V_below (by(with_reducible repeat(first|apply Kd.V_alloc|apply Kd.V_drewN|apply Kd.V_drew));exact d.out) hb);have m:=zM (Kd.V_below (by(with_reducible repeat(first|apply Kd.V_alloc|apply Kd.V_drewN|apply Kd.V_drew));exact z.out) hb);have n:=sK c hb;have P:=zM (zC (by repeat(first|(with_reducible exact i.out)|(with_reducible refine Kd.C_alloc ?_ _)|(with_reducible refine Kd.C_drewN ?_ _)|(with_reducible refine Kd.C_drew ?_)|exact i.out)) hb);have Q:=sB HB hb;clear d;clear z;clear c;clear i;clear HB;have d:=l;have z:=m;have c:=n;have i:=P;have HB:=Q;clear l m n P Q;(try clear hb)))
 go_ret
 exact⟨sq,sb⟩)
 rw[if_neg S]at H
 exact absurd H (by simp))
 rw[if_neg D]at H
 have c13b0:=zF D
 clear D
 obtain rfl:=zI H
 obtain⟨a6,a7,aP⟩:=Kd.V_slice d.out
 subst aP
 go_wp2
 go_ret
 exact⟨sq,sb⟩))))
end Go.Proofs.Ytdihlgkcpooadaa.PFnExactIsPure
