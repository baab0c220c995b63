/- Printed functions: impl_kidsOf, impl_lookup_1, impl_Named__impl_lookup_1, impl_lookup. -/
import Derived.Test.YtdihlgkcpooadaaYIpP0
namespace Go.Proofs.Ytdihlgkcpooadaa.PFnExactIsPure
open Go.RowKit Go.Proofs.YtdihlgkcpooadaaG Go.Proofs.YtdihlgkcpooadaaW.PrintWords Go.Proofs.YtdihlgkcpooadaaW.PrintLast Go.Proofs.YtdihlgkcpooadaaW.PrintMore
attribute [local go_sem] max2_int min2_int max_two min_two max_three min_three max_four min_four
set_option linter.unusedVariables false
set_option linter.unusedSimpArgs false
def impl_kidsOf.j0 : Nat → Int → Bool → Option (Int)
 |0,_,_=>none
 |k+1,x3,x4=>if x4=true then(some 2)else(if x3=20 then(some 1)else(if x3=21 then(some 1)else(if x3=22 then(some 1)else(some 0))))
def impl_kidsOf.f (k:Nat) (a0:Int):Option (Int):=if a0=18 then(impl_kidsOf.j0 k a0 (a0==18))else(impl_kidsOf.j0 k a0 (a0==19))
set_option maxHeartbeats 8000000 in
set_option maxRecDepth 100000 in
theorem impl_kidsOf.calls (k:Nat) (a0:Int) (r:Int) (w:World) (h:impl_kidsOf.f k a0=some r):
  Calls Try.prog 80 #[.int .i64 a0] w fun e w'=>e= .returned (.int .i64 r)∧Drawn0 w w':=by
 have H:(if a0=18 then(impl_kidsOf.j0 k a0 (a0==18))else(impl_kidsOf.j0 k a0 (a0==19)))=some r:=h
 clear h
 have j:=zM H
 clear H
 go_enter Try.func80,Try.ntmps80
 go_upto_if 4 with(fail)
 go_cut [4] (fun l wc=>∃(kq:Nat) (g:Bool),l= .bool g∧Aside0 (impl_kidsOf.j0 kq a0 g=some r)∧Aside0 (kq≤k)∧Drawn0 w wc)
 case first=>(
 have H:=j.out
 clear j
 by_cases a:a0=18
 ·(
 rw[if_pos a]at H
 have c3b0:(a0==18)=true:=zE a
 have c3b1:(a0 !=18)=false:=zY a
 clear a
 (first|rw[c3b0]|(simp only[i64_w,i32_w];rw[c3b0])|rw[c3b2]|skip)
 have H':=zM H
 clear H
 go_wp2
 go_meet
 case rel=>exact⟨_,((a0==18)),sr,H',⟨by first|omega|exact Nat.le_refl _⟩,by repeat(first|exact Drawn0.refl _|apply Drawn0.step)⟩)
 rw[if_neg a]at H
 have c3b0:(a0==18)=false:=zN a
 have c3b1:(a0 !=18)=true:=zX a
 (first|rw[c3b0]|(simp only[i64_w,i32_w];rw[c3b0])|rw[c3b2]|skip)
 have H':=zM H
 clear H
 go_wp2
 go_meet
 case rel=>exact⟨_,((a0==19)),sr,H',⟨by first|omega|exact Nat.le_refl _⟩,by repeat(first|exact Drawn0.refl _|apply Drawn0.step)⟩)
 case rest=>(
 clear j
 obtain⟨kq,g,rfl,HA,m,⟨n,rfl⟩⟩:=hcut
 cases kq with
 |zero=>exact absurd HA.out (by simp[impl_kidsOf.j0])
 |succ kj1=>(
 have H:=HA.out
 clear HA
 simp only[impl_kidsOf.j0]at H
 by_cases i:g=true
 ·(
 subst i
 rewrite[if_pos rfl]at H
 obtain rfl:=zI H
 go_wp2
 go_ret
 exact⟨by first|rfl|(simp;done)|(simp[*];done),by repeat(first|exact Drawn0.refl _|apply Drawn0.step)⟩)
 replace i:=zB i
 subst i
 rewrite[if_neg zQ]at H
 by_cases b:a0=20
 ·(
 rw[if_pos b]at H
 have c5b0:(a0==20)=true:=zE b
 have c5b1:(a0 !=20)=false:=zY b
 clear b
 obtain rfl:=zI H
 go_wp2
 go_ret
 exact⟨by first|rfl|(simp;done)|(simp[*];done),by repeat(first|exact Drawn0.refl _|apply Drawn0.step)⟩)
 rw[if_neg b]at H
 have c5b0:(a0==20)=false:=zN b
 have c5b1:(a0 !=20)=true:=zX b
 by_cases c:a0=21
 ·(
 rw[if_pos c]at H
 have c6b0:(a0==21)=true:=zE c
 have c6b1:(a0 !=21)=false:=zY c
 clear c
 obtain rfl:=zI H
 go_wp2
 go_ret
 exact⟨by first|rfl|(simp;done)|(simp[*];done),by repeat(first|exact Drawn0.refl _|apply Drawn0.step)⟩)
 rw[if_neg c]at H
 have c6b0:(a0==21)=false:=zN c
 have c6b1:(a0 !=21)=true:=zX c
 by_cases d:a0=22
 ·(
 rw[if_pos d]at H
 have c7b0:(a0==22)=true:=zE d
 have c7b1:(a0 !=22)=false:=zY d
 clear d
 obtain rfl:=zI H
 go_wp2
 go_ret
 exact⟨by first|rfl|(simp;done)|(simp[*];done),by repeat(first|exact Drawn0.refl _|apply Drawn0.step)⟩)
 rw[if_neg d]at H
 have c7b0:(a0==22)=false:=zN d
 have c7b1:(a0 !=22)=true:=zX d
 obtain rfl:=zI H
 go_wp2
 go_ret
 exact⟨by first|rfl|(simp;done)|(simp[*];done),by repeat(first|exact Drawn0.refl _|apply Drawn0.step)⟩))
def impl_lookup_1.f (a0_0:ByteArray) (a0_1:Int) (a0_2:Int) (a0_3:ByteArray) (l0_4:List (S36)) (l1:List ByteArray):Option (Bool):=if 0<(l1.length:Int)then(some (a0_0.toList==(rdOf ByteArray.empty l1 0).toList))else(none)
set_option maxHeartbeats 8000000 in
set_option maxRecDepth 100000 in
theorem impl_lookup_1.calls (a0_0:ByteArray) (a0_1:Int) (a0_2:Int) (a0_3:ByteArray) (A0_4:Option Addr) (c0_4:Nat) (l0_4:List (S36)) (A1:Option Addr) (l1:List ByteArray) (r:Bool) (w:World) (hr0_4:Kd.C k36 w A0_4 l0_4.length l0_4) (hc0_4:l0_4.length≤c0_4) (hr1:Kd.C Kd.string w A1 l1.length l1) (h:impl_lookup_1.f a0_0 a0_1 a0_2 a0_3 l0_4 l1=some r):
  Calls Try.prog 55 #[.agg #[.string a0_0,.int .i64 a0_1,.int .i64 a0_2,.string a0_3,.slice A0_4 l0_4.length c0_4],.pointer A1] w fun e w'=>e= .returned (.bool r)∧Below w.heap.size w w':=by
 have l:=Try.underlying52
 have m:=zM hr0_4
 have n:=zM hc0_4
 clear hr0_4 hc0_4
 have g:=zM hr1
 have o:=zM (Nat.le_refl l1.length)
 clear hr1
 have HB:=zM (Below.refl w.heap.size w)
 have H:(if 0<(l1.length:Int)then(some (a0_0.toList==(rdOf ByteArray.empty l1 0).toList))else(none))=some r:=h
 clear h
 by_cases a:0<(l1.length:Int)
 ·(
 rw[if_pos a]at H
 have c3b0:=zT a
 have c3b1:decide (0<l1.length)=true:=zT (by omega)
 clear a
 obtain rfl:=zI H
 go_enter Try.func55,Try.ntmps55
 go_wp2_with (first|((with_reducible refine gate_dst (N:=2) rfl ?_);refine sV (N:=2) (cs:= #[.string a0_0,.int .i64 a0_1,.int .i64 a0_2,.string a0_3,.slice A0_4 l0_4.length c0_4]) (t:=52) ?_;intro q hg s hbox hb;have i:=zM (hbox);have u:=sG HB hg;have v:=sG HB hg;replace HB:=sB HB hb;clear hb hbox hg;obtain⟨x,y,z,A,B,D,E,F,G,I⟩:=cells5 i.out;have c:0≤(0:Int):=(by omega);have d:0<(l1.length:Int):=zzA;obtain⟨J,j,b⟩:=Kd.at_string g.out 0 c d;cases j;have K:(0<l1.length)=True:=eq_true (by omega);(try rw[show((0:Int)).toNat=0 from rfl]at b);(try rw[Addr.add_zero']at b);replace b:=sX HB b;replace c:=eq_true c;replace d:=eq_true d))
 go_ret
 exact⟨sq,sb⟩)
 rw[if_neg a]at H
 exact absurd H (by simp)
def impl_Named__impl_lookup_1.l0 : Nat → List (S52) → List ByteArray → Int → Int → Option (Int)
 |0,_,_,_,_=>none
 |k+1,x0,x1,x7,x8=>if x8<x7 then(if 0≤x8 then(if x8<(x0.length:Int)then((impl_lookup_1.f ((rd_T52 x0 x8).f0) ((rd_T52 x0 x8).f1.f0) ((rd_T52 x0 x8).f1.f1) ((rd_T52 x0 x8).f1.f2) ((rd_T52 x0 x8).f1.f3) x1).bind fun t281=>(if t281=true then(some x8)else(impl_Named__impl_lookup_1.l0 k x0 x1 x7 (wrap64 (x8+1)))))else(none))else(none))else(some (-1))
def impl_Named__impl_lookup_1.f (k:Nat) (l0:List (S52)) (l1:List ByteArray):Option (Int):=impl_Named__impl_lookup_1.l0 k l0 l1 (l0.length:Int) 0
set_option maxHeartbeats 8000000 in
set_option maxRecDepth 100000 in
theorem impl_Named__impl_lookup_1.calls (k:Nat) (A0:Option Addr) (c0:Nat) (l0:List (S52)) (A1:Option Addr) (l1:List ByteArray) (r:Int) (w:World) (hr0:Kd.C k52 w A0 l0.length l0) (hc0:l0.length≤c0) (hr1:Kd.C Kd.string w A1 l1.length l1) (h:impl_Named__impl_lookup_1.f k l0 l1=some r):
  Calls Try.prog 54 #[.slice A0 l0.length c0,.func (.func 55) #[] #[.pointer A1]] w fun e w'=>e= .returned (.int .i64 r)∧Below w.heap.size w w':=by
 have K:=Try.underlying52
 have z:=zM hr0
 have L:=zM hc0
 clear hr0 hc0
 have A:=zM hr1
 have M:=zM (Nat.le_refl l1.length)
 clear hr1
 have HB:=zM (Below.refl w.heap.size w)
 have H:(impl_Named__impl_lookup_1.l0 k l0 l1 (l0.length:Int) 0)=some r:=h
 clear h
 have H':=zM H
 clear H
 go_enter Try.func54,Try.ntmps54
 go_wp2
 go_loopg [8] k (fun kq E w'=>∃(a:Int),E= .int .i64 a∧Aside0 (impl_Named__impl_lookup_1.l0 kq l0 l1 (l0.length:Int) a=some r)∧Aside0 (kq≤k)∧Aside0 (Below w.heap.size w w'))
 case atStart=>exact⟨(0),sr,H',⟨Nat.le_refl _⟩,⟨sb⟩⟩
 case round=>(
 clear H'
 obtain⟨a,rfl,HA,B,HB⟩:=hrel
 cases gk with
 |zero=>exact absurd HA.out (by simp[impl_Named__impl_lookup_1.l0])
 |succ k1=>(
 have H:=HA.out
 clear HA
 simp only[impl_Named__impl_lookup_1.l0]at H
 by_cases d:a<(l0.length:Int)
 ·(
 rw[if_pos d]at H
 have c3b0:=zT d
 clear d
 by_cases q:0≤a
 ·(
 rw[if_pos q]at H
 have c4b0:=zT q
 clear q
 by_cases s:a<(l0.length:Int)
 ·(
 rw[if_pos s]at H
 have c5b0:=zT s
 clear s
 obtain⟨F,D,H⟩:=sO H
 by_cases u:F=true
 ·(
 subst u
 rewrite[if_pos rfl]at H
 obtain rfl:=zI H
 have b:0≤(a:Int):=zzA
 have c:a<(l0.length:Int):=zzA
 obtain⟨G,I,J,v,g,i,j,l,m,n,o⟩:=at_T52 z.out a b c
 cases v
 replace g:=sX HB g
 replace i:=sX HB i
 replace j:=sX HB j
 replace l:=sX HB l
 replace m:=sX HB m
 have x:=zM o
 have y:=zM n
 clear o n
 replace b:=eq_true b
 replace c:=eq_true c
 go_wp2_with (first|(go_at_call 55;(with_reducible refine(impl_lookup_1.calls ((rd_T52 l0 a).f0) ((rd_T52 l0 a).f1.f0) ((rd_T52 l0 a).f1.f1) ((rd_T52 l0 a).f1.f2) _ _ ((rd_T52 l0 a).f1.f3) _ l1 true _ ?side1 ?side2 ?side3 D.out).mono ?_);(case side1=>exact sD (zC x.out HB.out));(case side2=>exact y.out);(case side3=>exact sD (zC A.out HB.out));rintro e O ⟨rfl,hb⟩;replace HB:=sB HB hb;(try clear hb)))
 go_ret
 exact⟨sq,sb⟩)
 replace u:=zB u
 subst u
 rewrite[if_neg zQ]at H
 have H':=zM H
 clear H
 have b:0≤(a:Int):=zzA
 have c:a<(l0.length:Int):=zzA
 obtain⟨G,I,J,v,g,i,j,l,m,n,o⟩:=at_T52 z.out a b c
 cases v
 replace g:=sX HB g
 replace i:=sX HB i
 replace j:=sX HB j
 replace l:=sX HB l
 replace m:=sX HB m
 have x:=zM o
 have y:=zM n
 clear o n
 replace b:=eq_true b
 replace c:=eq_true c
 go_wp2_with (first|(go_at_call 55;(with_reducible refine(impl_lookup_1.calls ((rd_T52 l0 a).f0) ((rd_T52 l0 a).f1.f0) ((rd_T52 l0 a).f1.f1) ((rd_T52 l0 a).f1.f2) _ _ ((rd_T52 l0 a).f1.f3) _ l1 false _ ?side1 ?side2 ?side3 D.out).mono ?_);(case side1=>exact sD (zC x.out HB.out));(case side2=>exact y.out);(case side3=>exact sD (zC A.out HB.out));rintro e P ⟨rfl,hb⟩;replace HB:=sB HB hb;(try clear hb)))
 go_roundg k1
 case measure=>have:=B.out;omega
 case rel=>exact⟨(wrap64 (a+1)),sr,H',⟨by have:=B.out;omega⟩,⟨sb⟩⟩)
 rw[if_neg s]at H
 exact absurd H (by simp))
 rw[if_neg q]at H
 exact absurd H (by simp))
 rw[if_neg d]at H
 have c3b0:=zF d
 clear d
 obtain rfl:=zI H
 go_wp2
 go_ret
 exact⟨sq,sb⟩))
def impl_lookup.f (k:Nat) (l0:List (S52)) (a1:ByteArray):Option (Int×Int×ByteArray×(List (S36))×Bool):=(impl_Named__impl_lookup_1.f k l0 [a1]).bind fun t284=>(if t284<0 then(some (0,0,(⟨#[]⟩:ByteArray),([]:List (S36)),false))else(if 0≤t284 then(if t284<(l0.length:Int)then(some ((rd_T52 l0 t284).f1.f0,(rd_T52 l0 t284).f1.f1,(rd_T52 l0 t284).f1.f2,(rd_T52 l0 t284).f1.f3,true))else(none))else(none)))
set_option maxHeartbeats 8000000 in
set_option maxRecDepth 100000 in
theorem impl_lookup.calls (k:Nat) (P0_:Nat→Prop) (A0:Option Addr) (c0:Nat) (l0:List (S52)) (a1:ByteArray) (r1:Int) (r2:Int) (r3:ByteArray) (r4:List (S36)) (r5:Bool) (w:World) (hs0:Kd.V k52 52 w w.heap.size (fun n=>P0_ n) (.slice A0 l0.length c0) l0) (h:impl_lookup.f k l0 a1=some (r1,r2,r3,r4,r5)):
  Calls Try.prog 30 #[.slice A0 l0.length c0,.string a1] w fun e w'=>∃J:Value,e= .returned (.tuple #[.agg #[.int .i64 r1,.int .i64 r2,.string r3,J],.bool r5])∧Kd.V k36 36 w' w.heap.size (fun n=>(P0_ n∨w.heap.size≤n)) J r4∧Below w.heap.size w w':=by
 have ae:=Try.underlying36
 have b:=zM (show Kd.V k52 52 w w.heap.size (fun n=>(P0_ n∨w.heap.size≤n)) (.slice A0 l0.length c0) l0 from Kd.V_mono hs0 (fun n hk=> .inl hk))
 have HB:=zM (Below.refl w.heap.size w)
 have H:((impl_Named__impl_lookup_1.f k l0 [a1]).bind fun a=>(if a<0 then(some (0,0,(⟨#[]⟩:ByteArray),([]:List (S36)),false))else(if 0≤a then(if a<(l0.length:Int)then(some ((rd_T52 l0 a).f1.f0,(rd_T52 l0 a).f1.f1,(rd_T52 l0 a).f1.f2,(rd_T52 l0 a).f1.f3,true))else(none))else(none))))=some (r1,r2,r3,r4,r5):=h
 clear h
 obtain⟨a,K,H⟩:=sO H
 by_cases q:a<0
 ·(
 rw[if_pos q]at H
 have c4b0:=zT q
 clear q
 simp only[Option.some.injEq,Prod.mk.injEq]at H
 obtain⟨rfl,rfl,rfl,rfl,rfl⟩:=H
 go_enter Try.func30,Try.ntmps30
 go_wp2_with (first|((with_reducible refine gate_dst (N:=3) rfl ?_);refine sV (N:=3) (cs:= #[.string a1]) (t:=9) ?_;intro s hg w5 hbox hb;have d:=zM (Kd.V_below (Kd.V_elderB (by(with_reducible repeat(first|apply Kd.V_alloc|apply Kd.V_drewN|apply Kd.V_drew));exact b.out) s (Nat.le_of_eq hg.symm)) hb);have g:=sB HB hb;have i:=zM (hbox);have j:=sG HB hg;have l:=sG HB hg;clear b;clear HB;have b:=d;have HB:=g;have c:=i;have T:=j;have U:=l;clear d g i j l;clear hb hbox hg)|((with_reducible refine gate_dst (N:=4) rfl ?_);refine sV (N:=4) (cs:= #[.int .i64 0,.int .i64 0,.string (⟨#[]⟩:ByteArray),.slice none 0 0]) (t:=36) ?_;intro o hg w6 hbox hb;have d:=zM (Kd.V_below (Kd.V_elderB (by(with_reducible repeat(first|apply Kd.V_alloc|apply Kd.V_drewN|apply Kd.V_drew));exact b.out) o (Nat.le_of_eq hg.symm)) hb);have g:=sK c hb;have i:=sB HB hb;have j:=zM (hbox);have l:=sG HB hg;have u:=sG HB hg;have v:=sN c hg;have x:=sM c hg;clear b;clear c;clear HB;have b:=d;have c:=g;have HB:=i;have m:=j;have W:=l;have X:=u;have E:=v;have F:=x;clear d g i j l u v x;clear hb hbox hg)|((with_reducible refine gate_callee (f:=54) rfl ?_);refine sC (some 9) Try.func54 #[.slice A0 l0.length c0,.func (.func 55) #[] #[.pointer (some ⟨s,0,none⟩)]] (impl_Named__impl_lookup_1.calls k _ _ l0 _ [a1] a _ ?side1 ?side2 ?side3 K.out) ?_;(case side1=>exact sD ((Kd.V_reads' b.out).2.2));(case side2=>exact(Kd.V_reads' b.out).2.1);(case side3=>exact C_box (t:=9) (sT c.out) rfl);rintro e w7 ⟨rfl,hb⟩;refine⟨_,rfl,?_⟩;have d:=zM (Kd.V_below (by(with_reducible repeat(first|apply Kd.V_alloc|apply Kd.V_drewN|apply Kd.V_drew));exact b.out) hb);have g:=sK c hb;have i:=sK m hb;have j:=sB HB hb;clear b;clear c;clear m;clear HB;have b:=d;have c:=g;have m:=i;have HB:=j;clear d g i j;(try clear hb);have af:=F.out;have ag:=E.out;obtain⟨ah,ai,aj,ak,al,am,an,ao⟩:=cells4 m.out))
 refine bodyPost_ret (results_ct rfl _ _ o 36 #[.int .i64 0,.int .i64 0,.string (⟨#[]⟩:ByteArray),.slice none 0 0] (0,0) _ rfl (by exact sP4 (sT m.out)) Try.underlying36 rfl (by kernel_rfl)) rfl ?_
 exact⟨_,sq,Kd.V_nil _ _ _ _ _,sb⟩)
 rw[if_neg q]at H
 have c4b0:=zF q
 clear q
 by_cases y:0≤a
 ·(
 rw[if_pos y]at H
 have c10b0:=zT y
 clear y
 by_cases z:a<(l0.length:Int)
 ·(
 rw[if_pos z]at H
 have c11b0:=zT z
 clear z
 simp only[Option.some.injEq,Prod.mk.injEq]at H
 obtain⟨rfl,rfl,rfl,rfl,rfl⟩:=H
 go_enter Try.func30,Try.ntmps30
 go_wp2_with (first|((with_reducible refine gate_dst (N:=3) rfl ?_);refine sV (N:=3) (cs:= #[.string a1]) (t:=9) ?_;intro s hg ap hbox hb;have d:=zM (Kd.V_below (Kd.V_elderB (by(with_reducible repeat(first|apply Kd.V_alloc|apply Kd.V_drewN|apply Kd.V_drew));exact b.out) s (Nat.le_of_eq hg.symm)) hb);have g:=sB HB hb;have i:=zM (hbox);have j:=sG HB hg;have l:=sG HB hg;clear b;clear HB;have b:=d;have HB:=g;have c:=i;have T:=j;have U:=l;clear d g i j l;clear hb hbox hg)|((with_reducible refine gate_dst (N:=4) rfl ?_);refine sV (N:=4) (cs:= #[.int .i64 0,.int .i64 0,.string (⟨#[]⟩:ByteArray),.slice none 0 0]) (t:=36) ?_;intro o hg aq hbox hb;have d:=zM (Kd.V_below (Kd.V_elderB (by(with_reducible repeat(first|apply Kd.V_alloc|apply Kd.V_drewN|apply Kd.V_drew));exact b.out) o (Nat.le_of_eq hg.symm)) hb);have g:=sK c hb;have i:=sB HB hb;have j:=zM (hbox);have l:=sG HB hg;have u:=sG HB hg;have v:=sN c hg;have x:=sM c hg;clear b;clear c;clear HB;have b:=d;have c:=g;have HB:=i;have m:=j;have W:=l;have X:=u;have E:=v;have F:=x;clear d g i j l u v x;clear hb hbox hg)|((with_reducible refine gate_callee (f:=54) rfl ?_);refine sC (some 9) Try.func54 #[.slice A0 l0.length c0,.func (.func 55) #[] #[.pointer (some ⟨s,0,none⟩)]] (impl_Named__impl_lookup_1.calls k _ _ l0 _ [a1] a _ ?side1 ?side2 ?side3 K.out) ?_;(case side1=>exact sD ((Kd.V_reads' b.out).2.2));(case side2=>exact(Kd.V_reads' b.out).2.1);(case side3=>exact C_box (t:=9) (sT c.out) rfl);rintro e ar ⟨rfl,hb⟩;refine⟨_,rfl,?_⟩;have d:=zM (Kd.V_below (by(with_reducible repeat(first|apply Kd.V_alloc|apply Kd.V_drewN|apply Kd.V_drew));exact b.out) hb);have g:=sK c hb;have i:=sK m hb;have j:=sB HB hb;clear b;clear c;clear m;clear HB;have b:=d;have c:=g;have m:=i;have HB:=j;clear d g i j;(try clear hb);have A:0≤(a:Int):=zzA;have B:a<(l0.length:Int):=zzA;obtain⟨au,L,M,Y,av,aw,ax,ay,Z,O,P⟩:=at_T52 (Kd.V_reads' b.out).2.2 a A B;cases Y;obtain⟨az,aa,ab,Q⟩:=Kd.V_get b.out z52 a A (by first|exact B|exact zzA|(have e_:=(Kd.V_reads' b.out).1;omega));obtain⟨aA,aB,rfl,G,I⟩:=k52_openF ab;have D:=Q 4 _ rfl;rw[add_field _ _ 4 (by omega)]at D;replace D:=zI (D.symm.trans Z);injection D with R ac S;rw[R]at I;rw[S]at G;have ad:=zM (show Kd.V k36 36 _ w.heap.size _ _ ((rd_T52 l0 a).f1.f3) from Kd.V_mk G I);clear R ac S I G;clear Q aa;have aC:=zM P;have aD:=zM O;clear P O;replace A:=eq_true A;replace B:=eq_true B;have aE:=F.out;have aF:=E.out;obtain⟨aG,aH,aI,aJ,aK,aL,aM,aN⟩:=cells4 m.out))
 refine bodyPost_ret (results_ct rfl _ _ o 36 #[.int .i64 ((rd_T52 l0 a).f1.f0),.int .i64 ((rd_T52 l0 a).f1.f1),.string ((rd_T52 l0 a).f1.f2),.slice L ((rd_T52 l0 a).f1.f3).length M] (0,0) _ rfl (by exact sP4 (sT m.out)) Try.underlying36 rfl (by kernel_rfl)) rfl ?_
 exact⟨_,sq,by(with_reducible repeat(first|apply Kd.V_alloc|apply Kd.V_drewN|apply Kd.V_drew));exact Kd.V_mono (Kd.V_far (p:=⟨o,3,none⟩) (Kd.V_far (p:=⟨o,2,none⟩) (Kd.V_far (p:=⟨o,1,none⟩) (Kd.V_far (p:=⟨o,0,none⟩) (Kd.V_mono ad.out (fun n hk=>(⟨hk,hk.2⟩:_∧n≠o))) (fun _ hk=>hk.2) (.int .i64 ((rd_T52 l0 a).f1.f0))) (fun _ hk=>hk.2) (.int .i64 ((rd_T52 l0 a).f1.f1))) (fun _ hk=>hk.2) (.string ((rd_T52 l0 a).f1.f2))) (fun _ hk=>hk.2) (.slice L ((rd_T52 l0 a).f1.f3).length M)) (fun _ hk=>hk.1.1.1),sb⟩)
 rw[if_neg z]at H
 exact absurd H (by simp))
 rw[if_neg y]at H
 exact absurd H (by simp)
end Go.Proofs.Ytdihlgkcpooadaa.PFnExactIsPure
