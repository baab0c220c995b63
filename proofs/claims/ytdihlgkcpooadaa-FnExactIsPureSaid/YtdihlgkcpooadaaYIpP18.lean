/- Printed functions: impl_ValidPattern, impl_ValidEnv_1, impl_Named__impl_ValidEnv_1. -/
import Derived.Test.YtdihlgkcpooadaaYIpP0
import Derived.Test.YtdihlgkcpooadaaYIpP14
import Derived.Test.YtdihlgkcpooadaaYIpP17
namespace Go.Proofs.Ytdihlgkcpooadaa.PFnExactIsPure
open Go.RowKit Go.Proofs.YtdihlgkcpooadaaG Go.Proofs.YtdihlgkcpooadaaW.PrintWords Go.Proofs.YtdihlgkcpooadaaW.PrintLast Go.Proofs.YtdihlgkcpooadaaW.PrintMore
attribute [local go_sem] max2_int min2_int max_two min_two max_three min_three max_four min_four
set_option linter.unusedVariables false
set_option linter.unusedSimpArgs false
def impl_ValidPattern.f (k:Nat) (a0_0:Int) (a0_1:Int) (a0_2:ByteArray) (l0_3:List (S36)):Option (Bool):=(impl_countPattern.f k a0_0 a0_1 a0_2 l0_3 0).bind fun t271=>(some (decide (t271≤60)))
set_option maxHeartbeats 8000000 in
set_option maxRecDepth 100000 in
theorem impl_ValidPattern.calls (k:Nat) (a0_0:Int) (a0_1:Int) (a0_2:ByteArray) (A0_3:Option Addr) (c0_3:Nat) (l0_3:List (S36)) (r:Bool) (w:World) (hr0_3:Kd.C k36 w A0_3 l0_3.length l0_3) (hc0_3:l0_3.length≤c0_3) (h:impl_ValidPattern.f k a0_0 a0_1 a0_2 l0_3=some r):
  Calls Try.prog 29 #[.agg #[.int .i64 a0_0,.int .i64 a0_1,.string a0_2,.slice A0_3 l0_3.length c0_3]] w fun e w'=>e= .returned (.bool r)∧Below w.heap.size w w':=by
 have j:=Try.underlying36
 have c:=zM hr0_3
 have d:=zM hc0_3
 clear hr0_3 hc0_3
 have HB:=zM (Below.refl w.heap.size w)
 have H:((impl_countPattern.f k a0_0 a0_1 a0_2 l0_3 0).bind fun a=>(some (decide (a≤60))))=some r:=h
 clear h
 obtain⟨a,i,H⟩:=sO H
 obtain rfl:=zI H
 go_enter Try.func29,Try.ntmps29
 go_wp2_with (first|((with_reducible refine gate_dst (N:=1) rfl ?_);refine sV (N:=1) (cs:= #[.int .i64 a0_0,.int .i64 a0_1,.string a0_2,.slice A0_3 l0_3.length c0_3]) (t:=36) ?_;intro l hg m hbox hb;have b:=zM (hbox);have n:=sG HB hg;have p:=sG HB hg;replace HB:=sB HB hb;clear hb hbox hg;obtain⟨q,s,u,v,x,y,z,A⟩:=cells4 b.out)|((with_reducible refine gate_callee (f:=53) rfl ?_);refine sC (some 4) Try.func53 #[.agg #[.int .i64 a0_0,.int .i64 a0_1,.string a0_2,.slice A0_3 l0_3.length c0_3],.int .i64 0] (impl_countPattern.calls k a0_0 a0_1 a0_2 _ _ l0_3 0 a _ ?side1 ?side2 i.out) ?_;(case side1=>exact sD (zC c.out HB.out));(case side2=>exact d.out);rintro e B ⟨rfl,hb⟩;refine⟨_,rfl,?_⟩;replace b:=sK b hb;replace HB:=sB HB hb;(try clear hb)))
 go_ret
 exact⟨sq,sb⟩
def impl_ValidEnv_1.f (k:Nat) (a0_0:ByteArray) (a0_1:Int) (a0_2:Int) (a0_3:ByteArray) (l0_4:List (S36)):Option (Bool):=(impl_IsName.f k a0_0).bind fun t273=>(if t273=true then((impl_ValidPattern.f k a0_1 a0_2 a0_3 l0_4).bind fun t274=>(some t274))else(some false))
set_option maxHeartbeats 8000000 in
set_option maxRecDepth 100000 in
theorem impl_ValidEnv_1.calls (k:Nat) (a0_0:ByteArray) (a0_1:Int) (a0_2:Int) (a0_3:ByteArray) (A0_4:Option Addr) (c0_4:Nat) (l0_4:List (S36)) (r:Bool) (w:World) (hr0_4:Kd.C k36 w A0_4 l0_4.length l0_4) (hc0_4:l0_4.length≤c0_4) (h:impl_ValidEnv_1.f k a0_0 a0_1 a0_2 a0_3 l0_4=some r):
  Calls Try.prog 27 #[.agg #[.string a0_0,.int .i64 a0_1,.int .i64 a0_2,.string a0_3,.slice A0_4 l0_4.length c0_4]] w fun e w'=>e= .returned (.bool r)∧Below w.heap.size w w':=by
 have s:=Try.underlying52
 have u:=Try.underlying36
 have j:=zM hr0_4
 have l:=zM hc0_4
 clear hr0_4 hc0_4
 have HB:=zM (Below.refl w.heap.size w)
 have H:((impl_IsName.f k a0_0).bind fun c=>(if c=true then((impl_ValidPattern.f k a0_1 a0_2 a0_3 l0_4).bind fun d=>(some d))else(some false)))=some r:=h
 clear h
 obtain⟨c,i,H⟩:=sO H
 by_cases b:c=true
 ·(
 subst b
 rewrite[if_pos rfl]at H
 obtain⟨d,m,H⟩:=sO H
 obtain rfl:=zI H
 go_enter Try.func27,Try.ntmps27
 go_wp2_with (first|((with_reducible refine gate_dst (N:=1) rfl ?_);refine sV (N:=1) (cs:= #[.string a0_0,.int .i64 a0_1,.int .i64 a0_2,.string a0_3,.slice A0_4 l0_4.length c0_4]) (t:=52) ?_;intro n hg v hbox hb;have a:=zM (hbox);have p:=sG HB hg;have q:=sG HB hg;replace HB:=sB HB hb;clear hb hbox hg;obtain⟨x,y,z,A,B,D,E,F,G,I⟩:=cells5 a.out)|((with_reducible refine gate_callee (f:=28) rfl ?_);refine sC (some 5) Try.func28 #[.string a0_0] (impl_IsName.calls k a0_0 true _ i.out) ?_;rintro e J ⟨rfl,hb⟩;refine⟨_,rfl,?_⟩;replace a:=sK a hb;replace HB:=sB HB hb;(try clear hb);obtain⟨K,L,M,O,P,Q,R,S,T,U⟩:=cells5 a.out)|(go_at_call 29;(with_reducible refine(impl_ValidPattern.calls k a0_1 a0_2 a0_3 _ _ l0_4 d _ ?side1 ?side2 m.out).mono ?_);(case side1=>exact sD (zC j.out HB.out));(case side2=>exact l.out);rintro e V ⟨rfl,hb⟩;replace a:=sK a hb;replace HB:=sB HB hb;(try clear hb)))
 go_ret
 exact⟨sq,sb⟩)
 replace b:=zB b
 subst b
 rewrite[if_neg zQ]at H
 obtain rfl:=zI H
 go_enter Try.func27,Try.ntmps27
 go_wp2_with (first|((with_reducible refine gate_dst (N:=1) rfl ?_);refine sV (N:=1) (cs:= #[.string a0_0,.int .i64 a0_1,.int .i64 a0_2,.string a0_3,.slice A0_4 l0_4.length c0_4]) (t:=52) ?_;intro n hg W hbox hb;have a:=zM (hbox);have p:=sG HB hg;have q:=sG HB hg;replace HB:=sB HB hb;clear hb hbox hg;obtain⟨X,Y,Z,aa,ab,ac,ad,ae,af,ag⟩:=cells5 a.out)|((with_reducible refine gate_callee (f:=28) rfl ?_);refine sC (some 5) Try.func28 #[.string a0_0] (impl_IsName.calls k a0_0 false _ i.out) ?_;rintro e ah ⟨rfl,hb⟩;refine⟨_,rfl,?_⟩;replace a:=sK a hb;replace HB:=sB HB hb;(try clear hb)))
 go_ret
 exact⟨sq,sb⟩
def impl_Named__impl_ValidEnv_1.l0 : Nat → List (S52) → Int → Int → Option (Bool)
 |0,_,_,_=>none
 |k+1,x7,x8,x9=>if x9<x8 then(if 0≤x9 then(if x9<(x7.length:Int)then((impl_ValidEnv_1.f k ((rd_T52 x7 x9).f0) ((rd_T52 x7 x9).f1.f0) ((rd_T52 x7 x9).f1.f1) ((rd_T52 x7 x9).f1.f2) ((rd_T52 x7 x9).f1.f3)).bind fun t277=>(if t277=true then(impl_Named__impl_ValidEnv_1.l0 k x7 x8 (wrap64 (x9+1)))else(some false)))else(none))else(none))else(some true)
def impl_Named__impl_ValidEnv_1.f (k:Nat) (l0:List (S52)):Option (Bool):=impl_Named__impl_ValidEnv_1.l0 k l0 (l0.length:Int) 0
set_option maxHeartbeats 8000000 in
set_option maxRecDepth 100000 in
theorem impl_Named__impl_ValidEnv_1.calls (k:Nat) (A0:Option Addr) (c0:Nat) (l0:List (S52)) (r:Bool) (w:World) (hr0:Kd.C k52 w A0 l0.length l0) (hc0:l0.length≤c0) (h:impl_Named__impl_ValidEnv_1.f k l0=some r):
  Calls Try.prog 26 #[.slice A0 l0.length c0,.func (.func 27) #[] #[]] w fun e w'=>e= .returned (.bool r)∧Below w.heap.size w w':=by
 have P:=Try.underlying52
 have G:=zM hr0
 have Q:=zM hc0
 clear hr0 hc0
 have HB:=zM (Below.refl w.heap.size w)
 have H:(impl_Named__impl_ValidEnv_1.l0 k l0 (l0.length:Int) 0)=some r:=h
 clear h
 have H':=zM H
 clear H
 go_enter Try.func26,Try.ntmps26
 go_wp2
 go_loopg [9] k (fun kq K w'=>∃(a:Int),K= .int .i64 a∧Aside0 (impl_Named__impl_ValidEnv_1.l0 kq l0 (l0.length:Int) a=some r)∧Aside0 (kq≤k)∧Aside0 (Below w.heap.size w w'))
 case atStart=>exact⟨(0),sr,H',⟨Nat.le_refl _⟩,⟨sb⟩⟩
 case round=>(
 clear H'
 obtain⟨a,rfl,HA,I,HB⟩:=hrel
 cases gk with
 |zero=>exact absurd HA.out (by simp[impl_Named__impl_ValidEnv_1.l0])
 |succ k1=>(
 have H:=HA.out
 clear HA
 simp only[impl_Named__impl_ValidEnv_1.l0]at H
 by_cases i:a<(l0.length:Int)
 ·(
 rw[if_pos i]at H
 have c3b0:=zT i
 clear i
 by_cases u:0≤a
 ·(
 rw[if_pos u]at H
 have c4b0:=zT u
 clear u
 by_cases v:a<(l0.length:Int)
 ·(
 rw[if_pos v]at H
 have c5b0:=zT v
 clear v
 obtain⟨L,J,H⟩:=sO H
 by_cases x:L=true
 ·(
 subst x
 rewrite[if_pos rfl]at H
 have H':=zM H
 clear H
 have b:0≤(a:Int):=zzA
 have c:a<(l0.length:Int):=zzA
 obtain⟨M,y,z,A,j,l,m,n,p,q,s⟩:=at_T52 G.out a b c
 cases A
 replace j:=sX HB j
 replace l:=sX HB l
 replace m:=sX HB m
 replace n:=sX HB n
 replace p:=sX HB p
 have B:=zM s
 have D:=zM q
 clear s q
 replace b:=eq_true b
 replace c:=eq_true c
 go_wp2_with (first|((with_reducible refine gate_dst (N:=6) rfl ?_);refine sV (N:=6) (cs:= #[.string (⟨#[]⟩:ByteArray),.int .i64 0,.int .i64 0,.string (⟨#[]⟩:ByteArray),.slice none 0 0]) (t:=52) ?_;intro E hg R hbox hb;have d:=zM (hbox);have O:=sG HB hg;have F:=sG HB hg;replace HB:=sB HB hb;clear hb hbox hg;obtain⟨S,T,U,V,W,X,Y,Z,aa,ab⟩:=cells5 d.out)|(go_at_call 27;(with_reducible refine(impl_ValidEnv_1.calls k1 ((rd_T52 l0 a).f0) ((rd_T52 l0 a).f1.f0) ((rd_T52 l0 a).f1.f1) ((rd_T52 l0 a).f1.f2) _ _ ((rd_T52 l0 a).f1.f3) true _ ?side1 ?side2 J.out).mono ?_);(case side1=>exact zC B.out zzR);(case side2=>exact D.out);rintro e ac ⟨rfl,hb⟩;replace d:=zM (blk_below (g:=E) (o:= .cells #[.string ((rd_T52 l0 a).f0),.int .i64 ((rd_T52 l0 a).f1.f0),.int .i64 ((rd_T52 l0 a).f1.f1),.string ((rd_T52 l0 a).f1.f2),.slice y ((rd_T52 l0 a).f1.f3).length z] 52 (0,0)) (by exact sP5 (sT d.out)) hb);replace HB:=sB HB hb;(try clear hb)))
 go_roundg k1
 case measure=>have:=I.out;omega
 case rel=>exact⟨(wrap64 (a+1)),sr,H',⟨by have:=I.out;omega⟩,⟨sb⟩⟩)
 replace x:=zB x
 subst x
 rewrite[if_neg zQ]at H
 obtain rfl:=zI H
 have b:0≤(a:Int):=zzA
 have c:a<(l0.length:Int):=zzA
 obtain⟨M,y,z,A,j,l,m,n,p,q,s⟩:=at_T52 G.out a b c
 cases A
 replace j:=sX HB j
 replace l:=sX HB l
 replace m:=sX HB m
 replace n:=sX HB n
 replace p:=sX HB p
 have B:=zM s
 have D:=zM q
 clear s q
 replace b:=eq_true b
 replace c:=eq_true c
 go_wp2_with (first|((with_reducible refine gate_dst (N:=6) rfl ?_);refine sV (N:=6) (cs:= #[.string (⟨#[]⟩:ByteArray),.int .i64 0,.int .i64 0,.string (⟨#[]⟩:ByteArray),.slice none 0 0]) (t:=52) ?_;intro E hg ad hbox hb;have d:=zM (hbox);have O:=sG HB hg;have F:=sG HB hg;replace HB:=sB HB hb;clear hb hbox hg;obtain⟨ae,af,ag,ah,ai,aj,ak,al,am,an⟩:=cells5 d.out)|(go_at_call 27;(with_reducible refine(impl_ValidEnv_1.calls k1 ((rd_T52 l0 a).f0) ((rd_T52 l0 a).f1.f0) ((rd_T52 l0 a).f1.f1) ((rd_T52 l0 a).f1.f2) _ _ ((rd_T52 l0 a).f1.f3) false _ ?side1 ?side2 J.out).mono ?_);(case side1=>exact zC B.out zzR);(case side2=>exact D.out);rintro e ao ⟨rfl,hb⟩;replace d:=zM (blk_below (g:=E) (o:= .cells #[.string ((rd_T52 l0 a).f0),.int .i64 ((rd_T52 l0 a).f1.f0),.int .i64 ((rd_T52 l0 a).f1.f1),.string ((rd_T52 l0 a).f1.f2),.slice y ((rd_T52 l0 a).f1.f3).length z] 52 (0,0)) (by exact sP5 (sT d.out)) hb);replace HB:=sB HB hb;(try clear hb)))
 go_ret
 exact⟨sq,sb⟩)
 rw[if_neg v]at H
 exact absurd H (by simp))
 rw[if_neg u]at H
 exact absurd H (by simp))
 rw[if_neg i]at H
 have c3b0:=zF i
 clear i
 obtain rfl:=zI H
 go_wp2
 go_ret
 exact⟨sq,sb⟩))
end Go.Proofs.Ytdihlgkcpooadaa.PFnExactIsPure
