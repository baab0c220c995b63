/- Printed functions: cmp_isNaN_int64, cmp_Compare_int64, impl_Heap_find_1, impl_Object_int64__impl_Heap_find_1, impl_Heap_find. -/
import Derived.Test.YtengilknjiobiaaYPoP0
import Derived.Test.YtengilknjiobiaaYPoPE
namespace Go.Proofs.Ytengilknjiobiaa.PFnExactPairsOf
open Go.RowKit Go.Proofs.YtengilknjiobiaaG Go.Proofs.YtengilknjiobiaaW.PrintWords Go.Proofs.YtengilknjiobiaaW.PrintLast Go.Proofs.YtengilknjiobiaaW.PrintMore
attribute [local go_sem] max2_int min2_int max_two min_two max_three min_three max_four min_four
set_option linter.unusedVariables false
set_option linter.unusedSimpArgs false
section
attribute [local go_sem high] eqA29
def cmp_isNaN_int64.f (a0:Int):Option (Bool):=some (a0 !=a0)
set_option maxHeartbeats 8000000 in
set_option maxRecDepth 100000 in
theorem cmp_isNaN_int64.calls (a0:Int) (r:Bool) (w:World) (h:cmp_isNaN_int64.f a0=some r):
  Calls Try.prog 122 #[.int .i64 a0] w fun e w'=>e= .returned (.bool r)∧Drawn0 w w':=by
 have H:(some (a0 !=a0))=some r:=h
 clear h
 obtain rfl:=zI H
 go_enter Try.func122,Try.ntmps122
 go_wp2
 go_ret
 exact⟨by first|rfl|(simp;done)|(simp[*];done),by repeat(first|exact Drawn0.refl _|apply Drawn0.step)⟩
end
def cmp_Compare_int64.f (a0:Int) (a1:Int):Option (Int):=(cmp_isNaN_int64.f a0).bind fun t341=>((cmp_isNaN_int64.f a1).bind fun t342=>(if t341=true then(if t342=true then(some 0)else(some (-1)))else(if t342=true then(some 1)else(if a0<a1 then(some (-1))else(if a0>a1 then(some 1)else(some 0))))))
set_option maxHeartbeats 8000000 in
set_option maxRecDepth 100000 in
theorem cmp_Compare_int64.calls (a0:Int) (a1:Int) (r:Int) (w:World) (h:cmp_Compare_int64.f a0 a1=some r):
  Calls Try.prog 106 #[.int .i64 a0,.int .i64 a1] w fun e w'=>e= .returned (.int .i64 r)∧Drawn0 w w':=by
 have H:((cmp_isNaN_int64.f a0).bind fun m=>((cmp_isNaN_int64.f a1).bind fun g=>(if m=true then(if g=true then(some 0)else(some (-1)))else(if g=true then(some 1)else(if a0<a1 then(some (-1))else(if a0>a1 then(some 1)else(some 0)))))))=some r:=h
 clear h
 obtain⟨m,a,H⟩:=sO H
 obtain⟨g,b,H⟩:=sO H
 by_cases i:m=true
 ·(
 subst i
 rewrite[if_pos rfl]at H
 by_cases j:g=true
 ·(
 subst j
 rewrite[if_pos rfl]at H
 obtain rfl:=zI H
 go_enter Try.func106,Try.ntmps106
 go_wp2_with (first|((with_reducible refine gate_callee (f:=122) rfl ?_);refine sC (some 8) Try.func122 #[.int .i64 a0] (cmp_isNaN_int64.calls a0 true _ a.out) ?_;rintro e w' ⟨rfl,⟨nd,rfl⟩⟩;refine⟨_,rfl,?_⟩)|((with_reducible refine gate_callee (f:=122) rfl ?_);refine sC (some 10) Try.func122 #[.int .i64 a1] (cmp_isNaN_int64.calls a1 true _ b.out) ?_;rintro e w' ⟨rfl,⟨nd,rfl⟩⟩;refine⟨_,rfl,?_⟩))
 go_ret
 exact⟨by first|rfl|(simp;done)|(simp[*];done),by repeat(first|exact Drawn0.refl _|apply Drawn0.step)⟩)
 replace j:=zB j
 subst j
 rewrite[if_neg zQ]at H
 obtain rfl:=zI H
 go_enter Try.func106,Try.ntmps106
 go_wp2_with (first|((with_reducible refine gate_callee (f:=122) rfl ?_);refine sC (some 8) Try.func122 #[.int .i64 a0] (cmp_isNaN_int64.calls a0 true _ a.out) ?_;rintro e w' ⟨rfl,⟨nd,rfl⟩⟩;refine⟨_,rfl,?_⟩)|((with_reducible refine gate_callee (f:=122) rfl ?_);refine sC (some 10) Try.func122 #[.int .i64 a1] (cmp_isNaN_int64.calls a1 false _ b.out) ?_;rintro e w' ⟨rfl,⟨nd,rfl⟩⟩;refine⟨_,rfl,?_⟩))
 go_ret
 exact⟨by first|rfl|(simp;done)|(simp[*];done),by repeat(first|exact Drawn0.refl _|apply Drawn0.step)⟩)
 replace i:=zB i
 subst i
 rewrite[if_neg zQ]at H
 by_cases l:g=true
 ·(
 subst l
 rewrite[if_pos rfl]at H
 obtain rfl:=zI H
 go_enter Try.func106,Try.ntmps106
 go_wp2_with (first|((with_reducible refine gate_callee (f:=122) rfl ?_);refine sC (some 8) Try.func122 #[.int .i64 a0] (cmp_isNaN_int64.calls a0 false _ a.out) ?_;rintro e w' ⟨rfl,⟨nd,rfl⟩⟩;refine⟨_,rfl,?_⟩)|((with_reducible refine gate_callee (f:=122) rfl ?_);refine sC (some 10) Try.func122 #[.int .i64 a1] (cmp_isNaN_int64.calls a1 true _ b.out) ?_;rintro e w' ⟨rfl,⟨nd,rfl⟩⟩;refine⟨_,rfl,?_⟩))
 go_ret
 exact⟨by first|rfl|(simp;done)|(simp[*];done),by repeat(first|exact Drawn0.refl _|apply Drawn0.step)⟩)
 replace l:=zB l
 subst l
 rewrite[if_neg zQ]at H
 by_cases c:a0<a1
 ·(
 rw[if_pos c]at H
 have c8b0:=zT c
 clear c
 obtain rfl:=zI H
 go_enter Try.func106,Try.ntmps106
 go_wp2_with (first|((with_reducible refine gate_callee (f:=122) rfl ?_);refine sC (some 8) Try.func122 #[.int .i64 a0] (cmp_isNaN_int64.calls a0 false _ a.out) ?_;rintro e w' ⟨rfl,⟨nd,rfl⟩⟩;refine⟨_,rfl,?_⟩)|((with_reducible refine gate_callee (f:=122) rfl ?_);refine sC (some 10) Try.func122 #[.int .i64 a1] (cmp_isNaN_int64.calls a1 false _ b.out) ?_;rintro e w' ⟨rfl,⟨nd,rfl⟩⟩;refine⟨_,rfl,?_⟩))
 go_ret
 exact⟨by first|rfl|(simp;done)|(simp[*];done),by repeat(first|exact Drawn0.refl _|apply Drawn0.step)⟩)
 rw[if_neg c]at H
 have c8b0:=zF c
 clear c
 by_cases d:a0>a1
 ·(
 rw[if_pos d]at H
 have c9b0:decide (a1<a0)=true:=zT d
 clear d
 obtain rfl:=zI H
 go_enter Try.func106,Try.ntmps106
 go_wp2_with (first|((with_reducible refine gate_callee (f:=122) rfl ?_);refine sC (some 8) Try.func122 #[.int .i64 a0] (cmp_isNaN_int64.calls a0 false _ a.out) ?_;rintro e w' ⟨rfl,⟨nd,rfl⟩⟩;refine⟨_,rfl,?_⟩)|((with_reducible refine gate_callee (f:=122) rfl ?_);refine sC (some 10) Try.func122 #[.int .i64 a1] (cmp_isNaN_int64.calls a1 false _ b.out) ?_;rintro e w' ⟨rfl,⟨nd,rfl⟩⟩;refine⟨_,rfl,?_⟩))
 go_ret
 exact⟨by first|rfl|(simp;done)|(simp[*];done),by repeat(first|exact Drawn0.refl _|apply Drawn0.step)⟩)
 rw[if_neg d]at H
 have c9b0:decide (a1<a0)=false:=zF d
 clear d
 obtain rfl:=zI H
 go_enter Try.func106,Try.ntmps106
 go_wp2_with (first|((with_reducible refine gate_callee (f:=122) rfl ?_);refine sC (some 8) Try.func122 #[.int .i64 a0] (cmp_isNaN_int64.calls a0 false _ a.out) ?_;rintro e w' ⟨rfl,⟨nd,rfl⟩⟩;refine⟨_,rfl,?_⟩)|((with_reducible refine gate_callee (f:=122) rfl ?_);refine sC (some 10) Try.func122 #[.int .i64 a1] (cmp_isNaN_int64.calls a1 false _ b.out) ?_;rintro e w' ⟨rfl,⟨nd,rfl⟩⟩;refine⟨_,rfl,?_⟩))
 go_ret
 exact⟨by first|rfl|(simp;done)|(simp[*];done),by repeat(first|exact Drawn0.refl _|apply Drawn0.step)⟩
def impl_Heap_find_1.f (a0_0:Int) (a0_1:Int) (a0_2:ByteArray) (a0_3:Int) (l0_4:List (S29)) (l0_5:List (S29)) (a0_6:Int) (a0_7:Int) (a0_8:ByteArray) (a0_9:Int) (a1:Int):Option (Int):=(cmp_Compare_int64.f a0_0 a1).bind fun t344=>(some t344)
set_option maxHeartbeats 8000000 in
set_option maxRecDepth 100000 in
theorem impl_Heap_find_1.calls (a0_0:Int) (a0_1:Int) (a0_2:ByteArray) (a0_3:Int) (A0_4:Option Addr) (c0_4:Nat) (l0_4:List (S29)) (A0_5:Option Addr) (c0_5:Nat) (l0_5:List (S29)) (a0_6:Int) (a0_7:Int) (a0_8:ByteArray) (a0_9:Int) (a1:Int) (r:Int) (w:World) (hr0_4:Kd.C k29 w A0_4 l0_4.length l0_4) (hc0_4:l0_4.length≤c0_4) (hr0_5:Kd.C k29 w A0_5 l0_5.length l0_5) (hc0_5:l0_5.length≤c0_5) (h:impl_Heap_find_1.f a0_0 a0_1 a0_2 a0_3 l0_4 l0_5 a0_6 a0_7 a0_8 a0_9 a1=some r):
  Calls Try.prog 105 #[.agg #[.int .i64 a0_0,.int .i64 a0_1,.string a0_2,.int .i64 a0_3,.slice A0_4 l0_4.length c0_4,.slice A0_5 l0_5.length c0_5,.int .i64 a0_6,.int .i64 a0_7,.string a0_8,.int .i64 a0_9],.int .i64 a1] w fun e w'=>e= .returned (.int .i64 r)∧Below w.heap.size w w':=by
 have d:=Try.underlying56
 have g:=zM hr0_4
 have i:=zM hc0_4
 clear hr0_4 hc0_4
 have j:=zM hr0_5
 have l:=zM hc0_5
 clear hr0_5 hc0_5
 have HB:=zM (Below.refl w.heap.size w)
 have H:((cmp_Compare_int64.f a0_0 a1).bind fun a=>(some a))=some r:=h
 clear h
 obtain⟨a,b,H⟩:=sO H
 obtain rfl:=zI H
 go_enter Try.func105,Try.ntmps105
 go_wp2_with (first|((with_reducible refine gate_dst (N:=2) rfl ?_);refine sV (N:=2) (cs:= #[.int .i64 a0_0,.int .i64 a0_1,.string a0_2,.int .i64 a0_3,.slice A0_4 l0_4.length c0_4,.slice A0_5 l0_5.length c0_5,.int .i64 a0_6,.int .i64 a0_7,.string a0_8,.int .i64 a0_9]) (t:=56) ?_;intro m hg n hbox hb;have c:=zM (hbox);have o:=sG HB hg;have p:=sG HB hg;replace HB:=sB HB hb;clear hb hbox hg;obtain⟨q,s,u,v,x,y,z,A,B,D,E,F,G,I,J,K,L,M,O,P⟩:=cells10 c.out)|((with_reducible refine gate_callee (f:=106) rfl ?_);refine sC (some 8) Try.func106 #[.int .i64 a0_0,.int .i64 a1] (cmp_Compare_int64.calls a0_0 a1 a _ b.out) ?_;rintro e w' ⟨rfl,⟨nd,rfl⟩⟩;refine⟨_,rfl,?_⟩))
 go_ret
 exact⟨sq,sb⟩
def impl_Object_int64__impl_Heap_find_1.l0 : Nat → List (S56) → Int → Int → Int → Int → Option (Int × Bool)
 |0,_,_,_,_,_=>none
 |k+1,x0,x1,x8,x9,x10=>if x9<x10 then(if 0≤(wrap64 ((IntKind.u64.wrap (wrap64 (x9+x10)))/2))then(if(wrap64 ((IntKind.u64.wrap (wrap64 (x9+x10)))/2))<(x0.length:Int)then((impl_Heap_find_1.f ((rd_T56 x0 (wrap64 ((IntKind.u64.wrap (wrap64 (x9+x10)))/2))).f0) ((rd_T56 x0 (wrap64 ((IntKind.u64.wrap (wrap64 (x9+x10)))/2))).f1) ((rd_T56 x0 (wrap64 ((IntKind.u64.wrap (wrap64 (x9+x10)))/2))).f2) ((rd_T56 x0 (wrap64 ((IntKind.u64.wrap (wrap64 (x9+x10)))/2))).f3) ((rd_T56 x0 (wrap64 ((IntKind.u64.wrap (wrap64 (x9+x10)))/2))).f4) ((rd_T56 x0 (wrap64 ((IntKind.u64.wrap (wrap64 (x9+x10)))/2))).f5) ((rd_T56 x0 (wrap64 ((IntKind.u64.wrap (wrap64 (x9+x10)))/2))).f6.f0) ((rd_T56 x0 (wrap64 ((IntKind.u64.wrap (wrap64 (x9+x10)))/2))).f6.f1) ((rd_T56 x0 (wrap64 ((IntKind.u64.wrap (wrap64 (x9+x10)))/2))).f6.f2) ((rd_T56 x0 (wrap64 ((IntKind.u64.wrap (wrap64 (x9+x10)))/2))).f6.f3) x1).bind fun t346=>(if t346<0 then(impl_Object_int64__impl_Heap_find_1.l0 k x0 x1 x8 (wrap64 ((wrap64 ((IntKind.u64.wrap (wrap64 (x9+x10)))/2))+1)) x10)else(impl_Object_int64__impl_Heap_find_1.l0 k x0 x1 x8 x9 (wrap64 ((IntKind.u64.wrap (wrap64 (x9+x10)))/2)))))else(none))else(none))else(if x9<x8 then(if 0≤x9 then(if x9<(x0.length:Int)then((impl_Heap_find_1.f ((rd_T56 x0 x9).f0) ((rd_T56 x0 x9).f1) ((rd_T56 x0 x9).f2) ((rd_T56 x0 x9).f3) ((rd_T56 x0 x9).f4) ((rd_T56 x0 x9).f5) ((rd_T56 x0 x9).f6.f0) ((rd_T56 x0 x9).f6.f1) ((rd_T56 x0 x9).f6.f2) ((rd_T56 x0 x9).f6.f3) x1).bind fun t348=>(some (x9,(t348==0))))else(none))else(none))else(some (x9,false)))
def impl_Object_int64__impl_Heap_find_1.f (k:Nat) (l0:List (S56)) (a1:Int):Option (Int×Bool):=impl_Object_int64__impl_Heap_find_1.l0 k l0 a1 (l0.length:Int) 0 (l0.length:Int)
set_option maxHeartbeats 8000000 in
set_option maxRecDepth 100000 in
theorem impl_Object_int64__impl_Heap_find_1.calls (k:Nat) (A0:Option Addr) (c0:Nat) (l0:List (S56)) (a1:Int) (r1:Int) (r2:Bool) (w:World) (hr0:Kd.C k56 w A0 l0.length l0) (hc0:l0.length≤c0) (h:impl_Object_int64__impl_Heap_find_1.f k l0 a1=some (r1,r2)):
  Calls Try.prog 104 #[.slice A0 l0.length c0,.int .i64 a1,.func (.func 105) #[] #[]] w fun e w'=>e= .returned (.tuple #[.int .i64 r1,.bool r2])∧Below w.heap.size w w':=by
 have ax:=Try.underlying56
 have K:=zM hr0
 have ay:=zM hc0
 clear hr0 hc0
 have HB:=zM (Below.refl w.heap.size w)
 have H:(impl_Object_int64__impl_Heap_find_1.l0 k l0 a1 (l0.length:Int) 0 (l0.length:Int))=some (r1,r2):=h
 clear h
 have H':=zM H
 clear H
 go_enter Try.func104,Try.ntmps104
 go_wp2
 go_loopg [9,10] k (fun kq v9 ai w'=>∃(a:Int) (b:Int),v9= .int .i64 a∧ai= .int .i64 b∧Aside0 (impl_Object_int64__impl_Heap_find_1.l0 kq l0 a1 (l0.length:Int) a b=some (r1,r2))∧Aside0 (kq≤k)∧Aside0 (Below w.heap.size w w'))
 case atStart=>exact⟨(0),((l0.length:Int)),sr,sr,H',⟨Nat.le_refl _⟩,⟨sb⟩⟩
 case round=>(
 clear H'
 obtain⟨a,b,rfl,rfl,HA,E,HB⟩:=hrel
 cases gk with
 |zero=>exact absurd HA.out (by simp[impl_Object_int64__impl_Heap_find_1.l0])
 |succ k1=>(
 have H:=HA.out
 clear HA
 simp only[impl_Object_int64__impl_Heap_find_1.l0]at H
 by_cases g:a<b
 ·(
 rw[if_pos g]at H
 have c4b0:=zT g
 clear g
 obtain⟨ji5,hji5⟩:∃j_:Int,(wrap64 ((IntKind.u64.wrap (wrap64 (a+b)))/2))=j_:=⟨_,rfl⟩
 replace H:(if 0≤(ji5)then(if(ji5)<(l0.length:Int)then((impl_Heap_find_1.f ((rd_T56 l0 (ji5)).f0) ((rd_T56 l0 (ji5)).f1) ((rd_T56 l0 (ji5)).f2) ((rd_T56 l0 (ji5)).f3) ((rd_T56 l0 (ji5)).f4) ((rd_T56 l0 (ji5)).f5) ((rd_T56 l0 (ji5)).f6.f0) ((rd_T56 l0 (ji5)).f6.f1) ((rd_T56 l0 (ji5)).f6.f2) ((rd_T56 l0 (ji5)).f6.f3) a1).bind fun l=>(if l<0 then(impl_Object_int64__impl_Heap_find_1.l0 k1 l0 a1 (l0.length:Int) (wrap64 ((ji5)+1)) b)else(impl_Object_int64__impl_Heap_find_1.l0 k1 l0 a1 (l0.length:Int) a ji5)))else(none))else(none))=some (r1,r2):=by first|(rw[hji5]at H;exact H)|(simp only[hji5]at H ⊢;exact H)
 have hji5w:(IntKind.i64.wrap ((IntKind.u64.wrap (wrap64 (a+b)))/2))=ji5:=(i64_w _).trans hji5
 by_cases F:0≤(ji5)
 ·(
 rw[if_pos F]at H
 have c6b0:=zT F
 clear F
 by_cases G:(ji5)<(l0.length:Int)
 ·(
 rw[if_pos G]at H
 have c7b0:=zT G
 clear G
 obtain⟨l,T,H⟩:=sO H
 by_cases i:l<0
 ·(
 rw[if_pos i]at H
 have c9b0:=zT i
 clear i
 have H':=zM H
 clear H
 have c:0≤((ji5):Int):=zzA
 have d:(ji5)<(l0.length:Int):=zzA
 obtain⟨aj,ak,al,am,an,L,m,n,o,p,q,s,u,v,x,y,z,A,B,D⟩:=at_T56 K.out (ji5) c d
 cases L
 replace m:=sX HB m
 replace n:=sX HB n
 replace o:=sX HB o
 replace p:=sX HB p
 replace q:=sX HB q
 replace s:=sX HB s
 replace u:=sX HB u
 replace v:=sX HB v
 replace x:=sX HB x
 replace y:=sX HB y
 have M:=zM A
 have O:=zM z
 clear A z
 have P:=zM D
 have Q:=zM B
 clear D B
 replace c:=eq_true c
 replace d:=eq_true d
 go_wp2_with (first|(go_at_call 105;(with_reducible refine(impl_Heap_find_1.calls ((rd_T56 l0 (ji5)).f0) ((rd_T56 l0 (ji5)).f1) ((rd_T56 l0 (ji5)).f2) ((rd_T56 l0 (ji5)).f3) _ _ ((rd_T56 l0 (ji5)).f4) _ _ ((rd_T56 l0 (ji5)).f5) ((rd_T56 l0 (ji5)).f6.f0) ((rd_T56 l0 (ji5)).f6.f1) ((rd_T56 l0 (ji5)).f6.f2) ((rd_T56 l0 (ji5)).f6.f3) a1 l _ ?side1 ?side2 ?side3 ?side4 T.out).mono ?_);(case side1=>exact sD (zC M.out HB.out));(case side2=>exact O.out);(case side3=>exact sD (zC P.out HB.out));(case side4=>exact Q.out);rintro e az ⟨rfl,hb⟩;replace HB:=sB HB hb;(try clear hb)))
 go_roundg k1
 case measure=>have:=E.out;omega
 case rel=>exact⟨(wrap64 ((ji5)+1)),(b),(by first|rfl|(simp;done)|(simp only[←hji5]<;>(first|rfl|simp))|(simp[*];done)),sr,H',⟨by have:=E.out;omega⟩,⟨sb⟩⟩)
 rw[if_neg i]at H
 have c9b0:=zF i
 clear i
 have H':=zM H
 clear H
 have c:0≤((ji5):Int):=zzA
 have d:(ji5)<(l0.length:Int):=zzA
 obtain⟨aj,ak,al,am,an,L,m,n,o,p,q,s,u,v,x,y,z,A,B,D⟩:=at_T56 K.out (ji5) c d
 cases L
 replace m:=sX HB m
 replace n:=sX HB n
 replace o:=sX HB o
 replace p:=sX HB p
 replace q:=sX HB q
 replace s:=sX HB s
 replace u:=sX HB u
 replace v:=sX HB v
 replace x:=sX HB x
 replace y:=sX HB y
 have M:=zM A
 have O:=zM z
 clear A z
 have P:=zM D
 have Q:=zM B
 clear D B
 replace c:=eq_true c
 replace d:=eq_true d
 go_wp2_with (first|(go_at_call 105;(with_reducible refine(impl_Heap_find_1.calls ((rd_T56 l0 (ji5)).f0) ((rd_T56 l0 (ji5)).f1) ((rd_T56 l0 (ji5)).f2) ((rd_T56 l0 (ji5)).f3) _ _ ((rd_T56 l0 (ji5)).f4) _ _ ((rd_T56 l0 (ji5)).f5) ((rd_T56 l0 (ji5)).f6.f0) ((rd_T56 l0 (ji5)).f6.f1) ((rd_T56 l0 (ji5)).f6.f2) ((rd_T56 l0 (ji5)).f6.f3) a1 l _ ?side1 ?side2 ?side3 ?side4 T.out).mono ?_);(case side1=>exact sD (zC M.out HB.out));(case side2=>exact O.out);(case side3=>exact sD (zC P.out HB.out));(case side4=>exact Q.out);rintro e aA ⟨rfl,hb⟩;replace HB:=sB HB hb;(try clear hb)))
 go_roundg k1
 case measure=>have:=E.out;omega
 case rel=>exact⟨(a),(ji5),sr,(by first|rfl|(simp;done)|(simp only[←hji5]<;>(first|rfl|simp))|(simp[*];done)),H',⟨by have:=E.out;omega⟩,⟨sb⟩⟩)
 rw[if_neg G]at H
 exact absurd H (by simp))
 rw[if_neg F]at H
 exact absurd H (by simp))
 rw[if_neg g]at H
 have c4b0:=zF g
 clear g
 by_cases j:a<(l0.length:Int)
 ·(
 rw[if_pos j]at H
 have c12b0:=zT j
 clear j
 by_cases I:0≤a
 ·(
 rw[if_pos I]at H
 have c13b0:=zT I
 clear I
 by_cases J:a<(l0.length:Int)
 ·(
 rw[if_pos J]at H
 have c14b0:=zT J
 clear J
 obtain⟨ao,ap,H⟩:=sO H
 simp only[Option.some.injEq,Prod.mk.injEq]at H
 obtain⟨rfl,rfl⟩:=H
 have R:0≤(a:Int):=zzA
 have S:a<(l0.length:Int):=zzA
 obtain⟨aB,aC,aD,aE,aF,aq,U,V,W,X,Y,Z,aa,ab,ac,ad,ae,af,ag,ah⟩:=at_T56 K.out a R S
 cases aq
 replace U:=sX HB U
 replace V:=sX HB V
 replace W:=sX HB W
 replace X:=sX HB X
 replace Y:=sX HB Y
 replace Z:=sX HB Z
 replace aa:=sX HB aa
 replace ab:=sX HB ab
 replace ac:=sX HB ac
 replace ad:=sX HB ad
 have ar:=zM af
 have au:=zM ae
 clear af ae
 have av:=zM ah
 have aw:=zM ag
 clear ah ag
 replace R:=eq_true R
 replace S:=eq_true S
 go_wp2_with (first|(go_at_call 105;(with_reducible refine(impl_Heap_find_1.calls ((rd_T56 l0 a).f0) ((rd_T56 l0 a).f1) ((rd_T56 l0 a).f2) ((rd_T56 l0 a).f3) _ _ ((rd_T56 l0 a).f4) _ _ ((rd_T56 l0 a).f5) ((rd_T56 l0 a).f6.f0) ((rd_T56 l0 a).f6.f1) ((rd_T56 l0 a).f6.f2) ((rd_T56 l0 a).f6.f3) a1 ao _ ?side1 ?side2 ?side3 ?side4 ap.out).mono ?_);(case side1=>exact sD (zC ar.out HB.out));(case side2=>exact au.out);(case side3=>exact sD (zC av.out HB.out));(case side4=>exact aw.out);rintro e aG ⟨rfl,hb⟩;replace HB:=sB HB hb;(try clear hb)))
 go_ret2
 exact⟨sq,sb⟩)
 rw[if_neg J]at H
 exact absurd H (by simp))
 rw[if_neg I]at H
 exact absurd H (by simp))
 rw[if_neg j]at H
 have c12b0:=zF j
 clear j
 simp only[Option.some.injEq,Prod.mk.injEq]at H
 obtain⟨rfl,rfl⟩:=H
 go_wp2
 go_ret2
 exact⟨sq,sb⟩))
def impl_Heap_find.f (k:Nat) (a0_0:Int) (l0_1:List (S56)) (a1:Int):Option (Int):=(impl_Object_int64__impl_Heap_find_1.f k l0_1 a1).bind fun bt350=>(if bt350.2=true then(some bt350.1)else(some (-1)))
set_option maxHeartbeats 8000000 in
set_option maxRecDepth 100000 in
theorem impl_Heap_find.calls (k:Nat) (a0_0:Int) (A0_1:Option Addr) (c0_1:Nat) (l0_1:List (S56)) (a1:Int) (r:Int) (w:World) (hr0_1:Kd.C k56 w A0_1 l0_1.length l0_1) (hc0_1:l0_1.length≤c0_1) (h:impl_Heap_find.f k a0_0 l0_1 a1=some r):
  Calls Try.prog 78 #[.agg #[.int .i64 a0_0,.slice A0_1 l0_1.length c0_1],.int .i64 a1] w fun e w'=>e= .returned (.int .i64 r)∧Below w.heap.size w w':=by
 have q:=Try.underlying34
 have d:=zM hr0_1
 have g:=zM hc0_1
 clear hr0_1 hc0_1
 have HB:=zM (Below.refl w.heap.size w)
 have H:((impl_Object_int64__impl_Heap_find_1.f k l0_1 a1).bind fun i=>(if i.2=true then(some i.1)else(some (-1))))=some r:=h
 clear h
 replace H:=Option.bind_eq_some_iff.mp H
 obtain⟨⟨c,j⟩,l,H⟩:=H
 replace H:(if j=true then(some c)else(some (-1)))=some r:=H
 have m:=zM l
 clear l
 by_cases b:j=true
 ·(
 subst b
 rewrite[if_pos rfl]at H
 obtain rfl:=zI H
 go_enter Try.func78,Try.ntmps78
 go_wp2_with (first|((with_reducible refine gate_dst (N:=2) rfl ?_);refine sV (N:=2) (cs:= #[.int .i64 a0_0,.slice A0_1 l0_1.length c0_1]) (t:=34) ?_;intro n hg s hbox hb;have a:=zM (hbox);have o:=sG HB hg;have p:=sG HB hg;replace HB:=sB HB hb;clear hb hbox hg;obtain⟨u,v,x,y⟩:=cells2 a.out)|((with_reducible refine gate_callee (f:=104) rfl ?_);refine sC (some 11) Try.func104 #[.slice A0_1 l0_1.length c0_1,.int .i64 a1,.func (.func 105) #[] #[]] (impl_Object_int64__impl_Heap_find_1.calls k _ _ l0_1 a1 c true _ ?side1 ?side2 m.out) ?_;(case side1=>exact sD (zC d.out HB.out));(case side2=>exact g.out);rintro e z ⟨rfl,hb⟩;refine⟨_,rfl,?_⟩;replace a:=sK a hb;replace HB:=sB HB hb;(try clear hb)))
 go_ret
 exact⟨sq,sb⟩)
 replace b:=zB b
 subst b
 rewrite[if_neg zQ]at H
 obtain rfl:=zI H
 go_enter Try.func78,Try.ntmps78
 go_wp2_with (first|((with_reducible refine gate_dst (N:=2) rfl ?_);refine sV (N:=2) (cs:= #[.int .i64 a0_0,.slice A0_1 l0_1.length c0_1]) (t:=34) ?_;intro n hg A hbox hb;have a:=zM (hbox);have o:=sG HB hg;have p:=sG HB hg;replace HB:=sB HB hb;clear hb hbox hg;obtain⟨B,D,E,F⟩:=cells2 a.out)|((with_reducible refine gate_callee (f:=104) rfl ?_);refine sC (some 11) Try.func104 #[.slice A0_1 l0_1.length c0_1,.int .i64 a1,.func (.func 105) #[] #[]] (impl_Object_int64__impl_Heap_find_1.calls k _ _ l0_1 a1 c false _ ?side1 ?side2 m.out) ?_;(case side1=>exact sD (zC d.out HB.out));(case side2=>exact g.out);rintro e G ⟨rfl,hb⟩;refine⟨_,rfl,?_⟩;replace a:=sK a hb;replace HB:=sB HB hb;(try clear hb)))
 go_ret
 exact⟨sq,sb⟩
end Go.Proofs.Ytengilknjiobiaa.PFnExactPairsOf
