/- Printed functions: impl_Value__impl_ValidValue, impl_Object__impl_ValidHeap_1. -/
import Derived.Test.YtengilknjiobiaaYPoP0
import Derived.Test.YtengilknjiobiaaYPoPE
import Derived.Test.YtengilknjiobiaaYPoP14
import Derived.Test.YtengilknjiobiaaYPoP22
namespace Go.Proofs.Ytengilknjiobiaa.PFnExactPairsOf
open Go.RowKit Go.Proofs.YtengilknjiobiaaG Go.Proofs.YtengilknjiobiaaW.PrintWords Go.Proofs.YtengilknjiobiaaW.PrintLast Go.Proofs.YtengilknjiobiaaW.PrintMore
attribute [local go_sem] max2_int min2_int max_two min_two max_three min_three max_four min_four
set_option linter.unusedVariables false
set_option linter.unusedSimpArgs false
section
attribute [local go_sem high] eqA29
def impl_Value__impl_ValidValue.l0 : Nat → List (S29) → Int → Int → Option (Bool)
 |0,_,_,_=>none
 |k+1,x7,x8,x9=>if x9<x8 then(if 0≤x9 then(if x9<(x7.length:Int)then((impl_ValidValue.f k ((rd_T29 x7 x9).f0) ((rd_T29 x7 x9).f1) ((rd_T29 x7 x9).f2) ((rd_T29 x7 x9).f3)).bind fun t281=>(if t281=true then(impl_Value__impl_ValidValue.l0 k x7 x8 (wrap64 (x9+1)))else(some false)))else(none))else(none))else(some true)
def impl_Value__impl_ValidValue.f (k:Nat) (l0:List (S29)):Option (Bool):=impl_Value__impl_ValidValue.l0 k l0 (l0.length:Int) 0
set_option maxHeartbeats 8000000 in
set_option maxRecDepth 100000 in
theorem impl_Value__impl_ValidValue.calls (k:Nat) (A0:Option Addr) (c0:Nat) (l0:List (S29)) (r:Bool) (w:World) (hr0:Kd.C k29 w A0 l0.length l0) (hc0:l0.length≤c0) (h:impl_Value__impl_ValidValue.f k l0=some r):
  Calls Try.prog 89 #[.slice A0 l0.length c0,.func (.func 90) #[] #[]] w fun e w'=>e= .returned (.bool r)∧Below w.heap.size w w':=by
 have G:=Try.underlying29
 have x:=zM hr0
 have I:=zM hc0
 clear hr0 hc0
 have HB:=zM (Below.refl w.heap.size w)
 have H:(impl_Value__impl_ValidValue.l0 k l0 (l0.length:Int) 0)=some r:=h
 clear h
 have H':=zM H
 clear H
 go_enter Try.func89,Try.ntmps89
 go_wp2
 go_loopg [9] k (fun kq A w'=>∃(a:Int),A= .int .i64 a∧Aside0 (impl_Value__impl_ValidValue.l0 kq l0 (l0.length:Int) a=some r)∧Aside0 (kq≤k)∧Aside0 (Below w.heap.size w w'))
 case atStart=>exact⟨(0),sr,H',⟨Nat.le_refl _⟩,⟨sb⟩⟩
 case round=>(
 clear H'
 obtain⟨a,rfl,HA,y,HB⟩:=hrel
 cases gk with
 |zero=>exact absurd HA.out (by simp[impl_Value__impl_ValidValue.l0])
 |succ k1=>(
 have H:=HA.out
 clear HA
 simp only[impl_Value__impl_ValidValue.l0]at H
 by_cases i:a<(l0.length:Int)
 ·(
 rw[if_pos i]at H
 have c3b0:=zT i
 clear i
 by_cases p:0≤a
 ·(
 rw[if_pos p]at H
 have c4b0:=zT p
 clear p
 by_cases q:a<(l0.length:Int)
 ·(
 rw[if_pos q]at H
 have c5b0:=zT q
 clear q
 obtain⟨B,z,H⟩:=sO H
 by_cases s:B=true
 ·(
 subst s
 rewrite[if_pos rfl]at H
 have H':=zM H
 clear H
 have b:0≤(a:Int):=zzA
 have c:a<(l0.length:Int):=zzA
 obtain⟨D,u,j,l,m,n⟩:=at_T29 x.out a b c
 cases u
 replace j:=sX HB j
 replace l:=sX HB l
 replace m:=sX HB m
 replace n:=sX HB n
 replace b:=eq_true b
 replace c:=eq_true c
 go_wp2_with (first|((with_reducible refine gate_dst (N:=6) rfl ?_);refine sV (N:=6) (cs:= #[.int .i64 0,.int .i64 0,.string (⟨#[]⟩:ByteArray),.int .i64 0]) (t:=29) ?_;intro v hg J hbox hb;have d:=zM (hbox);have E:=sG HB hg;have F:=sG HB hg;replace HB:=sB HB hb;clear hb hbox hg;obtain⟨K,L,M,O,P,Q,R,S⟩:=cells4 d.out)|(go_at_call 90;(with_reducible refine(impl_ValidValue.calls k1 ((rd_T29 l0 a).f0) ((rd_T29 l0 a).f1) ((rd_T29 l0 a).f2) ((rd_T29 l0 a).f3) true _ z.out).mono ?_);rintro e T ⟨rfl,hb⟩;replace d:=zM (blk_below (g:=v) (o:= .cells #[.int .i64 ((rd_T29 l0 a).f0),.int .i64 ((rd_T29 l0 a).f1),.string ((rd_T29 l0 a).f2),.int .i64 ((rd_T29 l0 a).f3)] 29 (0,0)) (by exact sP4 (sT d.out)) hb);replace HB:=sB HB hb;(try clear hb)))
 go_roundg k1
 case measure=>have:=y.out;omega
 case rel=>exact⟨(wrap64 (a+1)),sr,H',⟨by have:=y.out;omega⟩,⟨sb⟩⟩)
 replace s:=zB s
 subst s
 rewrite[if_neg zQ]at H
 obtain rfl:=zI H
 have b:0≤(a:Int):=zzA
 have c:a<(l0.length:Int):=zzA
 obtain⟨D,u,j,l,m,n⟩:=at_T29 x.out a b c
 cases u
 replace j:=sX HB j
 replace l:=sX HB l
 replace m:=sX HB m
 replace n:=sX HB n
 replace b:=eq_true b
 replace c:=eq_true c
 go_wp2_with (first|((with_reducible refine gate_dst (N:=6) rfl ?_);refine sV (N:=6) (cs:= #[.int .i64 0,.int .i64 0,.string (⟨#[]⟩:ByteArray),.int .i64 0]) (t:=29) ?_;intro v hg U hbox hb;have d:=zM (hbox);have E:=sG HB hg;have F:=sG HB hg;replace HB:=sB HB hb;clear hb hbox hg;obtain⟨V,W,X,Y,Z,aa,ab,ac⟩:=cells4 d.out)|(go_at_call 90;(with_reducible refine(impl_ValidValue.calls k1 ((rd_T29 l0 a).f0) ((rd_T29 l0 a).f1) ((rd_T29 l0 a).f2) ((rd_T29 l0 a).f3) false _ z.out).mono ?_);rintro e ad ⟨rfl,hb⟩;replace d:=zM (blk_below (g:=v) (o:= .cells #[.int .i64 ((rd_T29 l0 a).f0),.int .i64 ((rd_T29 l0 a).f1),.string ((rd_T29 l0 a).f2),.int .i64 ((rd_T29 l0 a).f3)] 29 (0,0)) (by exact sP4 (sT d.out)) hb);replace HB:=sB HB hb;(try clear hb)))
 go_ret
 exact⟨sq,sb⟩)
 rw[if_neg q]at H
 exact absurd H (by simp))
 rw[if_neg p]at H
 exact absurd H (by simp))
 rw[if_neg i]at H
 have c3b0:=zF i
 clear i
 obtain rfl:=zI H
 go_wp2
 go_ret
 exact⟨sq,sb⟩))
end
def impl_Object__impl_ValidHeap_1.l0 : Nat → List (S34) → List (S56) → Int → Int → Option (Bool)
 |0,_,_,_,_=>none
 |k+1,x1,x7,x8,x9=>if x9<x8 then(if 0≤x9 then(if x9<(x7.length:Int)then((impl_ValidHeap_1.f k ((rd_T56 x7 x9).f0) ((rd_T56 x7 x9).f1) ((rd_T56 x7 x9).f2) ((rd_T56 x7 x9).f3) ((rd_T56 x7 x9).f4) ((rd_T56 x7 x9).f5) ((rd_T56 x7 x9).f6.f0) ((rd_T56 x7 x9).f6.f1) ((rd_T56 x7 x9).f6.f2) ((rd_T56 x7 x9).f6.f3) x1).bind fun t371=>(if t371=true then(impl_Object__impl_ValidHeap_1.l0 k x1 x7 x8 (wrap64 (x9+1)))else(some false)))else(none))else(none))else(some true)
def impl_Object__impl_ValidHeap_1.f (k:Nat) (l0:List (S56)) (l1:List (S34)):Option (Bool):=impl_Object__impl_ValidHeap_1.l0 k l1 l0 (l0.length:Int) 0
set_option maxHeartbeats 8000000 in
set_option maxRecDepth 100000 in
theorem impl_Object__impl_ValidHeap_1.calls (k:Nat) (A0:Option Addr) (c0:Nat) (l0:List (S56)) (A1:Option Addr) (l1:List (S34)) (r:Bool) (w:World) (hr0:Kd.C k56 w A0 l0.length l0) (hc0:l0.length≤c0) (hr1:Kd.C k34 w A1 l1.length l1) (h:impl_Object__impl_ValidHeap_1.f k l0 l1=some r):
  Calls Try.prog 107 #[.slice A0 l0.length c0,.func (.func 108) #[] #[.pointer A1]] w fun e w'=>e= .returned (.bool r)∧Below w.heap.size w w':=by
 have ab:=Try.underlying56
 have T:=zM hr0
 have ac:=zM hc0
 clear hr0 hc0
 have U:=zM hr1
 have ad:=zM (Nat.le_refl l1.length)
 clear hr1
 have HB:=zM (Below.refl w.heap.size w)
 have H:(impl_Object__impl_ValidHeap_1.l0 k l1 l0 (l0.length:Int) 0)=some r:=h
 clear h
 have H':=zM H
 clear H
 go_enter Try.func107,Try.ntmps107
 go_wp2
 go_loopg [9] k (fun kq X w'=>∃(a:Int),X= .int .i64 a∧Aside0 (impl_Object__impl_ValidHeap_1.l0 kq l1 l0 (l0.length:Int) a=some r)∧Aside0 (kq≤k)∧Aside0 (Below w.heap.size w w'))
 case atStart=>exact⟨(0),sr,H',⟨Nat.le_refl _⟩,⟨sb⟩⟩
 case round=>(
 clear H'
 obtain⟨a,rfl,HA,V,HB⟩:=hrel
 cases gk with
 |zero=>exact absurd HA.out (by simp[impl_Object__impl_ValidHeap_1.l0])
 |succ k1=>(
 have H:=HA.out
 clear HA
 simp only[impl_Object__impl_ValidHeap_1.l0]at H
 by_cases j:a<(l0.length:Int)
 ·(
 rw[if_pos j]at H
 have c3b0:=zT j
 clear j
 by_cases E:0≤a
 ·(
 rw[if_pos E]at H
 have c4b0:=zT E
 clear E
 by_cases F:a<(l0.length:Int)
 ·(
 rw[if_pos F]at H
 have c5b0:=zT F
 clear F
 obtain⟨Y,W,H⟩:=sO H
 by_cases G:Y=true
 ·(
 subst G
 rewrite[if_pos rfl]at H
 have H':=zM H
 clear H
 have b:0≤(a:Int):=zzA
 have c:a<(l0.length:Int):=zzA
 obtain⟨Z,I,J,K,L,M,l,m,n,p,q,s,u,v,x,y,z,A,B,D⟩:=at_T56 T.out a b c
 cases M
 replace l:=sX HB l
 replace m:=sX HB m
 replace n:=sX HB n
 replace p:=sX HB p
 replace q:=sX HB q
 replace s:=sX HB s
 replace u:=sX HB u
 replace v:=sX HB v
 replace x:=sX HB x
 replace y:=sX HB y
 have O:=zM A
 have P:=zM z
 clear A z
 have Q:=zM D
 have R:=zM B
 clear D B
 replace b:=eq_true b
 replace c:=eq_true c
 go_wp2_with (first|((with_reducible refine gate_dst (N:=6) rfl ?_);refine sV (N:=6) (cs:= #[.int .i64 0,.int .i64 0,.string (⟨#[]⟩:ByteArray),.int .i64 0,.slice none 0 0,.slice none 0 0,.int .i64 0,.int .i64 0,.string (⟨#[]⟩:ByteArray),.int .i64 0]) (t:=56) ?_;intro S hg w8 hbox hb;have d:=zM (hbox);have aa:=sG HB hg;have i:=sG HB hg;replace HB:=sB HB hb;clear hb hbox hg;obtain⟨ae,af,ag,ah,ai,aj,ak,al,am,an,ao,ap,aq,ar,au,av,aw,ax,ay,az⟩:=cells10 d.out)|(go_at_call 108;(with_reducible refine(impl_ValidHeap_1.calls k1 ((rd_T56 l0 a).f0) ((rd_T56 l0 a).f1) ((rd_T56 l0 a).f2) ((rd_T56 l0 a).f3) _ _ ((rd_T56 l0 a).f4) _ _ ((rd_T56 l0 a).f5) ((rd_T56 l0 a).f6.f0) ((rd_T56 l0 a).f6.f1) ((rd_T56 l0 a).f6.f2) ((rd_T56 l0 a).f6.f3) _ l1 true _ ?side1 ?side2 ?side3 ?side4 ?side5 W.out).mono ?_);(case side1=>exact zC O.out zzR);(case side2=>exact P.out);(case side3=>exact zC Q.out zzR);(case side4=>exact R.out);(case side5=>exact zC U.out zzR);rintro e aA ⟨rfl,hb⟩;replace d:=zM (blk_below (g:=S) (o:= .cells #[.int .i64 ((rd_T56 l0 a).f0),.int .i64 ((rd_T56 l0 a).f1),.string ((rd_T56 l0 a).f2),.int .i64 ((rd_T56 l0 a).f3),.slice I ((rd_T56 l0 a).f4).length J,.slice K ((rd_T56 l0 a).f5).length L,.int .i64 ((rd_T56 l0 a).f6.f0),.int .i64 ((rd_T56 l0 a).f6.f1),.string ((rd_T56 l0 a).f6.f2),.int .i64 ((rd_T56 l0 a).f6.f3)] 56 (0,0)) (by exact sP10 (sT d.out)) hb);replace HB:=sB HB hb;(try clear hb)))
 go_roundg k1
 case measure=>have:=V.out;omega
 case rel=>exact⟨(wrap64 (a+1)),sr,H',⟨by have:=V.out;omega⟩,⟨sb⟩⟩)
 replace G:=zB G
 subst G
 rewrite[if_neg zQ]at H
 obtain rfl:=zI H
 have b:0≤(a:Int):=zzA
 have c:a<(l0.length:Int):=zzA
 obtain⟨Z,I,J,K,L,M,l,m,n,p,q,s,u,v,x,y,z,A,B,D⟩:=at_T56 T.out a b c
 cases M
 replace l:=sX HB l
 replace m:=sX HB m
 replace n:=sX HB n
 replace p:=sX HB p
 replace q:=sX HB q
 replace s:=sX HB s
 replace u:=sX HB u
 replace v:=sX HB v
 replace x:=sX HB x
 replace y:=sX HB y
 have O:=zM A
 have P:=zM z
 clear A z
 have Q:=zM D
 have R:=zM B
 clear D B
 replace b:=eq_true b
 replace c:=eq_true c
 go_wp2_with (first|((with_reducible refine gate_dst (N:=6) rfl ?_);refine sV (N:=6) (cs:= #[.int .i64 0,.int .i64 0,.string (⟨#[]⟩:ByteArray),.int .i64 0,.slice none 0 0,.slice none 0 0,.int .i64 0,.int .i64 0,.string (⟨#[]⟩:ByteArray),.int .i64 0]) (t:=56) ?_;intro S hg aB hbox hb;have d:=zM (hbox);have aa:=sG HB hg;have i:=sG HB hg;replace HB:=sB HB hb;clear hb hbox hg;obtain⟨aC,aD,aE,aF,aG,aH,aI,aJ,aK,aL,aM,aN,aO,aP,aQ,aR,aS,aT,aU,aV⟩:=cells10 d.out)|(go_at_call 108;(with_reducible refine(impl_ValidHeap_1.calls k1 ((rd_T56 l0 a).f0) ((rd_T56 l0 a).f1) ((rd_T56 l0 a).f2) ((rd_T56 l0 a).f3) _ _ ((rd_T56 l0 a).f4) _ _ ((rd_T56 l0 a).f5) ((rd_T56 l0 a).f6.f0) ((rd_T56 l0 a).f6.f1) ((rd_T56 l0 a).f6.f2) ((rd_T56 l0 a).f6.f3) _ l1 false _ ?side1 ?side2 ?side3 ?side4 ?side5 W.out).mono ?_);(case side1=>exact zC O.out zzR);(case side2=>exact P.out);(case side3=>exact zC Q.out zzR);(case side4=>exact R.out);(case side5=>exact zC U.out zzR);rintro e aW ⟨rfl,hb⟩;replace d:=zM (blk_below (g:=S) (o:= .cells #[.int .i64 ((rd_T56 l0 a).f0),.int .i64 ((rd_T56 l0 a).f1),.string ((rd_T56 l0 a).f2),.int .i64 ((rd_T56 l0 a).f3),.slice I ((rd_T56 l0 a).f4).length J,.slice K ((rd_T56 l0 a).f5).length L,.int .i64 ((rd_T56 l0 a).f6.f0),.int .i64 ((rd_T56 l0 a).f6.f1),.string ((rd_T56 l0 a).f6.f2),.int .i64 ((rd_T56 l0 a).f6.f3)] 56 (0,0)) (by exact sP10 (sT d.out)) hb);replace HB:=sB HB hb;(try clear hb)))
 go_ret
 exact⟨sq,sb⟩)
 rw[if_neg F]at H
 exact absurd H (by simp))
 rw[if_neg E]at H
 exact absurd H (by simp))
 rw[if_neg j]at H
 have c3b0:=zF j
 clear j
 obtain rfl:=zI H
 go_wp2
 go_ret
 exact⟨sq,sb⟩))
end Go.Proofs.Ytengilknjiobiaa.PFnExactPairsOf
