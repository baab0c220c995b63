/- Printed functions: impl_Object__impl_ValidObject, impl_ValidHeap, impl_FitsHeap. -/
import Derived.Test.YtengilknjiobiaaYPoP0
import Derived.Test.YtengilknjiobiaaYPoPE
import Derived.Test.YtengilknjiobiaaYPoP14
import Derived.Test.YtengilknjiobiaaYPoP15
import Derived.Test.YtengilknjiobiaaYPoP18
import Derived.Test.YtengilknjiobiaaYPoP22
namespace Go.Proofs.Ytengilknjiobiaa.PFnExactPairsOf
open Go.RowKit Go.Proofs.YtengilknjiobiaaG Go.Proofs.YtengilknjiobiaaW.PrintWords Go.Proofs.YtengilknjiobiaaW.PrintLast Go.Proofs.YtengilknjiobiaaW.PrintMore
attribute [local go_sem] max2_int min2_int max_two min_two max_three min_three max_four min_four
set_option linter.unusedVariables false
set_option linter.unusedSimpArgs false
section
attribute [local go_sem high] eqA29
def impl_Object__impl_ValidObject.l0 : Nat → List (S56) → Int → Int → Option (Bool)
 |0,_,_,_=>none
 |k+1,x7,x8,x9=>if x9<x8 then(if 0≤x9 then(if x9<(x7.length:Int)then((impl_ValidObject.f k ((rd_T56 x7 x9).f0) ((rd_T56 x7 x9).f1) ((rd_T56 x7 x9).f2) ((rd_T56 x7 x9).f3) ((rd_T56 x7 x9).f4) ((rd_T56 x7 x9).f5) ((rd_T56 x7 x9).f6.f0) ((rd_T56 x7 x9).f6.f1) ((rd_T56 x7 x9).f6.f2) ((rd_T56 x7 x9).f6.f3)).bind fun t315=>(if t315=true then(impl_Object__impl_ValidObject.l0 k x7 x8 (wrap64 (x9+1)))else(some false)))else(none))else(none))else(some true)
def impl_Object__impl_ValidObject.f (k:Nat) (l0:List (S56)):Option (Bool):=impl_Object__impl_ValidObject.l0 k l0 (l0.length:Int) 0
set_option maxHeartbeats 8000000 in
set_option maxRecDepth 100000 in
theorem impl_Object__impl_ValidObject.calls (k:Nat) (A0:Option Addr) (c0:Nat) (l0:List (S56)) (r:Bool) (w:World) (hr0:Kd.C k56 w A0 l0.length l0) (hc0:l0.length≤c0) (h:impl_Object__impl_ValidObject.f k l0=some r):
  Calls Try.prog 107 #[.slice A0 l0.length c0,.func (.func 64) #[] #[]] w fun e w'=>e= .returned (.bool r)∧Below w.heap.size w w':=by
 have aa:=Try.underlying56
 have T:=zM hr0
 have ab:=zM hc0
 clear hr0 hc0
 have HB:=zM (Below.refl w.heap.size w)
 have H:(impl_Object__impl_ValidObject.l0 k l0 (l0.length:Int) 0)=some r:=h
 clear h
 have H':=zM H
 clear H
 go_enter Try.func107,Try.ntmps107
 go_wp2
 go_loopg [9] k (fun kq W w'=>∃(a:Int),W= .int .i64 a∧Aside0 (impl_Object__impl_ValidObject.l0 kq l0 (l0.length:Int) a=some r)∧Aside0 (kq≤k)∧Aside0 (Below w.heap.size w w'))
 case atStart=>exact⟨(0),sr,H',⟨Nat.le_refl _⟩,⟨sb⟩⟩
 case round=>(
 clear H'
 obtain⟨a,rfl,HA,U,HB⟩:=hrel
 cases gk with
 |zero=>exact absurd HA.out (by simp[impl_Object__impl_ValidObject.l0])
 |succ k1=>(
 have H:=HA.out
 clear HA
 simp only[impl_Object__impl_ValidObject.l0]at H
 by_cases i:a<(l0.length:Int)
 ·(
 rw[if_pos i]at H
 have c3b0:=zT i
 clear i
 by_cases E:0≤a
 ·(
 rw[if_pos E]at H
 have c4b0:=zT E
 clear E
 by_cases F:a<(l0.length:Int)
 ·(
 rw[if_pos F]at H
 have c5b0:=zT F
 clear F
 obtain⟨X,V,H⟩:=sO H
 by_cases G:X=true
 ·(
 subst G
 rewrite[if_pos rfl]at H
 have H':=zM H
 clear H
 have b:0≤(a:Int):=zzA
 have c:a<(l0.length:Int):=zzA
 obtain⟨Y,I,J,K,L,M,j,l,m,n,p,q,s,u,v,x,y,z,A,B⟩:=at_T56 T.out a b c
 cases M
 replace j:=sX HB j
 replace l:=sX HB l
 replace m:=sX HB m
 replace n:=sX HB n
 replace p:=sX HB p
 replace q:=sX HB q
 replace s:=sX HB s
 replace u:=sX HB u
 replace v:=sX HB v
 replace x:=sX HB x
 have O:=zM z
 have P:=zM y
 clear z y
 have Q:=zM B
 have R:=zM A
 clear B A
 replace b:=eq_true b
 replace c:=eq_true c
 go_wp2_with (first|((with_reducible refine gate_dst (N:=6) rfl ?_);refine sV (N:=6) (cs:= #[.int .i64 0,.int .i64 0,.string (⟨#[]⟩:ByteArray),.int .i64 0,.slice none 0 0,.slice none 0 0,.int .i64 0,.int .i64 0,.string (⟨#[]⟩:ByteArray),.int .i64 0]) (t:=56) ?_;intro S hg w8 hbox hb;have d:=zM (hbox);have Z:=sG HB hg;have D:=sG HB hg;replace HB:=sB HB hb;clear hb hbox hg;obtain⟨ac,ad,ae,af,ag,ah,ai,aj,ak,al,am,an,ao,ap,aq,ar,au,av,aw,ax⟩:=cells10 d.out)|(go_at_call 64;(with_reducible refine(impl_ValidObject.calls k1 ((rd_T56 l0 a).f0) ((rd_T56 l0 a).f1) ((rd_T56 l0 a).f2) ((rd_T56 l0 a).f3) _ _ ((rd_T56 l0 a).f4) _ _ ((rd_T56 l0 a).f5) ((rd_T56 l0 a).f6.f0) ((rd_T56 l0 a).f6.f1) ((rd_T56 l0 a).f6.f2) ((rd_T56 l0 a).f6.f3) true _ ?side1 ?side2 ?side3 ?side4 V.out).mono ?_);(case side1=>exact zC O.out zzR);(case side2=>exact P.out);(case side3=>exact zC Q.out zzR);(case side4=>exact R.out);rintro e ay ⟨rfl,hb⟩;replace d:=zM (blk_below (g:=S) (o:= .cells #[.int .i64 ((rd_T56 l0 a).f0),.int .i64 ((rd_T56 l0 a).f1),.string ((rd_T56 l0 a).f2),.int .i64 ((rd_T56 l0 a).f3),.slice I ((rd_T56 l0 a).f4).length J,.slice K ((rd_T56 l0 a).f5).length L,.int .i64 ((rd_T56 l0 a).f6.f0),.int .i64 ((rd_T56 l0 a).f6.f1),.string ((rd_T56 l0 a).f6.f2),.int .i64 ((rd_T56 l0 a).f6.f3)] 56 (0,0)) (by exact sP10 (sT d.out)) hb);replace HB:=sB HB hb;(try clear hb)))
 go_roundg k1
 case measure=>have:=U.out;omega
 case rel=>exact⟨(wrap64 (a+1)),sr,H',⟨by have:=U.out;omega⟩,⟨sb⟩⟩)
 replace G:=zB G
 subst G
 rewrite[if_neg zQ]at H
 obtain rfl:=zI H
 have b:0≤(a:Int):=zzA
 have c:a<(l0.length:Int):=zzA
 obtain⟨Y,I,J,K,L,M,j,l,m,n,p,q,s,u,v,x,y,z,A,B⟩:=at_T56 T.out a b c
 cases M
 replace j:=sX HB j
 replace l:=sX HB l
 replace m:=sX HB m
 replace n:=sX HB n
 replace p:=sX HB p
 replace q:=sX HB q
 replace s:=sX HB s
 replace u:=sX HB u
 replace v:=sX HB v
 replace x:=sX HB x
 have O:=zM z
 have P:=zM y
 clear z y
 have Q:=zM B
 have R:=zM A
 clear B A
 replace b:=eq_true b
 replace c:=eq_true c
 go_wp2_with (first|((with_reducible refine gate_dst (N:=6) rfl ?_);refine sV (N:=6) (cs:= #[.int .i64 0,.int .i64 0,.string (⟨#[]⟩:ByteArray),.int .i64 0,.slice none 0 0,.slice none 0 0,.int .i64 0,.int .i64 0,.string (⟨#[]⟩:ByteArray),.int .i64 0]) (t:=56) ?_;intro S hg az hbox hb;have d:=zM (hbox);have Z:=sG HB hg;have D:=sG HB hg;replace HB:=sB HB hb;clear hb hbox hg;obtain⟨aA,aB,aC,aD,aE,aF,aG,aH,aI,aJ,aK,aL,aM,aN,aO,aP,aQ,aR,aS,aT⟩:=cells10 d.out)|(go_at_call 64;(with_reducible refine(impl_ValidObject.calls k1 ((rd_T56 l0 a).f0) ((rd_T56 l0 a).f1) ((rd_T56 l0 a).f2) ((rd_T56 l0 a).f3) _ _ ((rd_T56 l0 a).f4) _ _ ((rd_T56 l0 a).f5) ((rd_T56 l0 a).f6.f0) ((rd_T56 l0 a).f6.f1) ((rd_T56 l0 a).f6.f2) ((rd_T56 l0 a).f6.f3) false _ ?side1 ?side2 ?side3 ?side4 V.out).mono ?_);(case side1=>exact zC O.out zzR);(case side2=>exact P.out);(case side3=>exact zC Q.out zzR);(case side4=>exact R.out);rintro e aU ⟨rfl,hb⟩;replace d:=zM (blk_below (g:=S) (o:= .cells #[.int .i64 ((rd_T56 l0 a).f0),.int .i64 ((rd_T56 l0 a).f1),.string ((rd_T56 l0 a).f2),.int .i64 ((rd_T56 l0 a).f3),.slice I ((rd_T56 l0 a).f4).length J,.slice K ((rd_T56 l0 a).f5).length L,.int .i64 ((rd_T56 l0 a).f6.f0),.int .i64 ((rd_T56 l0 a).f6.f1),.string ((rd_T56 l0 a).f6.f2),.int .i64 ((rd_T56 l0 a).f6.f3)] 56 (0,0)) (by exact sP10 (sT d.out)) hb);replace HB:=sB HB hb;(try clear hb)))
 go_ret
 exact⟨sq,sb⟩)
 rw[if_neg F]at H
 exact absurd H (by simp))
 rw[if_neg E]at H
 exact absurd H (by simp))
 rw[if_neg i]at H
 have c3b0:=zF i
 clear i
 obtain rfl:=zI H
 go_wp2
 go_ret
 exact⟨sq,sb⟩))
end
mutual
def impl_ValidHeap.j0 : Nat → Bool → Int → List (S56) → Option (Bool)
 |0,_,_,_=>none
 |k+1,x21,x373000,x373001=>if x21=true then(some false)else(impl_ValidHeap.l0 k 0 x373001 (x373001.length:Int) 0 x373000 x373001)
def impl_ValidHeap.l0 : Nat → Int → List (S56) → Int → Int → Int → List (S56) → Option (Bool)
 |0,_,_,_,_,_,_=>none
 |k+1,x3,x23,x24,x25,x373000,x373001=>if x25<x24 then(if 0≤x25 then(if x25<(x23.length:Int)then(if((rd_T56 x23 x25).f0)≤x3 then(some false)else(if((rd_T56 x23 x25).f0)>x373000 then(some false)else(impl_ValidHeap.l0 k ((rd_T56 x23 x25).f0) x23 x24 (wrap64 (x25+1)) x373000 x373001)))else(none))else(none))else((impl_Object__impl_ValidHeap_1.f k x373001 [(⟨x373000,x373001⟩:S34)]).bind fun t377=>(some t377))
end
def impl_ValidHeap.f (k:Nat) (a0_0:Int) (l0_1:List (S56)):Option (Bool):=(impl_within.f a0_0 0 1000000).bind fun t373=>(if t373=true then(if(l0_1.length:Int)>40 then(impl_ValidHeap.j0 k true a0_0 l0_1)else((impl_Object__impl_ValidObject.f k l0_1).bind fun t374=>(impl_ValidHeap.j0 k (!t374) a0_0 l0_1)))else(impl_ValidHeap.j0 k true a0_0 l0_1))
set_option maxHeartbeats 8000000 in
set_option maxRecDepth 100000 in
theorem impl_ValidHeap.calls (k:Nat) (a0_0:Int) (A0_1:Option Addr) (c0_1:Nat) (l0_1:List (S56)) (r:Bool) (w:World) (hr0_1:Kd.C k56 w A0_1 l0_1.length l0_1) (hc0_1:l0_1.length≤c0_1) (h:impl_ValidHeap.f k a0_0 l0_1=some r):
  Calls Try.prog 80 #[.agg #[.int .i64 a0_0,.slice A0_1 l0_1.length c0_1]] w fun e w'=>e= .returned (.bool r)∧Below w.heap.size w w':=by
 have ay:=Try.underlying34
 have az:=Try.underlying56
 have D:=zM hr0_1
 have U:=zM hc0_1
 clear hr0_1 hc0_1
 have HB:=zM (Below.refl w.heap.size w)
 have H:((impl_within.f a0_0 0 1000000).bind fun V=>(if V=true then(if(l0_1.length:Int)>40 then(impl_ValidHeap.j0 k true a0_0 l0_1)else((impl_Object__impl_ValidObject.f k l0_1).bind fun O=>(impl_ValidHeap.j0 k (!O) a0_0 l0_1)))else(impl_ValidHeap.j0 k true a0_0 l0_1)))=some r:=h
 clear h
 have W:=zM H
 clear H
 go_enter Try.func80,Try.ntmps80
 go_upto_region 1 with(first|((with_reducible refine gate_dst (N:=1) rfl ?_);(try(refine gate_guard (by rfl) ?_;dsimp only));refine sV (N:=1) (cs:= #[.int .i64 a0_0,.slice A0_1 l0_1.length c0_1]) (t:=34) ?_;intro X hg w3 hbox hb;have a:=zM (hbox);have aA:=sG HB hg;have an:=sG HB hg;replace HB:=sB HB hb;clear hb hbox hg))
 (try simp only[zP])
 go_cut [21] (fun ao wc=>∃(kq:Nat) (P:Bool),ao= .bool P∧Aside0 (impl_ValidHeap.j0 kq P a0_0 l0_1=some r)∧Aside0 (kq≤k)∧Aside0 (wc.heap[X]?=some (.cells #[.int .i64 a0_0,(.slice A0_1 l0_1.length c0_1)] 34 (0,0)))∧Aside0 (Below w.heap.size w wc))
 case first=>(
 have H:=W.out
 clear W
 obtain⟨V,Y,H⟩:=sO H
 by_cases Q:V=true
 ·(
 subst Q
 rewrite[if_pos rfl]at H
 by_cases E:(l0_1.length:Int)>40
 ·(
 rw[if_pos E]at H
 have c6b0:decide (40<(l0_1.length:Int))=true:=zT E
 have c6b1:decide (40<l0_1.length)=true:=zT (by omega)
 clear E
 (first|rw[c6b0]|(simp only[i64_w,i32_w];rw[c6b0])|rw[c6b2]|skip)
 have H':=zM H
 clear H
 obtain⟨aB,aC,aD,aE⟩:=cells2 a.out
 go_wp2_with (first|((with_reducible refine gate_callee (f:=82) rfl ?_);refine sC (some 8) Try.func82 #[.int .i64 a0_0,.int .i64 0,.int .i64 1000000] (impl_within.calls a0_0 0 1000000 true _ Y.out) ?_;rintro e w' ⟨rfl,⟨nd,rfl⟩⟩;refine⟨_,rfl,?_⟩))
 go_meet
 case rel=>exact⟨_,(true),sr,H',⟨by first|omega|exact Nat.le_refl _⟩,⟨by exact sT a.out⟩,⟨sb⟩⟩)
 rw[if_neg E]at H
 have c6b0:decide (40<(l0_1.length:Int))=false:=zF E
 have c6b1:decide (40<l0_1.length)=false:=zF (by omega)
 clear E
 (first|rw[c6b0]|(simp only[i64_w,i32_w];rw[c6b0])|rw[c6b2]|skip)
 obtain⟨O,A8,H⟩:=sO H
 have H':=zM H
 clear H
 obtain⟨aF,aG,aH,aI⟩:=cells2 a.out
 go_wp2_with (first|((with_reducible refine gate_callee (f:=82) rfl ?_);refine sC (some 8) Try.func82 #[.int .i64 a0_0,.int .i64 0,.int .i64 1000000] (impl_within.calls a0_0 0 1000000 true _ Y.out) ?_;rintro e w' ⟨rfl,⟨nd,rfl⟩⟩;refine⟨_,rfl,?_⟩)|(go_at_call 107;(with_reducible refine(impl_Object__impl_ValidObject.calls k _ _ l0_1 O _ ?side1 ?side2 A8.out).mono ?_);(case side1=>exact sD (zC D.out zzR));(case side2=>exact U.out);rintro e aJ ⟨rfl,hb⟩;replace a:=sK a hb;replace HB:=sB HB hb;(try clear hb)))
 go_meet
 case rel=>exact⟨_,(!O),sr,H',⟨by first|omega|exact Nat.le_refl _⟩,⟨by exact sT a.out⟩,⟨sb⟩⟩)
 replace Q:=zB Q
 subst Q
 rewrite[if_neg zQ]at H
 have H':=zM H
 clear H
 obtain⟨aK,aL,aM,aN⟩:=cells2 a.out
 go_wp2_with (first|((with_reducible refine gate_callee (f:=82) rfl ?_);refine sC (some 8) Try.func82 #[.int .i64 a0_0,.int .i64 0,.int .i64 1000000] (impl_within.calls a0_0 0 1000000 false _ Y.out) ?_;rintro e w' ⟨rfl,⟨nd,rfl⟩⟩;refine⟨_,rfl,?_⟩))
 go_meet
 case rel=>exact⟨_,(true),sr,H',⟨by first|omega|exact Nat.le_refl _⟩,⟨by exact sT a.out⟩,⟨sb⟩⟩)
 case rest=>(
 clear W
 obtain⟨kq,P,rfl,HA,Z,a,HB⟩:=hcut
 cases kq with
 |zero=>exact absurd HA.out (by simp[impl_ValidHeap.j0])
 |succ kj1=>(
 have H:=HA.out
 clear HA
 simp only[impl_ValidHeap.j0]at H
 by_cases J:P=true
 ·(
 subst J
 rewrite[if_pos rfl]at H
 obtain rfl:=zI H
 go_wp2
 go_ret
 exact⟨sq,sb⟩)
 replace J:=zB J
 subst J
 rewrite[if_neg zQ]at H
 have H':=zM H
 clear H
 obtain⟨ap,aq,ar,au⟩:=cells2 a.out
 go_wp2
 go_loopg [3,25] kj1 (fun kq v3 av w'=>∃(R:Int) (b:Int),v3= .int .i64 R∧av= .int .i64 b∧Aside0 (impl_ValidHeap.l0 kq R l0_1 (l0_1.length:Int) b a0_0 l0_1=some r)∧Aside0 (kq≤kj1)∧Aside0 (w'.heap[X]?=some (.cells #[.int .i64 a0_0,(.slice A0_1 l0_1.length c0_1)] 34 (0,0)))∧Aside0 (Below w.heap.size w w'))
 case atStart=>exact⟨(0),(0),sr,sr,H',⟨Nat.le_refl _⟩,⟨by exact sT a.out⟩,⟨sb⟩⟩
 case round=>(
 clear H'
 try clear J
 try clear ap
 try clear aq
 try clear ar
 try clear au
 obtain⟨R,b,rfl,rfl,HA,aa,a,HB⟩:=hrel
 cases gk with
 |zero=>exact absurd HA.out (by simp[impl_ValidHeap.l0])
 |succ k2=>(
 have H:=HA.out
 clear HA
 simp only[impl_ValidHeap.l0]at H
 by_cases F:b<(l0_1.length:Int)
 ·(
 rw[if_pos F]at H
 have c14b0:=zT F
 clear F
 by_cases S:0≤b
 ·(
 rw[if_pos S]at H
 have c15b0:=zT S
 clear S
 by_cases T:b<(l0_1.length:Int)
 ·(
 rw[if_pos T]at H
 have c16b0:=zT T
 clear T
 by_cases G:((rd_T56 l0_1 b).f0)≤R
 ·(
 rw[if_pos G]at H
 have c17b0:=zT G
 clear G
 obtain rfl:=zI H
 have d:0≤(b:Int):=zzA
 have i:b<(l0_1.length:Int):=zzA
 obtain⟨ab,ac,ad,ae,af,K,j,l,m,n,p,q,s,u,v,x,y,z,A,B⟩:=at_T56 D.out b d i
 cases K
 replace j:=sX HB j
 replace l:=sX HB l
 replace m:=sX HB m
 replace n:=sX HB n
 replace p:=sX HB p
 replace q:=sX HB q
 replace s:=sX HB s
 replace u:=sX HB u
 replace v:=sX HB v
 replace x:=sX HB x
 have ag:=zM z
 have ah:=zM y
 clear z y
 have ai:=zM B
 have aj:=zM A
 clear B A
 replace d:=eq_true d
 replace i:=eq_true i
 go_wp2_with (first|((with_reducible refine gate_dst (N:=5) rfl ?_);(try(refine gate_guard (by rfl) ?_;dsimp only));refine sV (N:=5) (cs:= #[.int .i64 0,.int .i64 0,.string (⟨#[]⟩:ByteArray),.int .i64 0,.slice none 0 0,.slice none 0 0,.int .i64 0,.int .i64 0,.string (⟨#[]⟩:ByteArray),.int .i64 0]) (t:=56) ?_;intro ak hg aO hbox hb;have L:=zM (hbox);have al:=sG HB hg;have am:=sG HB hg;replace HB:=sB HB hb;have c:=sN a hg;have M:=sM a hg;replace a:=sK a hb;clear hb hbox hg;have aP:=M.out;have aQ:=c.out;obtain⟨aR,aS,aT,aU,aV,aW,aX,aY,aZ,a0,a1,a2,a3,a4,a5,a6,a7,a8,a9,ba⟩:=cells10 L.out))
 go_ret
 exact⟨sq,sb⟩)
 rw[if_neg G]at H
 have c17b0:=zF G
 clear G
 by_cases I:((rd_T56 l0_1 b).f0)>a0_0
 ·(
 rw[if_pos I]at H
 have c21b0:decide (a0_0<((rd_T56 l0_1 b).f0))=true:=zT I
 clear I
 obtain rfl:=zI H
 have d:0≤(b:Int):=zzA
 have i:b<(l0_1.length:Int):=zzA
 obtain⟨ab,ac,ad,ae,af,K,j,l,m,n,p,q,s,u,v,x,y,z,A,B⟩:=at_T56 D.out b d i
 cases K
 replace j:=sX HB j
 replace l:=sX HB l
 replace m:=sX HB m
 replace n:=sX HB n
 replace p:=sX HB p
 replace q:=sX HB q
 replace s:=sX HB s
 replace u:=sX HB u
 replace v:=sX HB v
 replace x:=sX HB x
 have ag:=zM z
 have ah:=zM y
 clear z y
 have ai:=zM B
 have aj:=zM A
 clear B A
 replace d:=eq_true d
 replace i:=eq_true i
 go_wp2_with (first|((with_reducible refine gate_dst (N:=5) rfl ?_);(try(refine gate_guard (by rfl) ?_;dsimp only));refine sV (N:=5) (cs:= #[.int .i64 0,.int .i64 0,.string (⟨#[]⟩:ByteArray),.int .i64 0,.slice none 0 0,.slice none 0 0,.int .i64 0,.int .i64 0,.string (⟨#[]⟩:ByteArray),.int .i64 0]) (t:=56) ?_;intro ak hg bb hbox hb;have L:=zM (hbox);have al:=sG HB hg;have am:=sG HB hg;replace HB:=sB HB hb;have c:=sN a hg;have M:=sM a hg;replace a:=sK a hb;clear hb hbox hg;have bc:=M.out;have bd:=c.out;obtain⟨be,bf,bg,bh,bi,bj,bk,bl,bm,bn,bo,bp,bq,br,bs,bt,bu,bv,bw,bx⟩:=cells10 L.out;obtain⟨bz,bA,bB,bC⟩:=cells2 a.out))
 go_ret
 exact⟨sq,sb⟩)
 rw[if_neg I]at H
 have c21b0:decide (a0_0<((rd_T56 l0_1 b).f0))=false:=zF I
 clear I
 have H':=zM H
 clear H
 have d:0≤(b:Int):=zzA
 have i:b<(l0_1.length:Int):=zzA
 obtain⟨ab,ac,ad,ae,af,K,j,l,m,n,p,q,s,u,v,x,y,z,A,B⟩:=at_T56 D.out b d i
 cases K
 replace j:=sX HB j
 replace l:=sX HB l
 replace m:=sX HB m
 replace n:=sX HB n
 replace p:=sX HB p
 replace q:=sX HB q
 replace s:=sX HB s
 replace u:=sX HB u
 replace v:=sX HB v
 replace x:=sX HB x
 have ag:=zM z
 have ah:=zM y
 clear z y
 have ai:=zM B
 have aj:=zM A
 clear B A
 replace d:=eq_true d
 replace i:=eq_true i
 go_wp2_with (first|((with_reducible refine gate_dst (N:=5) rfl ?_);(try(refine gate_guard (by rfl) ?_;dsimp only));refine sV (N:=5) (cs:= #[.int .i64 0,.int .i64 0,.string (⟨#[]⟩:ByteArray),.int .i64 0,.slice none 0 0,.slice none 0 0,.int .i64 0,.int .i64 0,.string (⟨#[]⟩:ByteArray),.int .i64 0]) (t:=56) ?_;intro ak hg bD hbox hb;have L:=zM (hbox);have al:=sG HB hg;have am:=sG HB hg;replace HB:=sB HB hb;have c:=sN a hg;have M:=sM a hg;replace a:=sK a hb;clear hb hbox hg;have bE:=M.out;have bF:=c.out;obtain⟨bG,bH,bI,bJ,bK,bL,bM,bN,bO,bP,bQ,bR,bS,bT,bU,bV,bW,bX,bY,bZ⟩:=cells10 L.out;obtain⟨b0,b1,b2,b3⟩:=cells2 a.out))
 go_roundg k2
 case measure=>have:=Z.out;have:=aa.out;omega
 case rel=>exact⟨((rd_T56 l0_1 b).f0),(wrap64 (b+1)),sr,sr,H',⟨by have:=Z.out;have:=aa.out;omega⟩,⟨by(with_reducible repeat(first|refine blk_drewN ?_ _|refine blk_drew ?_|refine blk_alloc ?_ _));refine blk_far ?_ c.out _;(with_reducible repeat(first|refine blk_drewN ?_ _|refine blk_drew ?_|refine blk_alloc ?_ _));refine blk_far ?_ c.out _;(with_reducible repeat(first|refine blk_drewN ?_ _|refine blk_drew ?_|refine blk_alloc ?_ _));refine blk_far ?_ c.out _;(with_reducible repeat(first|refine blk_drewN ?_ _|refine blk_drew ?_|refine blk_alloc ?_ _));refine blk_far ?_ c.out _;(with_reducible repeat(first|refine blk_drewN ?_ _|refine blk_drew ?_|refine blk_alloc ?_ _));refine blk_far ?_ c.out _;(with_reducible repeat(first|refine blk_drewN ?_ _|refine blk_drew ?_|refine blk_alloc ?_ _));refine blk_far ?_ c.out _;(with_reducible repeat(first|refine blk_drewN ?_ _|refine blk_drew ?_|refine blk_alloc ?_ _));refine blk_far ?_ c.out _;(with_reducible repeat(first|refine blk_drewN ?_ _|refine blk_drew ?_|refine blk_alloc ?_ _));refine blk_far ?_ c.out _;(with_reducible repeat(first|refine blk_drewN ?_ _|refine blk_drew ?_|refine blk_alloc ?_ _));refine blk_far ?_ c.out _;(with_reducible repeat(first|refine blk_drewN ?_ _|refine blk_drew ?_|refine blk_alloc ?_ _));refine blk_far ?_ c.out _;exact sT a.out⟩,⟨sb⟩⟩)
 rw[if_neg T]at H
 exact absurd H (by simp))
 rw[if_neg S]at H
 exact absurd H (by simp))
 rw[if_neg F]at H
 have c14b0:=zF F
 clear F
 obtain⟨aw,ax,H⟩:=sO H
 obtain rfl:=zI H
 obtain⟨b4,b5,b6,b7⟩:=cells2 a.out
 go_wp2_with (first|((with_reducible refine gate_callee (f:=107) rfl ?_);refine sC (some 46) Try.func107 #[.slice A0_1 l0_1.length c0_1,.func (.func 108) #[] #[.pointer (some ⟨X,0,none⟩)]] (impl_Object__impl_ValidHeap_1.calls k2 _ _ l0_1 _ [(⟨a0_0,l0_1⟩:S34)] aw _ ?side1 ?side2 ?side3 ax.out) ?_;(case side1=>exact sD (zC D.out HB.out));(case side2=>exact U.out);(case side3=>exact C_box (t:=34) (sT a.out) (k34_mk _ (⟨a0_0,l0_1⟩:S34) (by exact U.out) (by exact sD (zC D.out HB.out))));rintro e b8 ⟨rfl,hb⟩;refine⟨_,rfl,?_⟩;replace a:=sK a hb;replace HB:=sB HB hb;(try clear hb)))
 go_ret
 exact⟨sq,sb⟩))))
def impl_FitsHeap.f (k:Nat) (a0_0:Int) (l0_1:List (S56)) (a1_0:Int) (a1_1:Int) (a1_2:ByteArray) (a1_3:Int):Option (Bool):=(impl_ValidHeap.f k a0_0 l0_1).bind fun t380=>(if t380=true then((impl_Heap_fits.f k a0_0 l0_1 a1_0 a1_1 a1_2 a1_3).bind fun t381=>(some t381))else(some false))
set_option maxHeartbeats 8000000 in
set_option maxRecDepth 100000 in
theorem impl_FitsHeap.calls (k:Nat) (a0_0:Int) (A0_1:Option Addr) (c0_1:Nat) (l0_1:List (S56)) (a1_0:Int) (a1_1:Int) (a1_2:ByteArray) (a1_3:Int) (r:Bool) (w:World) (hr0_1:Kd.C k56 w A0_1 l0_1.length l0_1) (hc0_1:l0_1.length≤c0_1) (h:impl_FitsHeap.f k a0_0 l0_1 a1_0 a1_1 a1_2 a1_3=some r):
  Calls Try.prog 56 #[.agg #[.int .i64 a0_0,.slice A0_1 l0_1.length c0_1],.agg #[.int .i64 a1_0,.int .i64 a1_1,.string a1_2,.int .i64 a1_3]] w fun e w'=>e= .returned (.bool r)∧Below w.heap.size w w':=by
 have A:=Try.underlying34
 have B:=Try.underlying29
 have d:=zM hr0_1
 have i:=zM hc0_1
 clear hr0_1 hc0_1
 have HB:=zM (Below.refl w.heap.size w)
 have H:((impl_ValidHeap.f k a0_0 l0_1).bind fun j=>(if j=true then((impl_Heap_fits.f k a0_0 l0_1 a1_0 a1_1 a1_2 a1_3).bind fun l=>(some l))else(some false)))=some r:=h
 clear h
 obtain⟨j,p,H⟩:=sO H
 by_cases c:j=true
 ·(
 subst c
 rewrite[if_pos rfl]at H
 obtain⟨l,q,H⟩:=sO H
 obtain rfl:=zI H
 go_enter Try.func56,Try.ntmps56
 go_wp2_with (first|((with_reducible refine gate_dst (N:=2) rfl ?_);refine sV (N:=2) (cs:= #[.int .i64 a0_0,.slice A0_1 l0_1.length c0_1]) (t:=34) ?_;intro s hg D hbox hb;have a:=zM (hbox);have u:=sG HB hg;have v:=sG HB hg;replace HB:=sB HB hb;clear hb hbox hg)|((with_reducible refine gate_dst (N:=3) rfl ?_);refine sV (N:=3) (cs:= #[.int .i64 a1_0,.int .i64 a1_1,.string a1_2,.int .i64 a1_3]) (t:=29) ?_;intro x hg E hbox hb;have b:=zM (hbox);have y:=sG HB hg;have z:=sG HB hg;replace HB:=sB HB hb;have m:=sN a hg;have n:=sM a hg;replace a:=sK a hb;clear hb hbox hg;have F:=m.out;have G:=n.out;obtain⟨I,J,K,L⟩:=cells2 a.out)|((with_reducible refine gate_callee (f:=80) rfl ?_);refine sC (some 6) Try.func80 #[.agg #[.int .i64 a0_0,.slice A0_1 l0_1.length c0_1]] (impl_ValidHeap.calls k a0_0 _ _ l0_1 true _ ?side1 ?side2 p.out) ?_;(case side1=>exact sD (zC d.out HB.out));(case side2=>exact i.out);rintro e M ⟨rfl,hb⟩;refine⟨_,rfl,?_⟩;replace a:=sK a hb;replace b:=sK b hb;replace HB:=sB HB hb;(try clear hb);obtain⟨O,P,Q,R⟩:=cells2 a.out;obtain⟨S,T,U,V,W,X,Y,Z⟩:=cells4 b.out)|(go_at_call 81;(with_reducible refine(impl_Heap_fits.calls k a0_0 _ _ l0_1 a1_0 a1_1 a1_2 a1_3 l _ ?side1 ?side2 q.out).mono ?_);(case side1=>exact sD (zC d.out HB.out));(case side2=>exact i.out);rintro e aa ⟨rfl,hb⟩;replace a:=sK a hb;replace b:=sK b hb;replace HB:=sB HB hb;(try clear hb)))
 go_ret
 exact⟨sq,sb⟩)
 replace c:=zB c
 subst c
 rewrite[if_neg zQ]at H
 obtain rfl:=zI H
 go_enter Try.func56,Try.ntmps56
 go_wp2_with (first|((with_reducible refine gate_dst (N:=2) rfl ?_);refine sV (N:=2) (cs:= #[.int .i64 a0_0,.slice A0_1 l0_1.length c0_1]) (t:=34) ?_;intro s hg ab hbox hb;have a:=zM (hbox);have u:=sG HB hg;have v:=sG HB hg;replace HB:=sB HB hb;clear hb hbox hg)|((with_reducible refine gate_dst (N:=3) rfl ?_);refine sV (N:=3) (cs:= #[.int .i64 a1_0,.int .i64 a1_1,.string a1_2,.int .i64 a1_3]) (t:=29) ?_;intro x hg ac hbox hb;have b:=zM (hbox);have y:=sG HB hg;have z:=sG HB hg;replace HB:=sB HB hb;have m:=sN a hg;have n:=sM a hg;replace a:=sK a hb;clear hb hbox hg;have ad:=m.out;have ae:=n.out;obtain⟨af,ag,ah,ai⟩:=cells2 a.out)|((with_reducible refine gate_callee (f:=80) rfl ?_);refine sC (some 6) Try.func80 #[.agg #[.int .i64 a0_0,.slice A0_1 l0_1.length c0_1]] (impl_ValidHeap.calls k a0_0 _ _ l0_1 false _ ?side1 ?side2 p.out) ?_;(case side1=>exact sD (zC d.out HB.out));(case side2=>exact i.out);rintro e aj ⟨rfl,hb⟩;refine⟨_,rfl,?_⟩;replace a:=sK a hb;replace b:=sK b hb;replace HB:=sB HB hb;(try clear hb)))
 go_ret
 exact⟨sq,sb⟩
end Go.Proofs.Ytengilknjiobiaa.PFnExactPairsOf
