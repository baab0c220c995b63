/- Printed functions: impl_Value__impl_ValidValue, impl_Object__impl_ValidHeap_1. -/
import Derived.Test.YtpdljgieaaicpaaYGbP0
import Derived.Test.YtpdljgieaaicpaaYGbPE
import Derived.Test.YtpdljgieaaicpaaYGbP15
import Derived.Test.YtpdljgieaaicpaaYGbP23
namespace Go.Proofs.Ytpdljgieaaicpaa.PFnExactGarbage
open Go.RowKit Go.Proofs.YtpdljgieaaicpaaG Go.Proofs.YtpdljgieaaicpaaW.PrintWords Go.Proofs.YtpdljgieaaicpaaW.PrintLast Go.Proofs.YtpdljgieaaicpaaW.PrintMore
attribute [local go_sem] max2_int min2_int max_two min_two max_three min_three max_four min_four
set_option linter.unusedVariables false
set_option linter.unusedSimpArgs false
section
attribute [local go_sem high] eqA62
def impl_Value__impl_ValidValue.l0 : Nat → List (S62) → Int → Int → Option (Bool)
 |0,_,_,_=>none
 |k+1,x7,x8,x9=>if x9<x8 then(if 0≤x9 then(if x9<(x7.length:Int)then((impl_ValidValue.f k ((rd_T62 x7 x9).f0) ((rd_T62 x7 x9).f1) ((rd_T62 x7 x9).f2) ((rd_T62 x7 x9).f3)).bind fun t296=>(if t296=true then(impl_Value__impl_ValidValue.l0 k x7 x8 (wrap64 (x9+1)))else(some false)))else(none))else(none))else(some true)
def impl_Value__impl_ValidValue.f (k:Nat) (l0:List (S62)):Option (Bool):=impl_Value__impl_ValidValue.l0 k l0 (l0.length:Int) 0
set_option maxHeartbeats 8000000 in
set_option maxRecDepth 100000 in
theorem impl_Value__impl_ValidValue.calls (k:Nat) (A0:Option Addr) (c0:Nat) (l0:List (S62)) (r:Bool) (w:World) (hr0:Kd.C k62 w A0 l0.length l0) (hc0:l0.length≤c0) (h:impl_Value__impl_ValidValue.f k l0=some r):
  Calls Try.prog 71 #[.slice A0 l0.length c0,.func (.func 99) #[] #[]] w fun e w'=>e= .returned (.bool r)∧Below w.heap.size w w':=by
 have J:=Try.underlying62
 have z:=zM hr0
 have K:=zM hc0
 clear hr0 hc0
 have HB:=zM (Below.refl w.heap.size w)
 have H:(impl_Value__impl_ValidValue.l0 k l0 (l0.length:Int) 0)=some r:=h
 clear h
 have H':=zM H
 clear H
 go_enter Try.func71,Try.ntmps71
 go_wp2
 go_loopg [9] k (fun kq D w'=>∃(a:Int),D= .int .i64 a∧Aside0 (impl_Value__impl_ValidValue.l0 kq l0 (l0.length:Int) a=some r)∧Aside0 (kq≤k)∧Aside0 (Below w.heap.size w w'))
 case atStart=>exact⟨(0),sr,H',⟨Nat.le_refl _⟩,⟨sb⟩⟩
 case round=>(
 clear H'
 obtain⟨a,rfl,HA,A,HB⟩:=hrel
 cases gk with
 |zero=>exact absurd HA.out (by simp[impl_Value__impl_ValidValue.l0])
 |succ k1=>(
 have H:=HA.out
 clear HA
 simp only[impl_Value__impl_ValidValue.l0]at H
 by_cases i:a<(l0.length:Int)
 ·(
 rw[if_pos i]at H
 have c3b0:=zT i
 clear i
 by_cases s:0≤a
 ·(
 rw[if_pos s]at H
 have c4b0:=zT s
 clear s
 by_cases u:a<(l0.length:Int)
 ·(
 rw[if_pos u]at H
 have c5b0:=zT u
 clear u
 obtain⟨E,B,H⟩:=sO H
 by_cases v:E=true
 ·(
 subst v
 rewrite[if_pos rfl]at H
 have H':=zM H
 clear H
 have c:0≤(a:Int):=zzA
 have d:a<(l0.length:Int):=zzA
 obtain⟨F,x,j,l,m,n⟩:=at_T62 z.out a c d
 cases x
 replace j:=sX HB j
 replace l:=sX HB l
 replace m:=sX HB m
 replace n:=sX HB n
 replace c:=eq_true c
 replace d:=eq_true d
 go_wp2_with (first|((with_reducible refine gate_dst (N:=6) rfl ?_);refine sV (N:=6) (cs:= #[.int .i64 0,.int .i64 0,.string (⟨#[]⟩:ByteArray),.int .i64 0]) (t:=62) ?_;intro y hg L hbox hb;have b:=zM (hbox);have G:=sG HB hg;have I:=sG HB hg;replace HB:=sB HB hb;clear hb hbox hg;obtain⟨M,O,P,Q,R,S,T,U⟩:=cells4 b.out)|(go_at_call 99;(with_reducible refine(impl_ValidValue.calls k1 ((rd_T62 l0 a).f0) ((rd_T62 l0 a).f1) ((rd_T62 l0 a).f2) ((rd_T62 l0 a).f3) true _ B.out).mono ?_);rintro e V ⟨rfl,hb⟩;have p:=zM (blk_below (g:=y) (o:= .cells #[.int .i64 ((rd_T62 l0 a).f0),.int .i64 ((rd_T62 l0 a).f1),.string ((rd_T62 l0 a).f2),.int .i64 ((rd_T62 l0 a).f3)] 62 (0,0)) (by(try with_reducible refine blk_drewN ?_ _);exact sP4 (sT b.out)) hb);have q:=sB HB hb;clear b;clear HB;have b:=p;have HB:=q;clear p q;(try clear hb)))
 go_roundg k1
 case measure=>have:=A.out;omega
 case rel=>exact⟨(wrap64 (a+1)),sr,H',⟨by have:=A.out;omega⟩,⟨sb⟩⟩)
 replace v:=zB v
 subst v
 rewrite[if_neg zQ]at H
 obtain rfl:=zI H
 have c:0≤(a:Int):=zzA
 have d:a<(l0.length:Int):=zzA
 obtain⟨F,x,j,l,m,n⟩:=at_T62 z.out a c d
 cases x
 replace j:=sX HB j
 replace l:=sX HB l
 replace m:=sX HB m
 replace n:=sX HB n
 replace c:=eq_true c
 replace d:=eq_true d
 go_wp2_with (first|((with_reducible refine gate_dst (N:=6) rfl ?_);refine sV (N:=6) (cs:= #[.int .i64 0,.int .i64 0,.string (⟨#[]⟩:ByteArray),.int .i64 0]) (t:=62) ?_;intro y hg W hbox hb;have b:=zM (hbox);have G:=sG HB hg;have I:=sG HB hg;replace HB:=sB HB hb;clear hb hbox hg;obtain⟨X,Y,Z,aa,ab,ac,ad,ae⟩:=cells4 b.out)|(go_at_call 99;(with_reducible refine(impl_ValidValue.calls k1 ((rd_T62 l0 a).f0) ((rd_T62 l0 a).f1) ((rd_T62 l0 a).f2) ((rd_T62 l0 a).f3) false _ B.out).mono ?_);rintro e af ⟨rfl,hb⟩;have p:=zM (blk_below (g:=y) (o:= .cells #[.int .i64 ((rd_T62 l0 a).f0),.int .i64 ((rd_T62 l0 a).f1),.string ((rd_T62 l0 a).f2),.int .i64 ((rd_T62 l0 a).f3)] 62 (0,0)) (by(try with_reducible refine blk_drewN ?_ _);exact sP4 (sT b.out)) hb);have q:=sB HB hb;clear b;clear HB;have b:=p;have HB:=q;clear p q;(try clear hb)))
 go_ret
 exact⟨sq,sb⟩)
 rw[if_neg u]at H
 exact absurd H (by simp))
 rw[if_neg s]at H
 exact absurd H (by simp))
 rw[if_neg i]at H
 have c3b0:=zF i
 clear i
 obtain rfl:=zI H
 go_wp2
 go_ret
 exact⟨sq,sb⟩))
end
def impl_Object__impl_ValidHeap_1.l0 : Nat → List (S32) → List (S64) → Int → Int → Option (Bool)
 |0,_,_,_,_=>none
 |k+1,x1,x7,x8,x9=>if x9<x8 then(if 0≤x9 then(if x9<(x7.length:Int)then((impl_ValidHeap_1.f k ((rd_T64 x7 x9).f0) ((rd_T64 x7 x9).f1) ((rd_T64 x7 x9).f2) ((rd_T64 x7 x9).f3) ((rd_T64 x7 x9).f4) ((rd_T64 x7 x9).f5) ((rd_T64 x7 x9).f6.f0) ((rd_T64 x7 x9).f6.f1) ((rd_T64 x7 x9).f6.f2) ((rd_T64 x7 x9).f6.f3) x1).bind fun t386=>(if t386=true then(impl_Object__impl_ValidHeap_1.l0 k x1 x7 x8 (wrap64 (x9+1)))else(some false)))else(none))else(none))else(some true)
def impl_Object__impl_ValidHeap_1.f (k:Nat) (l0:List (S64)) (l1:List (S32)):Option (Bool):=impl_Object__impl_ValidHeap_1.l0 k l1 l0 (l0.length:Int) 0
set_option maxHeartbeats 8000000 in
set_option maxRecDepth 100000 in
theorem impl_Object__impl_ValidHeap_1.calls (k:Nat) (A0:Option Addr) (c0:Nat) (l0:List (S64)) (A1:Option Addr) (l1:List (S32)) (r:Bool) (w:World) (hr0:Kd.C k64 w A0 l0.length l0) (hc0:l0.length≤c0) (hr1:Kd.C k32 w A1 l1.length l1) (h:impl_Object__impl_ValidHeap_1.f k l0 l1=some r):
  Calls Try.prog 95 #[.slice A0 l0.length c0,.func (.func 97) #[] #[.pointer A1]] w fun e w'=>e= .returned (.bool r)∧Below w.heap.size w w':=by
 have ad:=Try.underlying64
 have V:=zM hr0
 have ae:=zM hc0
 clear hr0 hc0
 have W:=zM hr1
 have af:=zM (Nat.le_refl l1.length)
 clear hr1
 have HB:=zM (Below.refl w.heap.size w)
 have H:(impl_Object__impl_ValidHeap_1.l0 k l1 l0 (l0.length:Int) 0)=some r:=h
 clear h
 have H':=zM H
 clear H
 go_enter Try.func95,Try.ntmps95
 go_wp2
 go_loopg [9] k (fun kq Z w'=>∃(a:Int),Z= .int .i64 a∧Aside0 (impl_Object__impl_ValidHeap_1.l0 kq l1 l0 (l0.length:Int) a=some r)∧Aside0 (kq≤k)∧Aside0 (Below w.heap.size w w'))
 case atStart=>exact⟨(0),sr,H',⟨Nat.le_refl _⟩,⟨sb⟩⟩
 case round=>(
 clear H'
 obtain⟨a,rfl,HA,X,HB⟩:=hrel
 cases gk with
 |zero=>exact absurd HA.out (by simp[impl_Object__impl_ValidHeap_1.l0])
 |succ k1=>(
 have H:=HA.out
 clear HA
 simp only[impl_Object__impl_ValidHeap_1.l0]at H
 by_cases j:a<(l0.length:Int)
 ·(
 rw[if_pos j]at H
 have c3b0:=zT j
 clear j
 by_cases G:0≤a
 ·(
 rw[if_pos G]at H
 have c4b0:=zT G
 clear G
 by_cases I:a<(l0.length:Int)
 ·(
 rw[if_pos I]at H
 have c5b0:=zT I
 clear I
 obtain⟨aa,Y,H⟩:=sO H
 by_cases J:aa=true
 ·(
 subst J
 rewrite[if_pos rfl]at H
 have H':=zM H
 clear H
 have c:0≤(a:Int):=zzA
 have d:a<(l0.length:Int):=zzA
 obtain⟨ab,K,L,M,O,P,l,m,n,p,q,s,u,v,x,y,z,A,B,D⟩:=at_T64 V.out a c d
 cases P
 replace l:=sX HB l
 replace m:=sX HB m
 replace n:=sX HB n
 replace p:=sX HB p
 replace q:=sX HB q
 replace s:=sX HB s
 replace u:=sX HB u
 replace v:=sX HB v
 replace x:=sX HB x
 replace y:=sX HB y
 have Q:=zM A
 have R:=zM z
 clear A z
 have S:=zM D
 have T:=zM B
 clear D B
 replace c:=eq_true c
 replace d:=eq_true d
 go_wp2_with (first|((with_reducible refine gate_dst (N:=6) rfl ?_);refine sV (N:=6) (cs:= #[.int .i64 0,.int .i64 0,.string (⟨#[]⟩:ByteArray),.int .i64 0,.slice none 0 0,.slice none 0 0,.int .i64 0,.int .i64 0,.string (⟨#[]⟩:ByteArray),.int .i64 0]) (t:=64) ?_;intro U hg w8 hbox hb;have b:=zM (hbox);have ac:=sG HB hg;have i:=sG HB hg;replace HB:=sB HB hb;clear hb hbox hg;obtain⟨ag,ah,ai,aj,ak,al,am,an,ao,ap,aq,ar,au,av,aw,ax,ay,az,aA,aB⟩:=cells10 b.out)|(go_at_call 97;(with_reducible refine(impl_ValidHeap_1.calls k1 ((rd_T64 l0 a).f0) ((rd_T64 l0 a).f1) ((rd_T64 l0 a).f2) ((rd_T64 l0 a).f3) _ _ ((rd_T64 l0 a).f4) _ _ ((rd_T64 l0 a).f5) ((rd_T64 l0 a).f6.f0) ((rd_T64 l0 a).f6.f1) ((rd_T64 l0 a).f6.f2) ((rd_T64 l0 a).f6.f3) _ l1 true _ ?side1 ?side2 ?side3 ?side4 ?side5 Y.out).mono ?_);(case side1=>exact zC Q.out zzR);(case side2=>exact R.out);(case side3=>exact zC S.out zzR);(case side4=>exact T.out);(case side5=>exact zC W.out zzR);rintro e aC ⟨rfl,hb⟩;have E:=zM (blk_below (g:=U) (o:= .cells #[.int .i64 ((rd_T64 l0 a).f0),.int .i64 ((rd_T64 l0 a).f1),.string ((rd_T64 l0 a).f2),.int .i64 ((rd_T64 l0 a).f3),.slice K ((rd_T64 l0 a).f4).length L,.slice M ((rd_T64 l0 a).f5).length O,.int .i64 ((rd_T64 l0 a).f6.f0),.int .i64 ((rd_T64 l0 a).f6.f1),.string ((rd_T64 l0 a).f6.f2),.int .i64 ((rd_T64 l0 a).f6.f3)] 64 (0,0)) (by(try with_reducible refine blk_drewN ?_ _);exact sP10 (sT b.out)) hb);have F:=sB HB hb;clear b;clear HB;have b:=E;have HB:=F;clear E F;(try clear hb)))
 go_roundg k1
 case measure=>have:=X.out;omega
 case rel=>exact⟨(wrap64 (a+1)),sr,H',⟨by have:=X.out;omega⟩,⟨sb⟩⟩)
 replace J:=zB J
 subst J
 rewrite[if_neg zQ]at H
 obtain rfl:=zI H
 have c:0≤(a:Int):=zzA
 have d:a<(l0.length:Int):=zzA
 obtain⟨ab,K,L,M,O,P,l,m,n,p,q,s,u,v,x,y,z,A,B,D⟩:=at_T64 V.out a c d
 cases P
 replace l:=sX HB l
 replace m:=sX HB m
 replace n:=sX HB n
 replace p:=sX HB p
 replace q:=sX HB q
 replace s:=sX HB s
 replace u:=sX HB u
 replace v:=sX HB v
 replace x:=sX HB x
 replace y:=sX HB y
 have Q:=zM A
 have R:=zM z
 clear A z
 have S:=zM D
 have T:=zM B
 clear D B
 replace c:=eq_true c
 replace d:=eq_true d
 go_wp2_with (first|((with_reducible refine gate_dst (N:=6) rfl ?_);refine sV (N:=6) (cs:= #[.int .i64 0,.int .i64 0,.string (⟨#[]⟩:ByteArray),.int .i64 0,.slice none 0 0,.slice none 0 0,.int .i64 0,.int .i64 0,.string (⟨#[]⟩:ByteArray),.int .i64 0]) (t:=64) ?_;intro U hg aD hbox hb;have b:=zM (hbox);have ac:=sG HB hg;have i:=sG HB hg;replace HB:=sB HB hb;clear hb hbox hg;obtain⟨aE,aF,aG,aH,aI,aJ,aK,aL,aM,aN,aO,aP,aQ,aR,aS,aT,aU,aV,aW,aX⟩:=cells10 b.out)|(go_at_call 97;(with_reducible refine(impl_ValidHeap_1.calls k1 ((rd_T64 l0 a).f0) ((rd_T64 l0 a).f1) ((rd_T64 l0 a).f2) ((rd_T64 l0 a).f3) _ _ ((rd_T64 l0 a).f4) _ _ ((rd_T64 l0 a).f5) ((rd_T64 l0 a).f6.f0) ((rd_T64 l0 a).f6.f1) ((rd_T64 l0 a).f6.f2) ((rd_T64 l0 a).f6.f3) _ l1 false _ ?side1 ?side2 ?side3 ?side4 ?side5 Y.out).mono ?_);(case side1=>exact zC Q.out zzR);(case side2=>exact R.out);(case side3=>exact zC S.out zzR);(case side4=>exact T.out);(case side5=>exact zC W.out zzR);rintro e aY ⟨rfl,hb⟩;have E:=zM (blk_below (g:=U) (o:= .cells #[.int .i64 ((rd_T64 l0 a).f0),.int .i64 ((rd_T64 l0 a).f1),.string ((rd_T64 l0 a).f2),.int .i64 ((rd_T64 l0 a).f3),.slice K ((rd_T64 l0 a).f4).length L,.slice M ((rd_T64 l0 a).f5).length O,.int .i64 ((rd_T64 l0 a).f6.f0),.int .i64 ((rd_T64 l0 a).f6.f1),.string ((rd_T64 l0 a).f6.f2),.int .i64 ((rd_T64 l0 a).f6.f3)] 64 (0,0)) (by(try with_reducible refine blk_drewN ?_ _);exact sP10 (sT b.out)) hb);have F:=sB HB hb;clear b;clear HB;have b:=E;have HB:=F;clear E F;(try clear hb)))
 go_ret
 exact⟨sq,sb⟩)
 rw[if_neg I]at H
 exact absurd H (by simp))
 rw[if_neg G]at H
 exact absurd H (by simp))
 rw[if_neg j]at H
 have c3b0:=zF j
 clear j
 obtain rfl:=zI H
 go_wp2
 go_ret
 exact⟨sq,sb⟩))
end Go.Proofs.Ytpdljgieaaicpaa.PFnExactGarbage
