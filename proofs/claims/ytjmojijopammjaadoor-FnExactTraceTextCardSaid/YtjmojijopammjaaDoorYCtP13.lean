/- Printed functions: impl_isObjectId, impl_ValidValue, impl_TraceText. -/
import Derived.Test.YtjmojijopammjaaDoorYCtP0
import Derived.Test.YtjmojijopammjaaDoorYCtPE
import Derived.Test.YtjmojijopammjaaDoorYCtP5
import Derived.Test.YtjmojijopammjaaDoorYCtP8
import Derived.Test.YtjmojijopammjaaDoorYCtP12
import Derived.Test.YtjmojijopammjaaDoorYCtP14
namespace Go.Proofs.YtjmojijopammjaaDoor.PFnExactCaptureText
open Go.RowKit Go.Proofs.YtjmojijopammjaaDoorG Go.Proofs.YtjmojijopammjaaDoorW.PrintWords Go.Proofs.YtjmojijopammjaaDoorW.PrintLast Go.Proofs.YtjmojijopammjaaDoorW.PrintMore
attribute [local go_sem] max2_int min2_int max_two min_two max_three min_three max_four min_four
set_option linter.unusedVariables false
set_option linter.unusedSimpArgs false
def impl_isObjectId.f (a0:Int):Option (Bool):=(impl_within.f a0 1 1000000).bind fun t228=>(some t228)
set_option maxHeartbeats 8000000 in
set_option maxRecDepth 100000 in
theorem impl_isObjectId.calls (a0:Int) (r:Bool) (w:World) (h:impl_isObjectId.f a0=some r):
  Calls Tryd.prog 95 #[.int .i64 a0] w fun e w'=>e= .returned (.bool r)∧Drawn0 w w':=by
 have H:((impl_within.f a0 1 1000000).bind fun a=>(some a))=some r:=h
 clear h
 obtain⟨a,b,H⟩:=sO H
 obtain rfl:=zI H
 go_enter Tryd.func95,Tryd.ntmps95
 go_wp2_with (first|((with_reducible refine gate_callee (f:=54) rfl ?_);refine sC (some 4) Tryd.func54 #[.int .i64 a0,.int .i64 1,.int .i64 1000000] (impl_within.calls a0 1 1000000 a _ b.out) ?_;rintro e w' ⟨rfl,⟨nd,rfl⟩⟩;refine⟨_,rfl,?_⟩))
 go_ret
 exact⟨by first|rfl|(simp;done)|(simp[*];done),by repeat(first|exact Drawn0.refl _|apply Drawn0.step)⟩
section
attribute [local go_sem high] eqA40
def impl_ValidValue.j0 : Nat → Int → Bool → Int → Int → ByteArray → Int → Option (Bool)
 |0,_,_,_,_,_,_=>none
 |k+1,x4,x49,x230000,x230001,x230002,x230003=>if x49=true then(if(x230001==0&&(x230002.toList.isEmpty))=true then((impl_isObjectId.f x230003).bind fun t231=>(some t231))else(some false))else(if x4=7 then(if(x230001==0&&(x230003==0))=true then((impl_IsName.f k x230002).bind fun t232=>(some t232))else(some false))else(if x4=8 then(if(x230001==0&&(x230003==0))=true then((impl_IsName.f k x230002).bind fun t233=>(some t233))else(some false))else(some false)))
def impl_ValidValue.f (k:Nat) (a0_0:Int) (a0_1:Int) (a0_2:ByteArray) (a0_3:Int):Option (Bool):=if a0_0=1 then(if(a0_1==0&&(a0_3==0))=true then(some (decide ((a0_2.size:Int)≤200)))else(some false))else(if a0_0=2 then(if(a0_2.toList.isEmpty&&(a0_3==0))=true then((impl_within.f a0_1 (-1000000000000) 1000000000000).bind fun t230=>(some t230))else(some false))else(if a0_0=3 then(if(a0_1==0&&(a0_3==0))=true then(if(a0_2.size:Int)≥1 then(some (decide ((a0_2.size:Int)≤1200)))else(some false))else(some false))else(if a0_0=4 then(impl_ValidValue.j0 k a0_0 (a0_0==4) a0_0 a0_1 a0_2 a0_3)else(if a0_0=5 then(impl_ValidValue.j0 k a0_0 (a0_0==5) a0_0 a0_1 a0_2 a0_3)else(impl_ValidValue.j0 k a0_0 (a0_0==6) a0_0 a0_1 a0_2 a0_3)))))
set_option maxHeartbeats 8000000 in
set_option maxRecDepth 100000 in
theorem impl_ValidValue.calls (k:Nat) (a0_0:Int) (a0_1:Int) (a0_2:ByteArray) (a0_3:Int) (r:Bool) (w:World) (h:impl_ValidValue.f k a0_0 a0_1 a0_2 a0_3=some r):
  Calls Tryd.prog 56 #[.agg #[.int .i64 a0_0,.int .i64 a0_1,.string a0_2,.int .i64 a0_3]] w fun e w'=>e= .returned (.bool r)∧Below w.heap.size w w':=by
 have V:=Tryd.underlying40
 have HB:=zM (Below.refl w.heap.size w)
 have H:(if a0_0=1 then(if(a0_1==0&&(a0_3==0))=true then(some (decide ((a0_2.size:Int)≤200)))else(some false))else(if a0_0=2 then(if(a0_2.toList.isEmpty&&(a0_3==0))=true then((impl_within.f a0_1 (-1000000000000) 1000000000000).bind fun B=>(some B))else(some false))else(if a0_0=3 then(if(a0_1==0&&(a0_3==0))=true then(if(a0_2.size:Int)≥1 then(some (decide ((a0_2.size:Int)≤1200)))else(some false))else(some false))else(if a0_0=4 then(impl_ValidValue.j0 k a0_0 (a0_0==4) a0_0 a0_1 a0_2 a0_3)else(if a0_0=5 then(impl_ValidValue.j0 k a0_0 (a0_0==5) a0_0 a0_1 a0_2 a0_3)else(impl_ValidValue.j0 k a0_0 (a0_0==6) a0_0 a0_1 a0_2 a0_3))))))=some r:=h
 clear h
 by_cases j:a0_0=1
 ·(
 rw[if_pos j]at H
 have c2b0:(a0_0==1)=true:=zE j
 have c2b1:(a0_0 !=1)=false:=zY j
 clear j
 by_cases b:(a0_1==0&&(a0_3==0))=true
 ·(
 rw[if_pos b]at H
 have c3b0:(a0_1==0&&(a0_3==0))=true:=b
 (try(have c3b1:decide (a0_1=0&&(a0_3==0))=true:=by simpa using b))
 (try(have c3b2:(a0_1==0&&(a0_3==0))=true:=by simpa using b))
 clear b
 obtain rfl:=zI H
 go_enter Tryd.func56,Tryd.ntmps56
 go_wp2_with (first|((with_reducible refine gate_dst (N:=1) rfl ?_);(try(refine gate_guard (by rfl) ?_;dsimp only));refine sV (N:=1) (cs:= #[.int .i64 a0_0,.int .i64 a0_1,.string a0_2,.int .i64 a0_3]) (t:=40) ?_;intro l hg W hbox hb;have a:=zM (hbox);have o:=sG HB hg;have p:=sG HB hg;replace HB:=sB HB hb;clear hb hbox hg;obtain⟨X,Y,Z,aa,ab,ac,ad,ae⟩:=cells4 a.out))
 go_ret
 exact⟨sq,sb⟩)
 rw[if_neg b]at H
 have c3b0:(a0_1==0&&(a0_3==0))=false:=by simpa using b
 (try(have c3b1:decide (a0_1=0&&(a0_3==0))=false:=by simpa using b))
 (try(have c3b2:(a0_1==0&&(a0_3==0))=false:=by simpa using b))
 (try(have c3b3:¬(a0_1=0&&(a0_3==0)):=by simpa using b))
 clear b
 obtain rfl:=zI H
 go_enter Tryd.func56,Tryd.ntmps56
 go_wp2_with (first|((with_reducible refine gate_dst (N:=1) rfl ?_);(try(refine gate_guard (by rfl) ?_;dsimp only));refine sV (N:=1) (cs:= #[.int .i64 a0_0,.int .i64 a0_1,.string a0_2,.int .i64 a0_3]) (t:=40) ?_;intro l hg w6 hbox hb;have a:=zM (hbox);have o:=sG HB hg;have p:=sG HB hg;replace HB:=sB HB hb;clear hb hbox hg;obtain⟨af,ag,ah,ai,aj,ak,al,am⟩:=cells4 a.out))
 go_ret
 exact⟨sq,sb⟩)
 rw[if_neg j]at H
 have c2b0:(a0_0==1)=false:=zN j
 have c2b1:(a0_0 !=1)=true:=zX j
 by_cases m:a0_0=2
 ·(
 rw[if_pos m]at H
 have c8b0:(a0_0==2)=true:=zE m
 have c8b1:(a0_0 !=2)=false:=zY m
 clear m
 by_cases x:(a0_2.toList.isEmpty&&(a0_3==0))=true
 ·(
 rw[if_pos x]at H
 have c9b0:(a0_2.toList.isEmpty&&(a0_3==0))=true:=x
 clear x
 obtain⟨B,D,H⟩:=sO H
 obtain rfl:=zI H
 go_enter Tryd.func56,Tryd.ntmps56
 go_wp2_with (first|((with_reducible refine gate_dst (N:=1) rfl ?_);(try(refine gate_guard (by rfl) ?_;dsimp only));refine sV (N:=1) (cs:= #[.int .i64 a0_0,.int .i64 a0_1,.string a0_2,.int .i64 a0_3]) (t:=40) ?_;intro l hg an hbox hb;have a:=zM (hbox);have o:=sG HB hg;have p:=sG HB hg;replace HB:=sB HB hb;clear hb hbox hg;obtain⟨ao,ap,aq,ar,au,av,aw,ax⟩:=cells4 a.out)|(go_at_call 54;(with_reducible refine(impl_within.calls a0_1 (-1000000000000) 1000000000000 B _ D.out).mono ?_);rintro e w' ⟨rfl,⟨nd,rfl⟩⟩))
 go_ret
 exact⟨sq,sb⟩)
 rw[if_neg x]at H
 have c9b0:(a0_2.toList.isEmpty&&(a0_3==0))=false:=by simpa using x
 clear x
 obtain rfl:=zI H
 go_enter Tryd.func56,Tryd.ntmps56
 go_wp2_with (first|((with_reducible refine gate_dst (N:=1) rfl ?_);(try(refine gate_guard (by rfl) ?_;dsimp only));refine sV (N:=1) (cs:= #[.int .i64 a0_0,.int .i64 a0_1,.string a0_2,.int .i64 a0_3]) (t:=40) ?_;intro l hg ay hbox hb;have a:=zM (hbox);have o:=sG HB hg;have p:=sG HB hg;replace HB:=sB HB hb;clear hb hbox hg;obtain⟨az,aA,aB,aC,aD,aE,aF,aG⟩:=cells4 a.out))
 go_ret
 exact⟨sq,sb⟩)
 rw[if_neg m]at H
 have c8b0:(a0_0==2)=false:=zN m
 have c8b1:(a0_0 !=2)=true:=zX m
 by_cases n:a0_0=3
 ·(
 rw[if_pos n]at H
 have c15b0:(a0_0==3)=true:=zE n
 have c15b1:(a0_0 !=3)=false:=zY n
 clear n
 by_cases c:(a0_1==0&&(a0_3==0))=true
 ·(
 rw[if_pos c]at H
 have c16b0:(a0_1==0&&(a0_3==0))=true:=c
 (try(have c16b1:decide (a0_1=0&&(a0_3==0))=true:=by simpa using c))
 (try(have c16b2:(a0_1==0&&(a0_3==0))=true:=by simpa using c))
 clear c
 by_cases y:(a0_2.size:Int)≥1
 ·(
 rw[if_pos y]at H
 have c17b0:decide (1≤(a0_2.size:Int))=true:=zT y
 have c17b1:decide (1≤a0_2.size)=true:=zT (by omega)
 clear y
 obtain rfl:=zI H
 go_enter Tryd.func56,Tryd.ntmps56
 go_wp2_with (first|((with_reducible refine gate_dst (N:=1) rfl ?_);(try(refine gate_guard (by rfl) ?_;dsimp only));refine sV (N:=1) (cs:= #[.int .i64 a0_0,.int .i64 a0_1,.string a0_2,.int .i64 a0_3]) (t:=40) ?_;intro l hg aH hbox hb;have a:=zM (hbox);have o:=sG HB hg;have p:=sG HB hg;replace HB:=sB HB hb;clear hb hbox hg;obtain⟨aI,aJ,aK,aL,aM,aN,aO,aP⟩:=cells4 a.out))
 go_ret
 exact⟨sq,sb⟩)
 rw[if_neg y]at H
 have c17b0:decide (1≤(a0_2.size:Int))=false:=zF y
 have c17b1:decide (1≤a0_2.size)=false:=zF (by omega)
 clear y
 obtain rfl:=zI H
 go_enter Tryd.func56,Tryd.ntmps56
 go_wp2_with (first|((with_reducible refine gate_dst (N:=1) rfl ?_);(try(refine gate_guard (by rfl) ?_;dsimp only));refine sV (N:=1) (cs:= #[.int .i64 a0_0,.int .i64 a0_1,.string a0_2,.int .i64 a0_3]) (t:=40) ?_;intro l hg aQ hbox hb;have a:=zM (hbox);have o:=sG HB hg;have p:=sG HB hg;replace HB:=sB HB hb;clear hb hbox hg;obtain⟨aR,aS,aT,aU,aV,aW,aX,aY⟩:=cells4 a.out))
 go_ret
 exact⟨sq,sb⟩)
 rw[if_neg c]at H
 have c16b0:(a0_1==0&&(a0_3==0))=false:=by simpa using c
 (try(have c16b1:decide (a0_1=0&&(a0_3==0))=false:=by simpa using c))
 (try(have c16b2:(a0_1==0&&(a0_3==0))=false:=by simpa using c))
 (try(have c16b3:¬(a0_1=0&&(a0_3==0)):=by simpa using c))
 clear c
 obtain rfl:=zI H
 go_enter Tryd.func56,Tryd.ntmps56
 go_wp2_with (first|((with_reducible refine gate_dst (N:=1) rfl ?_);(try(refine gate_guard (by rfl) ?_;dsimp only));refine sV (N:=1) (cs:= #[.int .i64 a0_0,.int .i64 a0_1,.string a0_2,.int .i64 a0_3]) (t:=40) ?_;intro l hg aZ hbox hb;have a:=zM (hbox);have o:=sG HB hg;have p:=sG HB hg;replace HB:=sB HB hb;clear hb hbox hg;obtain⟨a3,a4,a5,a6,a7,a8,a9,ba⟩:=cells4 a.out))
 go_ret
 exact⟨sq,sb⟩)
 rw[if_neg n]at H
 have c15b0:(a0_0==3)=false:=zN n
 have c15b1:(a0_0 !=3)=true:=zX n
 have C:=zM H
 clear H
 go_enter Tryd.func56,Tryd.ntmps56
 go_upto_if 49 with(first|((with_reducible refine gate_dst (N:=1) rfl ?_);(try(refine gate_guard (by rfl) ?_;dsimp only));refine sV (N:=1) (cs:= #[.int .i64 a0_0,.int .i64 a0_1,.string a0_2,.int .i64 a0_3]) (t:=40) ?_;intro l hg bb hbox hb;have a:=zM (hbox);have o:=sG HB hg;have p:=sG HB hg;replace HB:=sB HB hb;clear hb hbox hg;obtain⟨E,F,G,I,J,K,L,M⟩:=cells4 a.out))
 (try simp only[zP])
 go_cut [49] (fun O wc=>∃(kq:Nat) (z:Bool),O= .bool z∧Aside0 (impl_ValidValue.j0 kq a0_0 z a0_0 a0_1 a0_2 a0_3=some r)∧Aside0 (kq≤k)∧Aside0 (wc.heap[l]?=some (.cells #[.int .i64 a0_0,.int .i64 a0_1,.string a0_2,.int .i64 a0_3] 40 (0,0)))∧Aside0 (Below w.heap.size w wc))
 case first=>(
 have H:=C.out
 clear C
 by_cases q:a0_0=4
 ·(
 rw[if_pos q]at H
 have c27b0:(a0_0==4)=true:=zE q
 have c27b1:(a0_0 !=4)=false:=zY q
 clear q
 (first|rw[c27b0]|(simp only[i64_w,i32_w];rw[c27b0])|rw[c27b2]|skip)
 have H':=zM H
 clear H
 go_wp2
 go_meet
 case rel=>exact⟨_,((a0_0==4)),sr,H',⟨by first|omega|exact Nat.le_refl _⟩,⟨by exact sT a.out⟩,⟨sb⟩⟩)
 rw[if_neg q]at H
 have c27b0:(a0_0==4)=false:=zN q
 have c27b1:(a0_0 !=4)=true:=zX q
 (first|rw[c27b0]|(simp only[i64_w,i32_w];rw[c27b0])|rw[c27b2]|skip)
 by_cases s:a0_0=5
 ·(
 rw[if_pos s]at H
 have c28b0:(a0_0==5)=true:=zE s
 have c28b1:(a0_0 !=5)=false:=zY s
 clear s
 have H':=zM H
 clear H
 go_wp2
 go_meet
 case rel=>exact⟨_,((a0_0==5)),sr,H',⟨by first|omega|exact Nat.le_refl _⟩,⟨by exact sT a.out⟩,⟨sb⟩⟩)
 rw[if_neg s]at H
 have c28b0:(a0_0==5)=false:=zN s
 have c28b1:(a0_0 !=5)=true:=zX s
 have H':=zM H
 clear H
 go_wp2
 go_meet
 case rel=>exact⟨_,((a0_0==6)),sr,H',⟨by first|omega|exact Nat.le_refl _⟩,⟨by exact sT a.out⟩,⟨sb⟩⟩)
 case rest=>(
 clear C
 try clear j
 try clear c2b0
 try clear c2b1
 try clear m
 try clear c8b0
 try clear c8b1
 try clear n
 try clear c15b0
 try clear c15b1
 try clear E
 try clear F
 try clear G
 try clear I
 try clear J
 try clear K
 try clear L
 try clear M
 obtain⟨kq,z,rfl,HA,bc,a,HB⟩:=hcut
 cases kq with
 |zero=>exact absurd HA.out (by simp[impl_ValidValue.j0])
 |succ kj23=>(
 have H:=HA.out
 clear HA
 simp only[impl_ValidValue.j0]at H
 by_cases A:z=true
 ·(
 subst A
 rewrite[if_pos rfl]at H
 by_cases d:(a0_1==0&&(a0_2.toList.isEmpty))=true
 ·(
 rw[if_pos d]at H
 have c30b0:(a0_1==0&&(a0_2.toList.isEmpty))=true:=d
 (try(have c30b1:decide (a0_1=0&&(a0_2.toList.isEmpty))=true:=by simpa using d))
 (try(have c30b2:(a0_1==0&&(a0_2.toList.isEmpty))=true:=by simpa using d))
 clear d
 obtain⟨P,Q,H⟩:=sO H
 obtain rfl:=zI H
 obtain⟨bd,be,bf,bg,bh,bi,bj,bk⟩:=cells4 a.out
 go_wp2_with (first|(go_at_call 95;(with_reducible refine(impl_isObjectId.calls a0_3 P _ Q.out).mono ?_);rintro e w' ⟨rfl,⟨nd,rfl⟩⟩))
 go_ret
 exact⟨sq,sb⟩)
 rw[if_neg d]at H
 have c30b0:(a0_1==0&&(a0_2.toList.isEmpty))=false:=by simpa using d
 (try(have c30b1:decide (a0_1=0&&(a0_2.toList.isEmpty))=false:=by simpa using d))
 (try(have c30b2:(a0_1==0&&(a0_2.toList.isEmpty))=false:=by simpa using d))
 (try(have c30b3:¬(a0_1=0&&(a0_2.toList.isEmpty)):=by simpa using d))
 clear d
 obtain rfl:=zI H
 obtain⟨bl,bm,bn,bo,bp,bq,br,bs⟩:=cells4 a.out
 go_wp2
 go_ret
 exact⟨sq,sb⟩)
 replace A:=zB A
 subst A
 rewrite[if_neg zQ]at H
 by_cases u:a0_0=7
 ·(
 rw[if_pos u]at H
 have c34b0:(a0_0==7)=true:=zE u
 have c34b1:(a0_0 !=7)=false:=zY u
 clear u
 by_cases g:(a0_1==0&&(a0_3==0))=true
 ·(
 rw[if_pos g]at H
 have c35b0:(a0_1==0&&(a0_3==0))=true:=g
 (try(have c35b1:decide (a0_1=0&&(a0_3==0))=true:=by simpa using g))
 (try(have c35b2:(a0_1==0&&(a0_3==0))=true:=by simpa using g))
 clear g
 obtain⟨R,S,H⟩:=sO H
 obtain rfl:=zI H
 obtain⟨bt,bu,bv,bw,bx,bz,bA,bB⟩:=cells4 a.out
 go_wp2_with (first|(go_at_call 55;(with_reducible refine(impl_IsName.calls kj23 a0_2 R _ S.out).mono ?_);rintro e bC ⟨rfl,hb⟩;replace a:=sK a hb;replace HB:=sB HB hb;(try clear hb)))
 go_ret
 exact⟨sq,sb⟩)
 rw[if_neg g]at H
 have c35b0:(a0_1==0&&(a0_3==0))=false:=by simpa using g
 (try(have c35b1:decide (a0_1=0&&(a0_3==0))=false:=by simpa using g))
 (try(have c35b2:(a0_1==0&&(a0_3==0))=false:=by simpa using g))
 (try(have c35b3:¬(a0_1=0&&(a0_3==0)):=by simpa using g))
 clear g
 obtain rfl:=zI H
 obtain⟨bD,bE,bF,bG,bH,bI,bJ,bK⟩:=cells4 a.out
 go_wp2
 go_ret
 exact⟨sq,sb⟩)
 rw[if_neg u]at H
 have c34b0:(a0_0==7)=false:=zN u
 have c34b1:(a0_0 !=7)=true:=zX u
 by_cases v:a0_0=8
 ·(
 rw[if_pos v]at H
 have c40b0:(a0_0==8)=true:=zE v
 have c40b1:(a0_0 !=8)=false:=zY v
 clear v
 by_cases i:(a0_1==0&&(a0_3==0))=true
 ·(
 rw[if_pos i]at H
 have c41b0:(a0_1==0&&(a0_3==0))=true:=i
 (try(have c41b1:decide (a0_1=0&&(a0_3==0))=true:=by simpa using i))
 (try(have c41b2:(a0_1==0&&(a0_3==0))=true:=by simpa using i))
 clear i
 obtain⟨T,U,H⟩:=sO H
 obtain rfl:=zI H
 obtain⟨bL,bM,bN,bO,bP,bQ,bR,bS⟩:=cells4 a.out
 go_wp2_with (first|(go_at_call 55;(with_reducible refine(impl_IsName.calls kj23 a0_2 T _ U.out).mono ?_);rintro e bT ⟨rfl,hb⟩;replace a:=sK a hb;replace HB:=sB HB hb;(try clear hb)))
 go_ret
 exact⟨sq,sb⟩)
 rw[if_neg i]at H
 have c41b0:(a0_1==0&&(a0_3==0))=false:=by simpa using i
 (try(have c41b1:decide (a0_1=0&&(a0_3==0))=false:=by simpa using i))
 (try(have c41b2:(a0_1==0&&(a0_3==0))=false:=by simpa using i))
 (try(have c41b3:¬(a0_1=0&&(a0_3==0)):=by simpa using i))
 clear i
 obtain rfl:=zI H
 obtain⟨bU,bV,bW,bX,bY,bZ,b0,b1⟩:=cells4 a.out
 go_wp2
 go_ret
 exact⟨sq,sb⟩)
 rw[if_neg v]at H
 have c40b0:(a0_0==8)=false:=zN v
 have c40b1:(a0_0 !=8)=true:=zX v
 obtain rfl:=zI H
 go_wp2
 go_ret
 exact⟨sq,sb⟩))
end
section
attribute [local go_sem high] eqA40
def impl_TraceText.j0 : Nat → Int → Int → ByteArray → Bool → Int → Int → ByteArray → Int → Option (ByteArray)
 |0,_,_,_,_,_,_,_,_=>none
 |k+1,x0,x1,x2,x22,x240000,x240001,x240002,x240003=>if x22=true then(some (⟨#[]⟩:ByteArray))else((impl_decimal.f x1).bind fun t243=>(if t243.size+2≤9223372036854775807 then(if x0=1 then(if t243.size+2+x2.size≤9223372036854775807 then(if t243.size+2+x2.size+3≤9223372036854775807 then((impl_Value_text.f x240000 x240001 x240002 x240003).bind fun t244=>(if t243.size+2+x2.size+3+t244.size≤9223372036854775807 then(some ((((t243++(⟨#[58,32]⟩:ByteArray))++x2)++(⟨#[32,61,32]⟩:ByteArray))++t244))else(none)))else(none))else(none))else(if x0=2 then(if t243.size+2+5≤9223372036854775807 then(if t243.size+2+5+x2.size≤9223372036854775807 then(some (((t243++(⟨#[58,32]⟩:ByteArray))++(⟨#[99,97,108,108,32]⟩:ByteArray))++x2))else(none))else(none))else(if x0=3 then(if t243.size+2+7≤9223372036854775807 then(if t243.size+2+7+x2.size≤9223372036854775807 then(if t243.size+2+7+x2.size+3≤9223372036854775807 then((impl_Value_text.f x240000 x240001 x240002 x240003).bind fun t245=>(if t243.size+2+7+x2.size+3+t245.size≤9223372036854775807 then(some (((((t243++(⟨#[58,32]⟩:ByteArray))++(⟨#[114,101,116,117,114,110,32]⟩:ByteArray))++x2)++(⟨#[32,61,32]⟩:ByteArray))++t245))else(none)))else(none))else(none))else(none))else(if x0=4 then(if t243.size+2+5≤9223372036854775807 then(if t243.size+2+5+x2.size≤9223372036854775807 then(some (((t243++(⟨#[58,32]⟩:ByteArray))++(⟨#[102,97,105,108,32]⟩:ByteArray))++x2))else(none))else(none))else(if x0=5 then(if t243.size+2+5≤9223372036854775807 then(if t243.size+2+5+x2.size≤9223372036854775807 then(some (((t243++(⟨#[58,32]⟩:ByteArray))++(⟨#[103,111,116,111,32]⟩:ByteArray))++x2))else(none))else(none))else(some (⟨#[]⟩:ByteArray)))))))else(none)))
def impl_TraceText.f (k:Nat) (a0:Int) (a1:Int) (a2:ByteArray) (a3_0:Int) (a3_1:Int) (a3_2:ByteArray) (a3_3:Int):Option (ByteArray):=(impl_within.f a1 1 1000).bind fun t240=>(if t240=true then((impl_IsName.f k a2).bind fun t241=>(if t241=true then((impl_ValidValue.f k a3_0 a3_1 a3_2 a3_3).bind fun t242=>(impl_TraceText.j0 k a0 a1 a2 (!t242) a3_0 a3_1 a3_2 a3_3))else(impl_TraceText.j0 k a0 a1 a2 true a3_0 a3_1 a3_2 a3_3)))else(impl_TraceText.j0 k a0 a1 a2 true a3_0 a3_1 a3_2 a3_3))
set_option maxHeartbeats 8000000 in
set_option maxRecDepth 100000 in
theorem impl_TraceText.calls (k:Nat) (a0:Int) (a1:Int) (a2:ByteArray) (a3_0:Int) (a3_1:Int) (a3_2:ByteArray) (a3_3:Int) (r:ByteArray) (w:World) (h:impl_TraceText.f k a0 a1 a2 a3_0 a3_1 a3_2 a3_3=some r) (HT:EnvT w):
  Calls Tryd.prog 21 #[.int .i64 a0,.int .i64 a1,.string a2,.agg #[.int .i64 a3_0,.int .i64 a3_1,.string a3_2,.int .i64 a3_3]] w fun e w'=>e= .returned (.string r)∧Below w.heap.size w w':=by
 have W:=Tryd.underlying40
 have HB:=zM (Below.refl w.heap.size w)
 have H:((impl_within.f a1 1 1000).bind fun J=>(if J=true then((impl_IsName.f k a2).bind fun K=>(if K=true then((impl_ValidValue.f k a3_0 a3_1 a3_2 a3_3).bind fun D=>(impl_TraceText.j0 k a0 a1 a2 (!D) a3_0 a3_1 a3_2 a3_3))else(impl_TraceText.j0 k a0 a1 a2 true a3_0 a3_1 a3_2 a3_3)))else(impl_TraceText.j0 k a0 a1 a2 true a3_0 a3_1 a3_2 a3_3)))=some r:=h
 clear h
 have L:=zM H
 clear H
 go_enter Tryd.func21,Tryd.ntmps21
 go_upto_region 1 with(first|((with_reducible refine gate_dst (N:=7) rfl ?_);refine sV (N:=7) (cs:= #[.int .i64 a3_0,.int .i64 a3_1,.string a3_2,.int .i64 a3_3]) (t:=40) ?_;intro R hg X hbox hb;have b:=zM (hbox);have Y:=sG HB hg;have Z:=sG HB hg;replace HB:=sB HB hb;clear hb hbox hg))
 (try simp only[zP])
 go_cut [22] (fun S wc=>∃(kq:Nat) (E:Bool),S= .bool E∧Aside0 (impl_TraceText.j0 kq a0 a1 a2 E a3_0 a3_1 a3_2 a3_3=some r)∧Aside0 (kq≤k)∧Aside0 (wc.heap[R]?=some (.cells #[.int .i64 a3_0,.int .i64 a3_1,.string a3_2,.int .i64 a3_3] 40 (0,0)))∧Aside0 (Below w.heap.size w wc))
 case first=>(
 have H:=L.out
 clear L
 obtain⟨J,M,H⟩:=sO H
 by_cases F:J=true
 ·(
 subst F
 rewrite[if_pos rfl]at H
 obtain⟨K,Q,H⟩:=sO H
 by_cases G:K=true
 ·(
 subst G
 rewrite[if_pos rfl]at H
 obtain⟨D,T,H⟩:=sO H
 have H':=zM H
 clear H
 go_wp2_with (first|((with_reducible refine gate_callee (f:=54) rfl ?_);refine sC (some 11) Tryd.func54 #[.int .i64 a1,.int .i64 1,.int .i64 1000] (impl_within.calls a1 1 1000 true _ M.out) ?_;rintro e w' ⟨rfl,⟨nd,rfl⟩⟩;refine⟨_,rfl,?_⟩)|(go_at_call 55;(with_reducible refine(impl_IsName.calls k a2 true _ Q.out).mono ?_);rintro e aa ⟨rfl,hb⟩;replace b:=sK b hb;replace HB:=sB HB hb;(try clear hb);obtain⟨ab,ac,ad,ae,af,ag,ah,ai⟩:=cells4 b.out)|(go_at_call 56;(with_reducible refine(impl_ValidValue.calls k a3_0 a3_1 a3_2 a3_3 D _ T.out).mono ?_);rintro e aj ⟨rfl,hb⟩;replace b:=sK b hb;replace HB:=sB HB hb;(try clear hb)))
 go_meet
 case rel=>exact⟨_,(!D),sr,H',⟨by first|omega|exact Nat.le_refl _⟩,⟨by exact sT b.out⟩,⟨sb⟩⟩)
 replace G:=zB G
 subst G
 rewrite[if_neg zQ]at H
 have H':=zM H
 clear H
 go_wp2_with (first|((with_reducible refine gate_callee (f:=54) rfl ?_);refine sC (some 11) Tryd.func54 #[.int .i64 a1,.int .i64 1,.int .i64 1000] (impl_within.calls a1 1 1000 true _ M.out) ?_;rintro e w' ⟨rfl,⟨nd,rfl⟩⟩;refine⟨_,rfl,?_⟩)|(go_at_call 55;(with_reducible refine(impl_IsName.calls k a2 false _ Q.out).mono ?_);rintro e ak ⟨rfl,hb⟩;replace b:=sK b hb;replace HB:=sB HB hb;(try clear hb)))
 go_meet
 case rel=>exact⟨_,(true),sr,H',⟨by first|omega|exact Nat.le_refl _⟩,⟨by exact sT b.out⟩,⟨sb⟩⟩)
 replace F:=zB F
 subst F
 rewrite[if_neg zQ]at H
 have H':=zM H
 clear H
 go_wp2_with (first|((with_reducible refine gate_callee (f:=54) rfl ?_);refine sC (some 11) Tryd.func54 #[.int .i64 a1,.int .i64 1,.int .i64 1000] (impl_within.calls a1 1 1000 false _ M.out) ?_;rintro e w' ⟨rfl,⟨nd,rfl⟩⟩;refine⟨_,rfl,?_⟩))
 go_meet
 case rel=>exact⟨_,(true),sr,H',⟨by first|omega|exact Nat.le_refl _⟩,⟨by exact sT b.out⟩,⟨sb⟩⟩)
 case rest=>(
 clear L
 obtain⟨kq,E,rfl,HA,al,b,HB⟩:=hcut
 cases kq with
 |zero=>exact absurd HA.out (by simp[impl_TraceText.j0])
 |succ kj4=>(
 have H:=HA.out
 clear HA
 simp only[impl_TraceText.j0]at H
 by_cases I:E=true
 ·(
 subst I
 rewrite[if_pos rfl]at H
 obtain rfl:=zI H
 go_wp2
 go_ret
 exact⟨sq,sb⟩)
 replace I:=zB I
 subst I
 rewrite[if_neg zQ]at H
 obtain⟨a,l,H⟩:=sO H
 by_cases m:a.size+2≤9223372036854775807
 ·(
 rw[if_pos m]at H
 have c18b0:=eq_true m
 have c18b1:=zT m
 try have c18b2:(9223372036854775807<a.size+2)=False:=eq_false (Nat.not_lt.2 m)
 by_cases c:a0=1
 ·(
 rw[if_pos c]at H
 have c19b0:(a0==1)=true:=zE c
 have c19b1:(a0 !=1)=false:=zY c
 clear c
 by_cases n:a.size+2+a2.size≤9223372036854775807
 ·(
 rw[if_pos n]at H
 have c20b0:=eq_true n
 have c20b1:=zT n
 try have c20b2:(9223372036854775807<a.size+2+a2.size)=False:=eq_false (Nat.not_lt.2 n)
 by_cases o:a.size+2+a2.size+3≤9223372036854775807
 ·(
 rw[if_pos o]at H
 have c21b0:=eq_true o
 have c21b1:=zT o
 try have c21b2:(9223372036854775807<a.size+2+a2.size+3)=False:=eq_false (Nat.not_lt.2 o)
 obtain⟨O,U,H⟩:=sO H
 by_cases p:a.size+2+a2.size+3+O.size≤9223372036854775807
 ·(
 rw[if_pos p]at H
 have c23b0:=eq_true p
 have c23b1:=zT p
 try have c23b2:(9223372036854775807<a.size+2+a2.size+3+O.size)=False:=eq_false (Nat.not_lt.2 p)
 obtain rfl:=zI H
 go_wp2_with (first|((with_reducible refine gate_callee (f:=37) rfl ?_);refine sC (some 24) Tryd.func37 #[.int .i64 a1] (impl_decimal.calls a1 a _ l.out (by first|with_reducible exact HT|exact EnvT.below HT sb)) ?_;rintro e am ⟨rfl,hb⟩;refine⟨_,rfl,?_⟩;replace b:=sK b hb;replace HB:=sB HB hb;(try clear hb);obtain⟨an,ao,ap,aq,ar,au,av,aw⟩:=cells4 b.out)|((with_reducible refine gate_callee (f:=57) rfl ?_);refine sC (some 34) Tryd.func57 #[.agg #[.int .i64 a3_0,.int .i64 a3_1,.string a3_2,.int .i64 a3_3]] (impl_Value_text.calls a3_0 a3_1 a3_2 a3_3 O _ U.out (by first|with_reducible exact HT|exact EnvT.below HT sb)) ?_;rintro e ax ⟨rfl,hb⟩;refine⟨_,rfl,?_⟩;replace b:=sK b hb;replace HB:=sB HB hb;(try clear hb)))
 go_ret
 exact⟨sq,sb⟩)
 rw[if_neg p]at H
 exact absurd H (by simp))
 rw[if_neg o]at H
 exact absurd H (by simp))
 rw[if_neg n]at H
 exact absurd H (by simp))
 rw[if_neg c]at H
 have c19b0:(a0==1)=false:=zN c
 have c19b1:(a0 !=1)=true:=zX c
 by_cases d:a0=2
 ·(
 rw[if_pos d]at H
 have c27b0:(a0==2)=true:=zE d
 have c27b1:(a0 !=2)=false:=zY d
 clear d
 by_cases q:a.size+2+5≤9223372036854775807
 ·(
 rw[if_pos q]at H
 have c28b0:=eq_true q
 have c28b1:=zT q
 try have c28b2:(9223372036854775807<a.size+2+5)=False:=eq_false (Nat.not_lt.2 q)
 by_cases s:a.size+2+5+a2.size≤9223372036854775807
 ·(
 rw[if_pos s]at H
 have c29b0:=eq_true s
 have c29b1:=zT s
 try have c29b2:(9223372036854775807<a.size+2+5+a2.size)=False:=eq_false (Nat.not_lt.2 s)
 obtain rfl:=zI H
 go_wp2_with (first|((with_reducible refine gate_callee (f:=37) rfl ?_);refine sC (some 24) Tryd.func37 #[.int .i64 a1] (impl_decimal.calls a1 a _ l.out (by first|with_reducible exact HT|exact EnvT.below HT sb)) ?_;rintro e ay ⟨rfl,hb⟩;refine⟨_,rfl,?_⟩;replace b:=sK b hb;replace HB:=sB HB hb;(try clear hb)))
 go_ret
 exact⟨sq,sb⟩)
 rw[if_neg s]at H
 exact absurd H (by simp))
 rw[if_neg q]at H
 exact absurd H (by simp))
 rw[if_neg d]at H
 have c27b0:(a0==2)=false:=zN d
 have c27b1:(a0 !=2)=true:=zX d
 by_cases g:a0=3
 ·(
 rw[if_pos g]at H
 have c31b0:(a0==3)=true:=zE g
 have c31b1:(a0 !=3)=false:=zY g
 clear g
 by_cases u:a.size+2+7≤9223372036854775807
 ·(
 rw[if_pos u]at H
 have c32b0:=eq_true u
 have c32b1:=zT u
 try have c32b2:(9223372036854775807<a.size+2+7)=False:=eq_false (Nat.not_lt.2 u)
 by_cases v:a.size+2+7+a2.size≤9223372036854775807
 ·(
 rw[if_pos v]at H
 have c33b0:=eq_true v
 have c33b1:=zT v
 try have c33b2:(9223372036854775807<a.size+2+7+a2.size)=False:=eq_false (Nat.not_lt.2 v)
 by_cases x:a.size+2+7+a2.size+3≤9223372036854775807
 ·(
 rw[if_pos x]at H
 have c34b0:=eq_true x
 have c34b1:=zT x
 try have c34b2:(9223372036854775807<a.size+2+7+a2.size+3)=False:=eq_false (Nat.not_lt.2 x)
 obtain⟨P,V,H⟩:=sO H
 by_cases y:a.size+2+7+a2.size+3+P.size≤9223372036854775807
 ·(
 rw[if_pos y]at H
 have c36b0:=eq_true y
 have c36b1:=zT y
 try have c36b2:(9223372036854775807<a.size+2+7+a2.size+3+P.size)=False:=eq_false (Nat.not_lt.2 y)
 obtain rfl:=zI H
 go_wp2_with (first|((with_reducible refine gate_callee (f:=37) rfl ?_);refine sC (some 24) Tryd.func37 #[.int .i64 a1] (impl_decimal.calls a1 a _ l.out (by first|with_reducible exact HT|exact EnvT.below HT sb)) ?_;rintro e az ⟨rfl,hb⟩;refine⟨_,rfl,?_⟩;replace b:=sK b hb;replace HB:=sB HB hb;(try clear hb);obtain⟨aA,aB,aC,aD,aE,aF,aG,aH⟩:=cells4 b.out)|((with_reducible refine gate_callee (f:=57) rfl ?_);refine sC (some 50) Tryd.func57 #[.agg #[.int .i64 a3_0,.int .i64 a3_1,.string a3_2,.int .i64 a3_3]] (impl_Value_text.calls a3_0 a3_1 a3_2 a3_3 P _ V.out (by first|with_reducible exact HT|exact EnvT.below HT sb)) ?_;rintro e aI ⟨rfl,hb⟩;refine⟨_,rfl,?_⟩;replace b:=sK b hb;replace HB:=sB HB hb;(try clear hb)))
 go_ret
 exact⟨sq,sb⟩)
 rw[if_neg y]at H
 exact absurd H (by simp))
 rw[if_neg x]at H
 exact absurd H (by simp))
 rw[if_neg v]at H
 exact absurd H (by simp))
 rw[if_neg u]at H
 exact absurd H (by simp))
 rw[if_neg g]at H
 have c31b0:(a0==3)=false:=zN g
 have c31b1:(a0 !=3)=true:=zX g
 by_cases i:a0=4
 ·(
 rw[if_pos i]at H
 have c40b0:(a0==4)=true:=zE i
 have c40b1:(a0 !=4)=false:=zY i
 clear i
 by_cases z:a.size+2+5≤9223372036854775807
 ·(
 rw[if_pos z]at H
 have c41b0:=eq_true z
 have c41b1:=zT z
 try have c41b2:(9223372036854775807<a.size+2+5)=False:=eq_false (Nat.not_lt.2 z)
 by_cases A:a.size+2+5+a2.size≤9223372036854775807
 ·(
 rw[if_pos A]at H
 have c42b0:=eq_true A
 have c42b1:=zT A
 try have c42b2:(9223372036854775807<a.size+2+5+a2.size)=False:=eq_false (Nat.not_lt.2 A)
 obtain rfl:=zI H
 go_wp2_with (first|((with_reducible refine gate_callee (f:=37) rfl ?_);refine sC (some 24) Tryd.func37 #[.int .i64 a1] (impl_decimal.calls a1 a _ l.out (by first|with_reducible exact HT|exact EnvT.below HT sb)) ?_;rintro e aJ ⟨rfl,hb⟩;refine⟨_,rfl,?_⟩;replace b:=sK b hb;replace HB:=sB HB hb;(try clear hb)))
 go_ret
 exact⟨sq,sb⟩)
 rw[if_neg A]at H
 exact absurd H (by simp))
 rw[if_neg z]at H
 exact absurd H (by simp))
 rw[if_neg i]at H
 have c40b0:(a0==4)=false:=zN i
 have c40b1:(a0 !=4)=true:=zX i
 by_cases j:a0=5
 ·(
 rw[if_pos j]at H
 have c44b0:(a0==5)=true:=zE j
 have c44b1:(a0 !=5)=false:=zY j
 clear j
 by_cases B:a.size+2+5≤9223372036854775807
 ·(
 rw[if_pos B]at H
 have c45b0:=eq_true B
 have c45b1:=zT B
 try have c45b2:(9223372036854775807<a.size+2+5)=False:=eq_false (Nat.not_lt.2 B)
 by_cases C:a.size+2+5+a2.size≤9223372036854775807
 ·(
 rw[if_pos C]at H
 have c46b0:=eq_true C
 have c46b1:=zT C
 try have c46b2:(9223372036854775807<a.size+2+5+a2.size)=False:=eq_false (Nat.not_lt.2 C)
 obtain rfl:=zI H
 go_wp2_with (first|((with_reducible refine gate_callee (f:=37) rfl ?_);refine sC (some 24) Tryd.func37 #[.int .i64 a1] (impl_decimal.calls a1 a _ l.out (by first|with_reducible exact HT|exact EnvT.below HT sb)) ?_;rintro e aK ⟨rfl,hb⟩;refine⟨_,rfl,?_⟩;replace b:=sK b hb;replace HB:=sB HB hb;(try clear hb)))
 go_ret
 exact⟨sq,sb⟩)
 rw[if_neg C]at H
 exact absurd H (by simp))
 rw[if_neg B]at H
 exact absurd H (by simp))
 rw[if_neg j]at H
 have c44b0:(a0==5)=false:=zN j
 have c44b1:(a0 !=5)=true:=zX j
 obtain rfl:=zI H
 go_wp2_with (first|((with_reducible refine gate_callee (f:=37) rfl ?_);refine sC (some 24) Tryd.func37 #[.int .i64 a1] (impl_decimal.calls a1 a _ l.out (by first|with_reducible exact HT|exact EnvT.below HT sb)) ?_;rintro e aL ⟨rfl,hb⟩;refine⟨_,rfl,?_⟩;replace b:=sK b hb;replace HB:=sB HB hb;(try clear hb)))
 go_ret
 exact⟨sq,sb⟩)
 rw[if_neg m]at H
 exact absurd H (by simp)))
end
end Go.Proofs.YtjmojijopammjaaDoor.PFnExactCaptureText
