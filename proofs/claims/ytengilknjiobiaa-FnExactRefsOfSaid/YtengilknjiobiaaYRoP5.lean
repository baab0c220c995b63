/- Printed functions: spec_ValidValue, spec_l07ValidValues, spec_l07FieldNames. -/
import Derived.Test.YtengilknjiobiaaYRoP0
import Derived.Test.YtengilknjiobiaaYRoPE
import Derived.Test.YtengilknjiobiaaYRoP3
import Derived.Test.YtengilknjiobiaaYRoP4
import Derived.Test.YtengilknjiobiaaYRoP6
namespace Go.Proofs.Ytengilknjiobiaa.PFnExactRefsOf
open Go.RowKit Go.Proofs.YtengilknjiobiaaG Go.Proofs.YtengilknjiobiaaW.PrintWords Go.Proofs.YtengilknjiobiaaW.PrintLast Go.Proofs.YtengilknjiobiaaW.PrintMore
attribute [local go_sem] max2_int min2_int max_two min_two max_three min_three max_four min_four
set_option linter.unusedVariables false
set_option linter.unusedSimpArgs false
section
attribute [local go_sem high] eqA29
mutual
def spec_ValidValue.j0 : Nat → Int → Bool → Int → Int → ByteArray → Int → Option (Bool)
 |0,_,_,_,_,_,_=>none
 |k+1,x4,x34,x139000,x139001,x139002,x139003=>if x34=true then((spec_l06Plain.f x139000 x139001 x139002 x139003 false false true).bind fun t144=>(if t144=true then((spec_l00In.f x139003 1 1000000).bind fun t145=>(some t145))else(some false)))else(if x4=7 then(spec_ValidValue.j1 k (x4==7) x139000 x139001 x139002 x139003)else(spec_ValidValue.j1 k (x4==8) x139000 x139001 x139002 x139003))
def spec_ValidValue.j1 : Nat → Bool → Int → Int → ByteArray → Int → Option (Bool)
 |0,_,_,_,_,_=>none
 |k+1,x45,x139000,x139001,x139002,x139003=>if x45=true then((spec_l06Plain.f x139000 x139001 x139002 x139003 false true false).bind fun t146=>(if t146=true then((spec_IsName.f k x139002).bind fun t147=>(some t147))else(some false)))else(some false)
end
def spec_ValidValue.f (k:Nat) (a0_0:Int) (a0_1:Int) (a0_2:ByteArray) (a0_3:Int):Option (Bool):=if a0_0=1 then((spec_l06Plain.f a0_0 a0_1 a0_2 a0_3 false true false).bind fun t139=>(if t139=true then(some (decide ((a0_2.size:Int)≤200)))else(some false)))else(if a0_0=2 then((spec_l06Plain.f a0_0 a0_1 a0_2 a0_3 true false false).bind fun t140=>(if t140=true then((spec_l00In.f a0_1 (-1000000000000) 1000000000000).bind fun t141=>(some t141))else(some false)))else(if a0_0=3 then((spec_l06Plain.f a0_0 a0_1 a0_2 a0_3 false true false).bind fun t142=>(if t142=true then((spec_l00In.f (a0_2.size:Int) 1 1200).bind fun t143=>(some t143))else(some false)))else(if a0_0=4 then(spec_ValidValue.j0 k a0_0 (a0_0==4) a0_0 a0_1 a0_2 a0_3)else(if a0_0=5 then(spec_ValidValue.j0 k a0_0 (a0_0==5) a0_0 a0_1 a0_2 a0_3)else(spec_ValidValue.j0 k a0_0 (a0_0==6) a0_0 a0_1 a0_2 a0_3)))))
set_option maxHeartbeats 8000000 in
set_option maxRecDepth 100000 in
theorem spec_ValidValue.calls (k:Nat) (a0_0:Int) (a0_1:Int) (a0_2:ByteArray) (a0_3:Int) (r:Bool) (w:World) (h:spec_ValidValue.f k a0_0 a0_1 a0_2 a0_3=some r):
  Calls Try.prog 85 #[.agg #[.int .i64 a0_0,.int .i64 a0_1,.string a0_2,.int .i64 a0_3]] w fun e w'=>e= .returned (.bool r)∧Below w.heap.size w w':=by
 have ai:=Try.underlying29
 have HB:=zM (Below.refl w.heap.size w)
 have H:(if a0_0=1 then((spec_l06Plain.f a0_0 a0_1 a0_2 a0_3 false true false).bind fun A=>(if A=true then(some (decide ((a0_2.size:Int)≤200)))else(some false)))else(if a0_0=2 then((spec_l06Plain.f a0_0 a0_1 a0_2 a0_3 true false false).bind fun B=>(if B=true then((spec_l00In.f a0_1 (-1000000000000) 1000000000000).bind fun D=>(some D))else(some false)))else(if a0_0=3 then((spec_l06Plain.f a0_0 a0_1 a0_2 a0_3 false true false).bind fun E=>(if E=true then((spec_l00In.f (a0_2.size:Int) 1 1200).bind fun F=>(some F))else(some false)))else(if a0_0=4 then(spec_ValidValue.j0 k a0_0 (a0_0==4) a0_0 a0_1 a0_2 a0_3)else(if a0_0=5 then(spec_ValidValue.j0 k a0_0 (a0_0==5) a0_0 a0_1 a0_2 a0_3)else(spec_ValidValue.j0 k a0_0 (a0_0==6) a0_0 a0_1 a0_2 a0_3))))))=some r:=h
 clear h
 by_cases b:a0_0=1
 ·(
 rw[if_pos b]at H
 have c2b0:(a0_0==1)=true:=zE b
 have c2b1:(a0_0 !=1)=false:=zY b
 clear b
 obtain⟨A,J,H⟩:=sO H
 by_cases p:A=true
 ·(
 subst p
 rewrite[if_pos rfl]at H
 obtain rfl:=zI H
 go_enter Try.func85,Try.ntmps85
 go_wp2_with (first|((with_reducible refine gate_dst (N:=1) rfl ?_);(try(refine gate_guard (by rfl) ?_;dsimp only));refine sV (N:=1) (cs:= #[.int .i64 a0_0,.int .i64 a0_1,.string a0_2,.int .i64 a0_3]) (t:=29) ?_;intro g hg w5 hbox hb;have a:=zM (hbox);have m:=sG HB hg;have n:=sG HB hg;replace HB:=sB HB hb;clear hb hbox hg;obtain⟨aj,ak,al,am,an,ao,ap,aq⟩:=cells4 a.out)|((with_reducible refine gate_callee (f:=111) rfl ?_);refine sC (some 8) Try.func111 #[.agg #[.int .i64 a0_0,.int .i64 a0_1,.string a0_2,.int .i64 a0_3],.bool false,.bool true,.bool false] (spec_l06Plain.calls a0_0 a0_1 a0_2 a0_3 false true false true _ J.out) ?_;rintro e w7 ⟨rfl,hb⟩;refine⟨_,rfl,?_⟩;replace a:=sK a hb;replace HB:=sB HB hb;(try clear hb);obtain⟨ar,au,av,aw,ax,ay,az,aA⟩:=cells4 a.out))
 go_ret
 exact⟨sq,sb⟩)
 replace p:=zB p
 subst p
 rewrite[if_neg zQ]at H
 obtain rfl:=zI H
 go_enter Try.func85,Try.ntmps85
 go_wp2_with (first|((with_reducible refine gate_dst (N:=1) rfl ?_);(try(refine gate_guard (by rfl) ?_;dsimp only));refine sV (N:=1) (cs:= #[.int .i64 a0_0,.int .i64 a0_1,.string a0_2,.int .i64 a0_3]) (t:=29) ?_;intro g hg w9 hbox hb;have a:=zM (hbox);have m:=sG HB hg;have n:=sG HB hg;replace HB:=sB HB hb;clear hb hbox hg;obtain⟨aB,aC,aD,aE,aF,aG,aH,aI⟩:=cells4 a.out)|((with_reducible refine gate_callee (f:=111) rfl ?_);refine sC (some 8) Try.func111 #[.agg #[.int .i64 a0_0,.int .i64 a0_1,.string a0_2,.int .i64 a0_3],.bool false,.bool true,.bool false] (spec_l06Plain.calls a0_0 a0_1 a0_2 a0_3 false true false false _ J.out) ?_;rintro e aJ ⟨rfl,hb⟩;refine⟨_,rfl,?_⟩;replace a:=sK a hb;replace HB:=sB HB hb;(try clear hb)))
 go_ret
 exact⟨sq,sb⟩)
 rw[if_neg b]at H
 have c2b0:(a0_0==1)=false:=zN b
 have c2b1:(a0_0 !=1)=true:=zX b
 by_cases c:a0_0=2
 ·(
 rw[if_pos c]at H
 have c12b0:(a0_0==2)=true:=zE c
 have c12b1:(a0_0 !=2)=false:=zY c
 clear c
 obtain⟨B,K,H⟩:=sO H
 by_cases q:B=true
 ·(
 subst q
 rewrite[if_pos rfl]at H
 obtain⟨D,Y,H⟩:=sO H
 obtain rfl:=zI H
 go_enter Try.func85,Try.ntmps85
 go_wp2_with (first|((with_reducible refine gate_dst (N:=1) rfl ?_);(try(refine gate_guard (by rfl) ?_;dsimp only));refine sV (N:=1) (cs:= #[.int .i64 a0_0,.int .i64 a0_1,.string a0_2,.int .i64 a0_3]) (t:=29) ?_;intro g hg aK hbox hb;have a:=zM (hbox);have m:=sG HB hg;have n:=sG HB hg;replace HB:=sB HB hb;clear hb hbox hg;obtain⟨aL,aM,aN,aO,aP,aQ,aR,aS⟩:=cells4 a.out)|((with_reducible refine gate_callee (f:=111) rfl ?_);refine sC (some 18) Try.func111 #[.agg #[.int .i64 a0_0,.int .i64 a0_1,.string a0_2,.int .i64 a0_3],.bool true,.bool false,.bool false] (spec_l06Plain.calls a0_0 a0_1 a0_2 a0_3 true false false true _ K.out) ?_;rintro e aT ⟨rfl,hb⟩;refine⟨_,rfl,?_⟩;replace a:=sK a hb;replace HB:=sB HB hb;(try clear hb);obtain⟨aU,aV,aW,aX,aY,aZ,a0,a2⟩:=cells4 a.out)|(go_at_call 77;(with_reducible refine(spec_l00In.calls a0_1 (-1000000000000) 1000000000000 D _ Y.out).mono ?_);rintro e w' ⟨rfl,⟨nd,rfl⟩⟩))
 go_ret
 exact⟨sq,sb⟩)
 replace q:=zB q
 subst q
 rewrite[if_neg zQ]at H
 obtain rfl:=zI H
 go_enter Try.func85,Try.ntmps85
 go_wp2_with (first|((with_reducible refine gate_dst (N:=1) rfl ?_);(try(refine gate_guard (by rfl) ?_;dsimp only));refine sV (N:=1) (cs:= #[.int .i64 a0_0,.int .i64 a0_1,.string a0_2,.int .i64 a0_3]) (t:=29) ?_;intro g hg a3 hbox hb;have a:=zM (hbox);have m:=sG HB hg;have n:=sG HB hg;replace HB:=sB HB hb;clear hb hbox hg;obtain⟨a4,a5,a6,a7,a8,a9,ba,bb⟩:=cells4 a.out)|((with_reducible refine gate_callee (f:=111) rfl ?_);refine sC (some 18) Try.func111 #[.agg #[.int .i64 a0_0,.int .i64 a0_1,.string a0_2,.int .i64 a0_3],.bool true,.bool false,.bool false] (spec_l06Plain.calls a0_0 a0_1 a0_2 a0_3 true false false false _ K.out) ?_;rintro e bc ⟨rfl,hb⟩;refine⟨_,rfl,?_⟩;replace a:=sK a hb;replace HB:=sB HB hb;(try clear hb)))
 go_ret
 exact⟨sq,sb⟩)
 rw[if_neg c]at H
 have c12b0:(a0_0==2)=false:=zN c
 have c12b1:(a0_0 !=2)=true:=zX c
 by_cases d:a0_0=3
 ·(
 rw[if_pos d]at H
 have c23b0:(a0_0==3)=true:=zE d
 have c23b1:(a0_0 !=3)=false:=zY d
 clear d
 obtain⟨E,L,H⟩:=sO H
 by_cases s:E=true
 ·(
 subst s
 rewrite[if_pos rfl]at H
 obtain⟨F,Z,H⟩:=sO H
 obtain rfl:=zI H
 go_enter Try.func85,Try.ntmps85
 go_wp2_with (first|((with_reducible refine gate_dst (N:=1) rfl ?_);(try(refine gate_guard (by rfl) ?_;dsimp only));refine sV (N:=1) (cs:= #[.int .i64 a0_0,.int .i64 a0_1,.string a0_2,.int .i64 a0_3]) (t:=29) ?_;intro g hg bd hbox hb;have a:=zM (hbox);have m:=sG HB hg;have n:=sG HB hg;replace HB:=sB HB hb;clear hb hbox hg;obtain⟨be,bf,bg,bh,bi,bj,bk,bl⟩:=cells4 a.out)|((with_reducible refine gate_callee (f:=111) rfl ?_);refine sC (some 27) Try.func111 #[.agg #[.int .i64 a0_0,.int .i64 a0_1,.string a0_2,.int .i64 a0_3],.bool false,.bool true,.bool false] (spec_l06Plain.calls a0_0 a0_1 a0_2 a0_3 false true false true _ L.out) ?_;rintro e bm ⟨rfl,hb⟩;refine⟨_,rfl,?_⟩;replace a:=sK a hb;replace HB:=sB HB hb;(try clear hb);obtain⟨bn,bo,bp,bq,br,bs,bt,bu⟩:=cells4 a.out)|(go_at_call 77;(with_reducible refine(spec_l00In.calls (a0_2.size:Int) 1 1200 F _ Z.out).mono ?_);rintro e w' ⟨rfl,⟨nd,rfl⟩⟩))
 go_ret
 exact⟨sq,sb⟩)
 replace s:=zB s
 subst s
 rewrite[if_neg zQ]at H
 obtain rfl:=zI H
 go_enter Try.func85,Try.ntmps85
 go_wp2_with (first|((with_reducible refine gate_dst (N:=1) rfl ?_);(try(refine gate_guard (by rfl) ?_;dsimp only));refine sV (N:=1) (cs:= #[.int .i64 a0_0,.int .i64 a0_1,.string a0_2,.int .i64 a0_3]) (t:=29) ?_;intro g hg bv hbox hb;have a:=zM (hbox);have m:=sG HB hg;have n:=sG HB hg;replace HB:=sB HB hb;clear hb hbox hg;obtain⟨bw,bx,bz,bA,bB,bC,bD,bE⟩:=cells4 a.out)|((with_reducible refine gate_callee (f:=111) rfl ?_);refine sC (some 27) Try.func111 #[.agg #[.int .i64 a0_0,.int .i64 a0_1,.string a0_2,.int .i64 a0_3],.bool false,.bool true,.bool false] (spec_l06Plain.calls a0_0 a0_1 a0_2 a0_3 false true false false _ L.out) ?_;rintro e bF ⟨rfl,hb⟩;refine⟨_,rfl,?_⟩;replace a:=sK a hb;replace HB:=sB HB hb;(try clear hb)))
 go_ret
 exact⟨sq,sb⟩)
 rw[if_neg d]at H
 have c23b0:(a0_0==3)=false:=zN d
 have c23b1:(a0_0 !=3)=true:=zX d
 have G:=zM H
 clear H
 go_enter Try.func85,Try.ntmps85
 go_upto_if 34 with(first|((with_reducible refine gate_dst (N:=1) rfl ?_);(try(refine gate_guard (by rfl) ?_;dsimp only));refine sV (N:=1) (cs:= #[.int .i64 a0_0,.int .i64 a0_1,.string a0_2,.int .i64 a0_3]) (t:=29) ?_;intro g hg bG hbox hb;have a:=zM (hbox);have m:=sG HB hg;have n:=sG HB hg;replace HB:=sB HB hb;clear hb hbox hg;obtain⟨M,O,P,Q,R,S,T,U⟩:=cells4 a.out))
 (try simp only[zP])
 go_cut [34] (fun aa wc=>∃(kq:Nat) (u:Bool),aa= .bool u∧Aside0 (spec_ValidValue.j0 kq a0_0 u a0_0 a0_1 a0_2 a0_3=some r)∧Aside0 (kq≤k)∧Aside0 (wc.heap[g]?=some (.cells #[.int .i64 a0_0,.int .i64 a0_1,.string a0_2,.int .i64 a0_3] 29 (0,0)))∧Aside0 (Below w.heap.size w wc))
 case first=>(
 have H:=G.out
 clear G
 by_cases i:a0_0=4
 ·(
 rw[if_pos i]at H
 have c37b0:(a0_0==4)=true:=zE i
 have c37b1:(a0_0 !=4)=false:=zY i
 clear i
 (first|rw[c37b0]|(simp only[i64_w,i32_w];rw[c37b0])|rw[c37b2]|skip)
 have H':=zM H
 clear H
 go_wp2
 go_meet
 case rel=>exact⟨_,((a0_0==4)),sr,H',⟨by first|omega|exact Nat.le_refl _⟩,⟨by exact sT a.out⟩,⟨sb⟩⟩)
 rw[if_neg i]at H
 have c37b0:(a0_0==4)=false:=zN i
 have c37b1:(a0_0 !=4)=true:=zX i
 (first|rw[c37b0]|(simp only[i64_w,i32_w];rw[c37b0])|rw[c37b2]|skip)
 by_cases j:a0_0=5
 ·(
 rw[if_pos j]at H
 have c38b0:(a0_0==5)=true:=zE j
 have c38b1:(a0_0 !=5)=false:=zY j
 clear j
 have H':=zM H
 clear H
 go_wp2
 go_meet
 case rel=>exact⟨_,((a0_0==5)),sr,H',⟨by first|omega|exact Nat.le_refl _⟩,⟨by exact sT a.out⟩,⟨sb⟩⟩)
 rw[if_neg j]at H
 have c38b0:(a0_0==5)=false:=zN j
 have c38b1:(a0_0 !=5)=true:=zX j
 have H':=zM H
 clear H
 go_wp2
 go_meet
 case rel=>exact⟨_,((a0_0==6)),sr,H',⟨by first|omega|exact Nat.le_refl _⟩,⟨by exact sT a.out⟩,⟨sb⟩⟩)
 case rest=>(
 clear G
 try clear b
 try clear c2b0
 try clear c2b1
 try clear c
 try clear c12b0
 try clear c12b1
 try clear d
 try clear c23b0
 try clear c23b1
 try clear M
 try clear O
 try clear P
 try clear Q
 try clear R
 try clear S
 try clear T
 try clear U
 obtain⟨kq,u,rfl,HA,V,a,HB⟩:=hcut
 cases kq with
 |zero=>exact absurd HA.out (by simp[spec_ValidValue.j0])
 |succ kj33=>(
 have H:=HA.out
 clear HA
 simp only[spec_ValidValue.j0]at H
 by_cases o:u=true
 ·(
 subst o
 rewrite[if_pos rfl]at H
 obtain⟨ab,W,H⟩:=sO H
 by_cases v:ab=true
 ·(
 subst v
 rewrite[if_pos rfl]at H
 obtain⟨ac,ad,H⟩:=sO H
 obtain rfl:=zI H
 obtain⟨bH,bI,bJ,bK,bL,bM,bN,bO⟩:=cells4 a.out
 go_wp2_with (first|((with_reducible refine gate_callee (f:=111) rfl ?_);refine sC (some 39) Try.func111 #[.agg #[.int .i64 a0_0,.int .i64 a0_1,.string a0_2,.int .i64 a0_3],.bool false,.bool false,.bool true] (spec_l06Plain.calls a0_0 a0_1 a0_2 a0_3 false false true true _ W.out) ?_;rintro e bP ⟨rfl,hb⟩;refine⟨_,rfl,?_⟩;replace a:=sK a hb;replace HB:=sB HB hb;(try clear hb);obtain⟨bQ,bR,bS,bT,bU,bV,bW,bX⟩:=cells4 a.out)|(go_at_call 77;(with_reducible refine(spec_l00In.calls a0_3 1 1000000 ac _ ad.out).mono ?_);rintro e w' ⟨rfl,⟨nd,rfl⟩⟩))
 go_ret
 exact⟨sq,sb⟩)
 replace v:=zB v
 subst v
 rewrite[if_neg zQ]at H
 obtain rfl:=zI H
 obtain⟨bY,bZ,b0,b1,b2,b3,b4,b5⟩:=cells4 a.out
 go_wp2_with (first|((with_reducible refine gate_callee (f:=111) rfl ?_);refine sC (some 39) Try.func111 #[.agg #[.int .i64 a0_0,.int .i64 a0_1,.string a0_2,.int .i64 a0_3],.bool false,.bool false,.bool true] (spec_l06Plain.calls a0_0 a0_1 a0_2 a0_3 false false true false _ W.out) ?_;rintro e b6 ⟨rfl,hb⟩;refine⟨_,rfl,?_⟩;replace a:=sK a hb;replace HB:=sB HB hb;(try clear hb)))
 go_ret
 exact⟨sq,sb⟩)
 replace o:=zB o
 subst o
 rewrite[if_neg zQ]at H
 have I:=zM H
 clear H
 go_upto_if 45 with(fail)
 go_cut [45] (fun ae wc=>∃(kq:Nat) (x:Bool),ae= .bool x∧Aside0 (spec_ValidValue.j1 kq x a0_0 a0_1 a0_2 a0_3=some r)∧Aside0 (kq≤kj33)∧Aside0 (wc.heap[g]?=some (.cells #[.int .i64 a0_0,.int .i64 a0_1,.string a0_2,.int .i64 a0_3] 29 (0,0)))∧Aside0 (Below w.heap.size w wc))
 case first=>(
 have H:=I.out
 clear I
 by_cases l:a0_0=7
 ·(
 rw[if_pos l]at H
 have c49b0:(a0_0==7)=true:=zE l
 have c49b1:(a0_0 !=7)=false:=zY l
 clear l
 (first|rw[c49b0]|(simp only[i64_w,i32_w];rw[c49b0])|rw[c49b2]|skip)
 have H':=zM H
 clear H
 go_wp2
 go_meet
 case rel=>exact⟨_,((a0_0==7)),sr,H',⟨by have:=V.out;first|omega|exact Nat.le_refl _⟩,⟨by exact sT a.out⟩,⟨sb⟩⟩)
 rw[if_neg l]at H
 have c49b0:(a0_0==7)=false:=zN l
 have c49b1:(a0_0 !=7)=true:=zX l
 (first|rw[c49b0]|(simp only[i64_w,i32_w];rw[c49b0])|rw[c49b2]|skip)
 have H':=zM H
 clear H
 go_wp2
 go_meet
 case rel=>exact⟨_,((a0_0==8)),sr,H',⟨by have:=V.out;first|omega|exact Nat.le_refl _⟩,⟨by exact sT a.out⟩,⟨sb⟩⟩)
 case rest=>(
 clear I
 try clear b
 try clear c2b0
 try clear c2b1
 try clear c
 try clear c12b0
 try clear c12b1
 try clear d
 try clear c23b0
 try clear c23b1
 try clear o
 try clear M
 try clear O
 try clear P
 try clear Q
 try clear R
 try clear S
 try clear T
 try clear U
 obtain⟨kq,x,rfl,HA,b7,a,HB⟩:=hcut
 cases kq with
 |zero=>exact absurd HA.out (by simp[spec_ValidValue.j1])
 |succ kj47=>(
 have H:=HA.out
 clear HA
 simp only[spec_ValidValue.j1]at H
 by_cases y:x=true
 ·(
 subst y
 rewrite[if_pos rfl]at H
 obtain⟨af,X,H⟩:=sO H
 by_cases z:af=true
 ·(
 subst z
 rewrite[if_pos rfl]at H
 obtain⟨ag,ah,H⟩:=sO H
 obtain rfl:=zI H
 obtain⟨b8,b9,ca,cb,cc,cd,ce,cf⟩:=cells4 a.out
 go_wp2_with (first|((with_reducible refine gate_callee (f:=111) rfl ?_);refine sC (some 49) Try.func111 #[.agg #[.int .i64 a0_0,.int .i64 a0_1,.string a0_2,.int .i64 a0_3],.bool false,.bool true,.bool false] (spec_l06Plain.calls a0_0 a0_1 a0_2 a0_3 false true false true _ X.out) ?_;rintro e cg ⟨rfl,hb⟩;refine⟨_,rfl,?_⟩;replace a:=sK a hb;replace HB:=sB HB hb;(try clear hb);obtain⟨ch,ci,cj,ck,cl,cm,cn,co⟩:=cells4 a.out)|(go_at_call 86;(with_reducible refine(spec_IsName.calls kj47 a0_2 ag _ ah.out).mono ?_);rintro e w' ⟨rfl,⟨nd,rfl⟩⟩))
 go_ret
 exact⟨sq,sb⟩)
 replace z:=zB z
 subst z
 rewrite[if_neg zQ]at H
 obtain rfl:=zI H
 obtain⟨cp,cq,cr,ct,cu,cv,cw,cx⟩:=cells4 a.out
 go_wp2_with (first|((with_reducible refine gate_callee (f:=111) rfl ?_);refine sC (some 49) Try.func111 #[.agg #[.int .i64 a0_0,.int .i64 a0_1,.string a0_2,.int .i64 a0_3],.bool false,.bool true,.bool false] (spec_l06Plain.calls a0_0 a0_1 a0_2 a0_3 false true false false _ X.out) ?_;rintro e cy ⟨rfl,hb⟩;refine⟨_,rfl,?_⟩;replace a:=sK a hb;replace HB:=sB HB hb;(try clear hb)))
 go_ret
 exact⟨sq,sb⟩)
 replace y:=zB y
 subst y
 rewrite[if_neg zQ]at H
 obtain rfl:=zI H
 go_wp2
 go_ret
 exact⟨sq,sb⟩))))
end
section
attribute [local go_sem high] eqA29
def spec_l07ValidValues.l0 : Nat → List (S29) → Int → Option (Bool)
 |0,_,_=>none
 |k+1,x0,x5=>if x5<(x0.length:Int)then(if 0≤x5 then((spec_ValidValue.f k ((rd_T29 x0 x5).f0) ((rd_T29 x0 x5).f1) ((rd_T29 x0 x5).f2) ((rd_T29 x0 x5).f3)).bind fun t149=>(if t149=true then(spec_l07ValidValues.l0 k x0 (wrap64 (x5+1)))else(some false)))else(none))else(some true)
def spec_l07ValidValues.f (k:Nat) (l0:List (S29)) (a1:Int):Option (Bool):=if(l0.length:Int)>a1 then(some false)else(spec_l07ValidValues.l0 k l0 0)
set_option maxHeartbeats 8000000 in
set_option maxRecDepth 100000 in
theorem spec_l07ValidValues.calls (k:Nat) (A0:Option Addr) (c0:Nat) (l0:List (S29)) (a1:Int) (r:Bool) (w:World) (hr0:Kd.C k29 w A0 l0.length l0) (hc0:l0.length≤c0) (h:spec_l07ValidValues.f k l0 a1=some r):
  Calls Try.prog 83 #[.slice A0 l0.length c0,.int .i64 a1] w fun e w'=>e= .returned (.bool r)∧Below w.heap.size w w':=by
 have z:=Try.underlying29
 have q:=zM hr0
 have A:=zM hc0
 clear hr0 hc0
 have HB:=zM (Below.refl w.heap.size w)
 have H:(if(l0.length:Int)>a1 then(some false)else(spec_l07ValidValues.l0 k l0 0))=some r:=h
 clear h
 by_cases b:(l0.length:Int)>a1
 ·(
 rw[if_pos b]at H
 have c3b0:decide (a1<(l0.length:Int))=true:=zT b
 clear b
 obtain rfl:=zI H
 go_enter Try.func83,Try.ntmps83
 go_wp2
 go_ret
 exact⟨sq,sb⟩)
 rw[if_neg b]at H
 have c3b0:decide (a1<(l0.length:Int))=false:=zF b
 clear b
 have H':=zM H
 clear H
 go_enter Try.func83,Try.ntmps83
 go_wp2
 go_loopg [5] k (fun kq v w'=>∃(a:Int),v= .int .i64 a∧Aside0 (spec_l07ValidValues.l0 kq l0 a=some r)∧Aside0 (kq≤k)∧Aside0 (Below w.heap.size w w'))
 case atStart=>exact⟨(0),sr,H',⟨Nat.le_refl _⟩,⟨sb⟩⟩
 case round=>(
 clear H'
 try clear b
 try clear c3b0
 obtain⟨a,rfl,HA,s,HB⟩:=hrel
 cases gk with
 |zero=>exact absurd HA.out (by simp[spec_l07ValidValues.l0])
 |succ k1=>(
 have H:=HA.out
 clear HA
 simp only[spec_l07ValidValues.l0]at H
 by_cases g:a<(l0.length:Int)
 ·(
 rw[if_pos g]at H
 have c4b0:=zT g
 clear g
 by_cases n:0≤a
 ·(
 rw[if_pos n]at H
 have c5b0:=zT n
 clear n
 obtain⟨x,u,H⟩:=sO H
 by_cases o:x=true
 ·(
 subst o
 rewrite[if_pos rfl]at H
 have H':=zM H
 clear H
 have c:0≤(a:Int):=zzA
 have d:a<(l0.length:Int):=zzA
 obtain⟨y,p,i,j,l,m⟩:=at_T29 q.out a c d
 cases p
 replace i:=sX HB i
 replace j:=sX HB j
 replace l:=sX HB l
 replace m:=sX HB m
 replace c:=eq_true c
 replace d:=eq_true d
 go_wp2_with (first|((with_reducible refine gate_callee (f:=85) rfl ?_);refine sC (some 20) Try.func85 #[.agg #[.int .i64 ((rd_T29 l0 a).f0),.int .i64 ((rd_T29 l0 a).f1),.string ((rd_T29 l0 a).f2),.int .i64 ((rd_T29 l0 a).f3)]] (spec_ValidValue.calls k1 ((rd_T29 l0 a).f0) ((rd_T29 l0 a).f1) ((rd_T29 l0 a).f2) ((rd_T29 l0 a).f3) true _ u.out) ?_;rintro e B ⟨rfl,hb⟩;refine⟨_,rfl,?_⟩;replace HB:=sB HB hb;(try clear hb)))
 go_roundg k1
 case measure=>have:=s.out;omega
 case rel=>exact⟨(wrap64 (a+1)),sr,H',⟨by have:=s.out;omega⟩,⟨sb⟩⟩)
 replace o:=zB o
 subst o
 rewrite[if_neg zQ]at H
 obtain rfl:=zI H
 have c:0≤(a:Int):=zzA
 have d:a<(l0.length:Int):=zzA
 obtain⟨y,p,i,j,l,m⟩:=at_T29 q.out a c d
 cases p
 replace i:=sX HB i
 replace j:=sX HB j
 replace l:=sX HB l
 replace m:=sX HB m
 replace c:=eq_true c
 replace d:=eq_true d
 go_wp2_with (first|((with_reducible refine gate_callee (f:=85) rfl ?_);refine sC (some 20) Try.func85 #[.agg #[.int .i64 ((rd_T29 l0 a).f0),.int .i64 ((rd_T29 l0 a).f1),.string ((rd_T29 l0 a).f2),.int .i64 ((rd_T29 l0 a).f3)]] (spec_ValidValue.calls k1 ((rd_T29 l0 a).f0) ((rd_T29 l0 a).f1) ((rd_T29 l0 a).f2) ((rd_T29 l0 a).f3) false _ u.out) ?_;rintro e D ⟨rfl,hb⟩;refine⟨_,rfl,?_⟩;replace HB:=sB HB hb;(try clear hb)))
 go_ret
 exact⟨sq,sb⟩)
 rw[if_neg n]at H
 exact absurd H (by simp))
 rw[if_neg g]at H
 have c4b0:=zF g
 clear g
 obtain rfl:=zI H
 go_wp2
 go_ret
 exact⟨sq,sb⟩))
end
section
attribute [local go_sem high] eqA29
def spec_l07FieldNames.l0 : Nat → List (S29) → Int → Option (Bool)
 |0,_,_=>none
 |k+1,x0,x3=>if x3<(x0.length:Int)then(if 0≤x3 then(if((rd_T29 x0 x3).f0)=1 then((spec_IsName.f k ((rd_T29 x0 x3).f2)).bind fun t157=>(if t157=true then(spec_l07FieldNames.l0 k x0 (wrap64 (x3+1)))else(some false)))else(some false))else(none))else(if(x0.length:Int)≥1 then((spec_l07ValidValues.f k x0 6).bind fun t158=>(if t158=true then((spec_l07Distinct.f k x0).bind fun t159=>(some t159))else(some false)))else(some false))
def spec_l07FieldNames.f (k:Nat) (l0:List (S29)):Option (Bool):=spec_l07FieldNames.l0 k l0 0
set_option maxHeartbeats 8000000 in
set_option maxRecDepth 100000 in
theorem spec_l07FieldNames.calls (k:Nat) (A0:Option Addr) (c0:Nat) (l0:List (S29)) (r:Bool) (w:World) (hr0:Kd.C k29 w A0 l0.length l0) (hc0:l0.length≤c0) (h:spec_l07FieldNames.f k l0=some r):
  Calls Try.prog 87 #[.slice A0 l0.length c0] w fun e w'=>e= .returned (.bool r)∧Below w.heap.size w w':=by
 have d:=zM hr0
 have E:=zM hc0
 clear hr0 hc0
 have HB:=zM (Below.refl w.heap.size w)
 have H:(spec_l07FieldNames.l0 k l0 0)=some r:=h
 clear h
 have H':=zM H
 clear H
 go_enter Try.func87,Try.ntmps87
 go_wp2
 go_loopg [3] k (fun kq K w'=>∃(a:Int),K= .int .i64 a∧Aside0 (spec_l07FieldNames.l0 kq l0 a=some r)∧Aside0 (kq≤k)∧Aside0 (Below w.heap.size w w'))
 case atStart=>exact⟨(0),sr,H',⟨Nat.le_refl _⟩,⟨sb⟩⟩
 case round=>(
 clear H'
 obtain⟨a,rfl,HA,G,HB⟩:=hrel
 cases gk with
 |zero=>exact absurd HA.out (by simp[spec_l07FieldNames.l0])
 |succ k1=>(
 have H:=HA.out
 clear HA
 simp only[spec_l07FieldNames.l0]at H
 by_cases p:a<(l0.length:Int)
 ·(
 rw[if_pos p]at H
 have c2b0:=zT p
 clear p
 by_cases z:0≤a
 ·(
 rw[if_pos z]at H
 have c3b0:=zT z
 clear z
 by_cases m:((rd_T29 l0 a).f0)=1
 ·(
 rw[if_pos m]at H
 have c4b0:(((rd_T29 l0 a).f0)==1)=true:=zE m
 have c4b1:(((rd_T29 l0 a).f0) !=1)=false:=zY m
 clear m
 obtain⟨L,I,H⟩:=sO H
 by_cases A:L=true
 ·(
 subst A
 rewrite[if_pos rfl]at H
 have H':=zM H
 clear H
 have b:0≤(a:Int):=zzA
 have c:a<(l0.length:Int):=zzA
 obtain⟨B,s,g,i,j,l⟩:=at_T29 d.out a b c
 cases s
 replace g:=sX HB g
 replace i:=sX HB i
 replace j:=sX HB j
 replace l:=sX HB l
 replace b:=eq_true b
 replace c:=eq_true c
 have n:0≤(a:Int):=zzA
 have o:a<(l0.length:Int):=zzA
 obtain⟨ad156,F,u,v,x,y⟩:=at_T29 d.out a n o
 obtain rfl:B=ad156:=(by injection F)
 replace u:=sX HB u
 replace v:=sX HB v
 replace x:=sX HB x
 replace y:=sX HB y
 replace n:=eq_true n
 replace o:=eq_true o
 go_wp2_with (first|(go_at_call 86;(with_reducible refine(spec_IsName.calls k1 ((rd_T29 l0 a).f2) true _ I.out).mono ?_);rintro e w' ⟨rfl,⟨nd,rfl⟩⟩))
 go_roundg k1
 case measure=>have:=G.out;omega
 case rel=>exact⟨(wrap64 (a+1)),sr,H',⟨by have:=G.out;omega⟩,⟨sb⟩⟩)
 replace A:=zB A
 subst A
 rewrite[if_neg zQ]at H
 obtain rfl:=zI H
 have b:0≤(a:Int):=zzA
 have c:a<(l0.length:Int):=zzA
 obtain⟨B,s,g,i,j,l⟩:=at_T29 d.out a b c
 cases s
 replace g:=sX HB g
 replace i:=sX HB i
 replace j:=sX HB j
 replace l:=sX HB l
 replace b:=eq_true b
 replace c:=eq_true c
 have n:0≤(a:Int):=zzA
 have o:a<(l0.length:Int):=zzA
 obtain⟨ad156,F,u,v,x,y⟩:=at_T29 d.out a n o
 obtain rfl:B=ad156:=(by injection F)
 replace u:=sX HB u
 replace v:=sX HB v
 replace x:=sX HB x
 replace y:=sX HB y
 replace n:=eq_true n
 replace o:=eq_true o
 go_wp2_with (first|(go_at_call 86;(with_reducible refine(spec_IsName.calls k1 ((rd_T29 l0 a).f2) false _ I.out).mono ?_);rintro e w' ⟨rfl,⟨nd,rfl⟩⟩))
 go_ret
 exact⟨sq,sb⟩)
 rw[if_neg m]at H
 have c4b0:(((rd_T29 l0 a).f0)==1)=false:=zN m
 have c4b1:(((rd_T29 l0 a).f0) !=1)=true:=zX m
 obtain rfl:=zI H
 have b:0≤(a:Int):=zzA
 have c:a<(l0.length:Int):=zzA
 obtain⟨B,s,g,i,j,l⟩:=at_T29 d.out a b c
 cases s
 replace g:=sX HB g
 replace i:=sX HB i
 replace j:=sX HB j
 replace l:=sX HB l
 replace b:=eq_true b
 replace c:=eq_true c
 go_wp2
 go_ret
 exact⟨sq,sb⟩)
 rw[if_neg z]at H
 exact absurd H (by simp))
 rw[if_neg p]at H
 have c2b0:=zF p
 clear p
 by_cases q:(l0.length:Int)≥1
 ·(
 rw[if_pos q]at H
 have c7b0:decide (1≤(l0.length:Int))=true:=zT q
 have c7b1:decide (1≤l0.length)=true:=zT (by omega)
 clear q
 obtain⟨M,J,H⟩:=sO H
 by_cases D:M=true
 ·(
 subst D
 rewrite[if_pos rfl]at H
 obtain⟨O,P,H⟩:=sO H
 obtain rfl:=zI H
 go_wp2_with (first|(go_at_call 83;(with_reducible refine(spec_l07ValidValues.calls k1 _ _ l0 6 true _ ?side1 ?side2 J.out).mono ?_);(case side1=>exact sD (zC d.out HB.out));(case side2=>exact E.out);rintro e Q ⟨rfl,hb⟩;replace HB:=sB HB hb;(try clear hb))|(go_at_call 84;(with_reducible refine(spec_l07Distinct.calls k1 _ _ l0 O _ ?side1 ?side2 P.out).mono ?_);(case side1=>exact sD (zC d.out HB.out));(case side2=>exact E.out);rintro e R ⟨rfl,hb⟩;replace HB:=sB HB hb;(try clear hb)))
 go_ret
 exact⟨sq,sb⟩)
 replace D:=zB D
 subst D
 rewrite[if_neg zQ]at H
 obtain rfl:=zI H
 go_wp2_with (first|(go_at_call 83;(with_reducible refine(spec_l07ValidValues.calls k1 _ _ l0 6 false _ ?side1 ?side2 J.out).mono ?_);(case side1=>exact sD (zC d.out HB.out));(case side2=>exact E.out);rintro e S ⟨rfl,hb⟩;replace HB:=sB HB hb;(try clear hb)))
 go_ret
 exact⟨sq,sb⟩)
 rw[if_neg q]at H
 have c7b0:decide (1≤(l0.length:Int))=false:=zF q
 have c7b1:decide (1≤l0.length)=false:=zF (by omega)
 clear q
 obtain rfl:=zI H
 go_wp2
 go_ret
 exact⟨sq,sb⟩))
end
end Go.Proofs.Ytengilknjiobiaa.PFnExactRefsOf
