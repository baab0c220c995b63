/- Printed functions: spec_ValidIns. -/
import Derived.Test.YtcppdkdnpmgpmaaYEoP0
import Derived.Test.YtcppdkdnpmgpmaaYEoP4
import Derived.Test.YtcppdkdnpmgpmaaYEoP5
namespace Go.Proofs.Ytcppdkdnpmgpmaa.PFnExactEntryOf
open Go.RowKit Go.Proofs.YtcppdkdnpmgpmaaG Go.Proofs.YtcppdkdnpmgpmaaW.PrintWords Go.Proofs.YtcppdkdnpmgpmaaW.PrintLast Go.Proofs.YtcppdkdnpmgpmaaW.PrintMore
attribute [local go_sem] max2_int min2_int max_two min_two max_three min_three max_four min_four
set_option linter.unusedVariables false
set_option linter.unusedSimpArgs false
mutual
def spec_ValidIns.j0 : Nat → Int → Bool → Int → Int → ByteArray → Option (Bool)
 |0,_,_,_,_,_=>none
 |k+1,x4,x5,x161000,x161001,x161002=>if x5=true then(if x161001=0 then(some (x161002.toList.isEmpty))else(some false))else(if x4=32 then(spec_ValidIns.j1 k x4 (x4==32) x161000 x161001 x161002)else(if x4=33 then(spec_ValidIns.j1 k x4 (x4==33) x161000 x161001 x161002)else(spec_ValidIns.j1 k x4 (x4==37) x161000 x161001 x161002)))
def spec_ValidIns.j1 : Nat → Int → Bool → Int → Int → ByteArray → Option (Bool)
 |0,_,_,_,_,_=>none
 |k+1,x4,x18,x161000,x161001,x161002=>if x18=true then((spec_l00In.f x161001 0 12999).bind fun t161=>(if t161=true then(some (x161002.toList.isEmpty))else(some false)))else(if x4=35 then(spec_ValidIns.j2 k (x4==35) x161000 x161001 x161002)else(spec_ValidIns.j2 k (x4==36) x161000 x161001 x161002))
def spec_ValidIns.j2 : Nat → Bool → Int → Int → ByteArray → Option (Bool)
 |0,_,_,_,_=>none
 |k+1,x30,x161000,x161001,x161002=>if x30=true then(if x161001=0 then((spec_IsName.f k x161002).bind fun t162=>(some t162))else(some false))else((spec_l13Leaf.f x161000).bind fun t163=>(if t163=true then((spec_l11Node.f k x161000 x161001 x161002 ([]:List (S75))).bind fun t164=>(some t164))else(some false)))
end
def spec_ValidIns.f (k:Nat) (a0_0:Int) (a0_1:Int) (a0_2:ByteArray):Option (Bool):=if a0_0=31 then(spec_ValidIns.j0 k a0_0 (a0_0==31) a0_0 a0_1 a0_2)else(if a0_0=34 then(spec_ValidIns.j0 k a0_0 (a0_0==34) a0_0 a0_1 a0_2)else(if a0_0=38 then(spec_ValidIns.j0 k a0_0 (a0_0==38) a0_0 a0_1 a0_2)else(spec_ValidIns.j0 k a0_0 (a0_0==39) a0_0 a0_1 a0_2)))
set_option maxHeartbeats 8000000 in
set_option maxRecDepth 100000 in
theorem spec_ValidIns.calls (k:Nat) (a0_0:Int) (a0_1:Int) (a0_2:ByteArray) (r:Bool) (w:World) (h:spec_ValidIns.f k a0_0 a0_1 a0_2=some r):
  Calls Try.prog 31 #[.agg #[.int .i64 a0_0,.int .i64 a0_1,.string a0_2]] w fun e w'=>e= .returned (.bool r)∧Below w.heap.size w w':=by
 have X:=Try.underlying55
 have Y:=Try.underlying75
 have HB:=zM (Below.refl w.heap.size w)
 have H:(if a0_0=31 then(spec_ValidIns.j0 k a0_0 (a0_0==31) a0_0 a0_1 a0_2)else(if a0_0=34 then(spec_ValidIns.j0 k a0_0 (a0_0==34) a0_0 a0_1 a0_2)else(if a0_0=38 then(spec_ValidIns.j0 k a0_0 (a0_0==38) a0_0 a0_1 a0_2)else(spec_ValidIns.j0 k a0_0 (a0_0==39) a0_0 a0_1 a0_2))))=some r:=h
 clear h
 have z:=zM H
 clear H
 go_enter Try.func31,Try.ntmps31
 go_upto_if 5 with(first|((with_reducible refine gate_dst (N:=1) rfl ?_);refine sV (N:=1) (cs:= #[.int .i64 a0_0,.int .i64 a0_1,.string a0_2]) (t:=55) ?_;intro A hg Z hbox hb;have a:=zM (hbox);have aa:=sG HB hg;have ab:=sG HB hg;replace HB:=sB HB hb;clear hb hbox hg;obtain⟨B,C,D,E,F,G⟩:=cells3 a.out))
 (try simp only[zP])
 go_cut [5] (fun O wc=>∃(kq:Nat) (q:Bool),O= .bool q∧Aside0 (spec_ValidIns.j0 kq a0_0 q a0_0 a0_1 a0_2=some r)∧Aside0 (kq≤k)∧Aside0 (wc.heap[A]?=some (.cells #[.int .i64 a0_0,.int .i64 a0_1,.string a0_2] 55 (0,0)))∧Aside0 (Below w.heap.size w wc))
 case first=>(
 have H:=z.out
 clear z
 by_cases b:a0_0=31
 ·(
 rw[if_pos b]at H
 have c5b0:(a0_0==31)=true:=zE b
 have c5b1:(a0_0 !=31)=false:=zY b
 clear b
 (first|rw[c5b0]|(simp only[i64_w,i32_w];rw[c5b0])|rw[c5b2]|skip)
 have H':=zM H
 clear H
 go_wp2
 go_meet
 case rel=>exact⟨_,((a0_0==31)),sr,H',⟨by first|omega|exact Nat.le_refl _⟩,⟨by exact sT a.out⟩,⟨sb⟩⟩)
 rw[if_neg b]at H
 have c5b0:(a0_0==31)=false:=zN b
 have c5b1:(a0_0 !=31)=true:=zX b
 (first|rw[c5b0]|(simp only[i64_w,i32_w];rw[c5b0])|rw[c5b2]|skip)
 by_cases c:a0_0=34
 ·(
 rw[if_pos c]at H
 have c6b0:(a0_0==34)=true:=zE c
 have c6b1:(a0_0 !=34)=false:=zY c
 clear c
 have H':=zM H
 clear H
 go_wp2
 go_meet
 case rel=>exact⟨_,((a0_0==34)),sr,H',⟨by first|omega|exact Nat.le_refl _⟩,⟨by exact sT a.out⟩,⟨sb⟩⟩)
 rw[if_neg c]at H
 have c6b0:(a0_0==34)=false:=zN c
 have c6b1:(a0_0 !=34)=true:=zX c
 by_cases d:a0_0=38
 ·(
 rw[if_pos d]at H
 have c7b0:(a0_0==38)=true:=zE d
 have c7b1:(a0_0 !=38)=false:=zY d
 clear d
 have H':=zM H
 clear H
 go_wp2
 go_meet
 case rel=>exact⟨_,((a0_0==38)),sr,H',⟨by first|omega|exact Nat.le_refl _⟩,⟨by exact sT a.out⟩,⟨sb⟩⟩)
 rw[if_neg d]at H
 have c7b0:(a0_0==38)=false:=zN d
 have c7b1:(a0_0 !=38)=true:=zX d
 have H':=zM H
 clear H
 go_wp2
 go_meet
 case rel=>exact⟨_,((a0_0==39)),sr,H',⟨by first|omega|exact Nat.le_refl _⟩,⟨by exact sT a.out⟩,⟨sb⟩⟩)
 case rest=>(
 clear z
 try clear B
 try clear C
 try clear D
 try clear E
 try clear F
 try clear G
 obtain⟨kq,q,rfl,HA,o,a,HB⟩:=hcut
 cases kq with
 |zero=>exact absurd HA.out (by simp[spec_ValidIns.j0])
 |succ kj1=>(
 have H:=HA.out
 clear HA
 simp only[spec_ValidIns.j0]at H
 by_cases n:q=true
 ·(
 subst n
 rewrite[if_pos rfl]at H
 by_cases g:a0_1=0
 ·(
 rw[if_pos g]at H
 have c9b0:(a0_1==0)=true:=zE g
 have c9b1:(a0_1 !=0)=false:=zY g
 clear g
 obtain rfl:=zI H
 obtain⟨ac,ad,ae,af,ag,ah⟩:=cells3 a.out
 go_wp2
 go_ret
 exact⟨sq,sb⟩)
 rw[if_neg g]at H
 have c9b0:(a0_1==0)=false:=zN g
 have c9b1:(a0_1 !=0)=true:=zX g
 obtain rfl:=zI H
 obtain⟨ai,aj,ak,al,am,an⟩:=cells3 a.out
 go_wp2
 go_ret
 exact⟨sq,sb⟩)
 replace n:=zB n
 subst n
 rewrite[if_neg zQ]at H
 have I:=zM H
 clear H
 go_upto_if 18 with(fail)
 go_cut [18] (fun P wc=>∃(kq:Nat) (s:Bool),P= .bool s∧Aside0 (spec_ValidIns.j1 kq a0_0 s a0_0 a0_1 a0_2=some r)∧Aside0 (kq≤kj1)∧Aside0 (wc.heap[A]?=some (.cells #[.int .i64 a0_0,.int .i64 a0_1,.string a0_2] 55 (0,0)))∧Aside0 (Below w.heap.size w wc))
 case first=>(
 have H:=I.out
 clear I
 by_cases i:a0_0=32
 ·(
 rw[if_pos i]at H
 have c13b0:(a0_0==32)=true:=zE i
 have c13b1:(a0_0 !=32)=false:=zY i
 clear i
 (first|rw[c13b0]|(simp only[i64_w,i32_w];rw[c13b0])|rw[c13b2]|skip)
 have H':=zM H
 clear H
 go_wp2
 go_meet
 case rel=>exact⟨_,((a0_0==32)),sr,H',⟨by have:=o.out;first|omega|exact Nat.le_refl _⟩,⟨by exact sT a.out⟩,⟨sb⟩⟩)
 rw[if_neg i]at H
 have c13b0:(a0_0==32)=false:=zN i
 have c13b1:(a0_0 !=32)=true:=zX i
 (first|rw[c13b0]|(simp only[i64_w,i32_w];rw[c13b0])|rw[c13b2]|skip)
 by_cases j:a0_0=33
 ·(
 rw[if_pos j]at H
 have c14b0:(a0_0==33)=true:=zE j
 have c14b1:(a0_0 !=33)=false:=zY j
 clear j
 have H':=zM H
 clear H
 go_wp2
 go_meet
 case rel=>exact⟨_,((a0_0==33)),sr,H',⟨by have:=o.out;first|omega|exact Nat.le_refl _⟩,⟨by exact sT a.out⟩,⟨sb⟩⟩)
 rw[if_neg j]at H
 have c14b0:(a0_0==33)=false:=zN j
 have c14b1:(a0_0 !=33)=true:=zX j
 have H':=zM H
 clear H
 go_wp2
 go_meet
 case rel=>exact⟨_,((a0_0==37)),sr,H',⟨by have:=o.out;first|omega|exact Nat.le_refl _⟩,⟨by exact sT a.out⟩,⟨sb⟩⟩)
 case rest=>(
 clear I
 try clear n
 try clear B
 try clear C
 try clear D
 try clear E
 try clear F
 try clear G
 obtain⟨kq,s,rfl,HA,K,a,HB⟩:=hcut
 cases kq with
 |zero=>exact absurd HA.out (by simp[spec_ValidIns.j1])
 |succ kj11=>(
 have H:=HA.out
 clear HA
 simp only[spec_ValidIns.j1]at H
 by_cases p:s=true
 ·(
 subst p
 rewrite[if_pos rfl]at H
 obtain⟨Q,L,H⟩:=sO H
 by_cases u:Q=true
 ·(
 subst u
 rewrite[if_pos rfl]at H
 obtain rfl:=zI H
 obtain⟨ao,ap,aq,ar,au,av⟩:=cells3 a.out
 go_wp2_with (first|((with_reducible refine gate_callee (f:=28) rfl ?_);refine sC (some 24) Try.func28 #[.int .i64 a0_1,.int .i64 0,.int .i64 12999] (spec_l00In.calls a0_1 0 12999 true _ L.out) ?_;rintro e w' ⟨rfl,⟨nd,rfl⟩⟩;refine⟨_,rfl,?_⟩))
 go_ret
 exact⟨sq,sb⟩)
 replace u:=zB u
 subst u
 rewrite[if_neg zQ]at H
 obtain rfl:=zI H
 obtain⟨aw,ax,ay,az,aA,aB⟩:=cells3 a.out
 go_wp2_with (first|((with_reducible refine gate_callee (f:=28) rfl ?_);refine sC (some 24) Try.func28 #[.int .i64 a0_1,.int .i64 0,.int .i64 12999] (spec_l00In.calls a0_1 0 12999 false _ L.out) ?_;rintro e w' ⟨rfl,⟨nd,rfl⟩⟩;refine⟨_,rfl,?_⟩))
 go_ret
 exact⟨sq,sb⟩)
 replace p:=zB p
 subst p
 rewrite[if_neg zQ]at H
 have J:=zM H
 clear H
 go_upto_if 30 with(fail)
 go_cut [30] (fun R wc=>∃(kq:Nat) (v:Bool),R= .bool v∧Aside0 (spec_ValidIns.j2 kq v a0_0 a0_1 a0_2=some r)∧Aside0 (kq≤kj11)∧Aside0 (wc.heap[A]?=some (.cells #[.int .i64 a0_0,.int .i64 a0_1,.string a0_2] 55 (0,0)))∧Aside0 (Below w.heap.size w wc))
 case first=>(
 have H:=J.out
 clear J
 by_cases l:a0_0=35
 ·(
 rw[if_pos l]at H
 have c21b0:(a0_0==35)=true:=zE l
 have c21b1:(a0_0 !=35)=false:=zY l
 clear l
 (first|rw[c21b0]|(simp only[i64_w,i32_w];rw[c21b0])|rw[c21b2]|skip)
 have H':=zM H
 clear H
 go_wp2
 go_meet
 case rel=>exact⟨_,((a0_0==35)),sr,H',⟨by have:=o.out;have:=K.out;first|omega|exact Nat.le_refl _⟩,⟨by exact sT a.out⟩,⟨sb⟩⟩)
 rw[if_neg l]at H
 have c21b0:(a0_0==35)=false:=zN l
 have c21b1:(a0_0 !=35)=true:=zX l
 (first|rw[c21b0]|(simp only[i64_w,i32_w];rw[c21b0])|rw[c21b2]|skip)
 have H':=zM H
 clear H
 go_wp2
 go_meet
 case rel=>exact⟨_,((a0_0==36)),sr,H',⟨by have:=o.out;have:=K.out;first|omega|exact Nat.le_refl _⟩,⟨by exact sT a.out⟩,⟨sb⟩⟩)
 case rest=>(
 clear J
 try clear n
 try clear p
 try clear B
 try clear C
 try clear D
 try clear E
 try clear F
 try clear G
 obtain⟨kq,v,rfl,HA,aC,a,HB⟩:=hcut
 cases kq with
 |zero=>exact absurd HA.out (by simp[spec_ValidIns.j2])
 |succ kj19=>(
 have H:=HA.out
 clear HA
 simp only[spec_ValidIns.j2]at H
 by_cases x:v=true
 ·(
 subst x
 rewrite[if_pos rfl]at H
 by_cases m:a0_1=0
 ·(
 rw[if_pos m]at H
 have c23b0:(a0_1==0)=true:=zE m
 have c23b1:(a0_1 !=0)=false:=zY m
 clear m
 obtain⟨S,T,H⟩:=sO H
 obtain rfl:=zI H
 obtain⟨aD,aE,aF,aG,aH,aI⟩:=cells3 a.out
 go_wp2_with (first|(go_at_call 29;(with_reducible refine(spec_IsName.calls kj19 a0_2 S _ T.out).mono ?_);rintro e w' ⟨rfl,⟨nd,rfl⟩⟩))
 go_ret
 exact⟨sq,sb⟩)
 rw[if_neg m]at H
 have c23b0:(a0_1==0)=false:=zN m
 have c23b1:(a0_1 !=0)=true:=zX m
 obtain rfl:=zI H
 obtain⟨aJ,aK,aL,aM,aN,aO⟩:=cells3 a.out
 go_wp2
 go_ret
 exact⟨sq,sb⟩)
 replace x:=zB x
 subst x
 rewrite[if_neg zQ]at H
 obtain⟨U,M,H⟩:=sO H
 by_cases y:U=true
 ·(
 subst y
 rewrite[if_pos rfl]at H
 obtain⟨V,W,H⟩:=sO H
 obtain rfl:=zI H
 obtain⟨aP,aQ,aR,aS,aT,aU⟩:=cells3 a.out
 go_wp2_with (first|((with_reducible refine gate_callee (f:=40) rfl ?_);refine sC (some 43) Try.func40 #[.int .i64 a0_0] (spec_l13Leaf.calls a0_0 true _ M.out) ?_;rintro e w' ⟨rfl,⟨nd,rfl⟩⟩;refine⟨_,rfl,?_⟩)|(go_at_call 41;(refine(spec_l11Node.calls kj19 a0_0 a0_1 a0_2 _ _ ([]:List (S75)) V _ ?side1 ?side2 W.out).mono ?_);(case side1=>exact Kd.C_nil _ _);(case side2=>exact Nat.le_refl _);rintro e aV ⟨rfl,hb⟩;replace a:=sK a hb;replace HB:=sB HB hb;(try clear hb)))
 go_ret
 exact⟨sq,sb⟩)
 replace y:=zB y
 subst y
 rewrite[if_neg zQ]at H
 obtain rfl:=zI H
 obtain⟨aW,aX,aY,aZ,a0,a1⟩:=cells3 a.out
 go_wp2_with (first|((with_reducible refine gate_callee (f:=40) rfl ?_);refine sC (some 43) Try.func40 #[.int .i64 a0_0] (spec_l13Leaf.calls a0_0 false _ M.out) ?_;rintro e w' ⟨rfl,⟨nd,rfl⟩⟩;refine⟨_,rfl,?_⟩))
 go_ret
 exact⟨sq,sb⟩))))))
end Go.Proofs.Ytcppdkdnpmgpmaa.PFnExactEntryOf
