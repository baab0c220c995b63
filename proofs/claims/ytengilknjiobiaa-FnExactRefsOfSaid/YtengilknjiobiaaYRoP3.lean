/- Printed functions: spec_l00In, spec_l06Plain, spec_l07IsRef. -/
import Derived.Test.YtengilknjiobiaaYRoP0
import Derived.Test.YtengilknjiobiaaYRoPE
namespace Go.Proofs.Ytengilknjiobiaa.PFnExactRefsOf
open Go.RowKit Go.Proofs.YtengilknjiobiaaG Go.Proofs.YtengilknjiobiaaW.PrintWords Go.Proofs.YtengilknjiobiaaW.PrintLast Go.Proofs.YtengilknjiobiaaW.PrintMore
attribute [local go_sem] max2_int min2_int max_two min_two max_three min_three max_four min_four
set_option linter.unusedVariables false
set_option linter.unusedSimpArgs false
def spec_l00In.f (a0:Int) (a1:Int) (a2:Int):Option (Bool):=if a0≥a1 then(some (decide (a0≤a2)))else(some false)
set_option maxHeartbeats 8000000 in
set_option maxRecDepth 100000 in
theorem spec_l00In.calls (a0:Int) (a1:Int) (a2:Int) (r:Bool) (w:World) (h:spec_l00In.f a0 a1 a2=some r):
  Calls Try.prog 77 #[.int .i64 a0,.int .i64 a1,.int .i64 a2] w fun e w'=>e= .returned (.bool r)∧Drawn0 w w':=by
 have H:(if a0≥a1 then(some (decide (a0≤a2)))else(some false))=some r:=h
 clear h
 by_cases a:a0≥a1
 ·(
 rw[if_pos a]at H
 have c4b0:decide (a1≤a0)=true:=zT a
 clear a
 obtain rfl:=zI H
 go_enter Try.func77,Try.ntmps77
 go_wp2
 go_ret
 exact⟨by first|rfl|(simp;done)|(simp[*];done),by repeat(first|exact Drawn0.refl _|apply Drawn0.step)⟩)
 rw[if_neg a]at H
 have c4b0:decide (a1≤a0)=false:=zF a
 clear a
 obtain rfl:=zI H
 go_enter Try.func77,Try.ntmps77
 go_wp2
 go_ret
 exact⟨by first|rfl|(simp;done)|(simp[*];done),by repeat(first|exact Drawn0.refl _|apply Drawn0.step)⟩
def spec_l06Plain.f (a0_0:Int) (a0_1:Int) (a0_2:ByteArray) (a0_3:Int) (a1:Bool) (a2:Bool) (a3:Bool):Option (Bool):=if a1=true then(if a2=true then(if a3=true then(some true)else(some (a0_3==0)))else(if a0_2.toList=([]:List UInt8)then(if a3=true then(some true)else(some (a0_3==0)))else(some false)))else(if a0_1=0 then(if a2=true then(if a3=true then(some true)else(some (a0_3==0)))else(if a0_2.toList=([]:List UInt8)then(if a3=true then(some true)else(some (a0_3==0)))else(some false)))else(some false))
set_option maxHeartbeats 8000000 in
set_option maxRecDepth 100000 in
theorem spec_l06Plain.calls (a0_0:Int) (a0_1:Int) (a0_2:ByteArray) (a0_3:Int) (a1:Bool) (a2:Bool) (a3:Bool) (r:Bool) (w:World) (h:spec_l06Plain.f a0_0 a0_1 a0_2 a0_3 a1 a2 a3=some r):
  Calls Try.prog 111 #[.agg #[.int .i64 a0_0,.int .i64 a0_1,.string a0_2,.int .i64 a0_3],.bool a1,.bool a2,.bool a3] w fun e w'=>e= .returned (.bool r)∧Below w.heap.size w w':=by
 have s:=Try.underlying29
 have HB:=zM (Below.refl w.heap.size w)
 have H:(if a1=true then(if a2=true then(if a3=true then(some true)else(some (a0_3==0)))else(if a0_2.toList=([]:List UInt8)then(if a3=true then(some true)else(some (a0_3==0)))else(some false)))else(if a0_1=0 then(if a2=true then(if a3=true then(some true)else(some (a0_3==0)))else(if a0_2.toList=([]:List UInt8)then(if a3=true then(some true)else(some (a0_3==0)))else(some false)))else(some false)))=some r:=h
 clear h
 by_cases k:a1=true
 ·(
 subst k
 rewrite[if_pos rfl]at H
 by_cases l:a2=true
 ·(
 subst l
 rewrite[if_pos rfl]at H
 by_cases m:a3=true
 ·(
 subst m
 rewrite[if_pos rfl]at H
 obtain rfl:=zI H
 go_enter Try.func111,Try.ntmps111
 go_wp2_with (first|((with_reducible refine gate_dst (N:=4) rfl ?_);refine sV (N:=4) (cs:= #[.int .i64 a0_0,.int .i64 a0_1,.string a0_2,.int .i64 a0_3]) (t:=29) ?_;intro b hg u hbox hb;have a:=zM (hbox);have c:=sG HB hg;have d:=sG HB hg;replace HB:=sB HB hb;clear hb hbox hg))
 go_ret
 exact⟨sq,sb⟩)
 replace m:=zB m
 subst m
 rewrite[if_neg zQ]at H
 obtain rfl:=zI H
 go_enter Try.func111,Try.ntmps111
 go_wp2_with (first|((with_reducible refine gate_dst (N:=4) rfl ?_);refine sV (N:=4) (cs:= #[.int .i64 a0_0,.int .i64 a0_1,.string a0_2,.int .i64 a0_3]) (t:=29) ?_;intro b hg v hbox hb;have a:=zM (hbox);have c:=sG HB hg;have d:=sG HB hg;replace HB:=sB HB hb;clear hb hbox hg;obtain⟨x,y,z,A,B,C,D,E⟩:=cells4 a.out))
 go_ret
 exact⟨sq,sb⟩)
 replace l:=zB l
 subst l
 rewrite[if_neg zQ]at H
 by_cases g:a0_2.toList=([]:List UInt8)
 ·(
 rw[if_pos g]at H
 have c11b0:(a0_2.toList==([]:List UInt8))=true:=zE g
 have c11b1:(a0_2.toList !=([]:List UInt8))=false:=zY g
 have c11b2:a0_2.toList.isEmpty=true:=by simpa using g
 clear g
 by_cases n:a3=true
 ·(
 subst n
 rewrite[if_pos rfl]at H
 obtain rfl:=zI H
 go_enter Try.func111,Try.ntmps111
 go_wp2_with (first|((with_reducible refine gate_dst (N:=4) rfl ?_);refine sV (N:=4) (cs:= #[.int .i64 a0_0,.int .i64 a0_1,.string a0_2,.int .i64 a0_3]) (t:=29) ?_;intro b hg F hbox hb;have a:=zM (hbox);have c:=sG HB hg;have d:=sG HB hg;replace HB:=sB HB hb;clear hb hbox hg;obtain⟨G,I,J,K,L,M,O,P⟩:=cells4 a.out))
 go_ret
 exact⟨sq,sb⟩)
 replace n:=zB n
 subst n
 rewrite[if_neg zQ]at H
 obtain rfl:=zI H
 go_enter Try.func111,Try.ntmps111
 go_wp2_with (first|((with_reducible refine gate_dst (N:=4) rfl ?_);refine sV (N:=4) (cs:= #[.int .i64 a0_0,.int .i64 a0_1,.string a0_2,.int .i64 a0_3]) (t:=29) ?_;intro b hg Q hbox hb;have a:=zM (hbox);have c:=sG HB hg;have d:=sG HB hg;replace HB:=sB HB hb;clear hb hbox hg;obtain⟨R,S,T,U,V,W,X,Y⟩:=cells4 a.out))
 go_ret
 exact⟨sq,sb⟩)
 rw[if_neg g]at H
 have c11b0:(a0_2.toList==([]:List UInt8))=false:=zN g
 have c11b1:(a0_2.toList !=([]:List UInt8))=true:=zX g
 have c11b2:a0_2.toList.isEmpty=false:=by simpa using g
 obtain rfl:=zI H
 go_enter Try.func111,Try.ntmps111
 go_wp2_with (first|((with_reducible refine gate_dst (N:=4) rfl ?_);refine sV (N:=4) (cs:= #[.int .i64 a0_0,.int .i64 a0_1,.string a0_2,.int .i64 a0_3]) (t:=29) ?_;intro b hg Z hbox hb;have a:=zM (hbox);have c:=sG HB hg;have d:=sG HB hg;replace HB:=sB HB hb;clear hb hbox hg;obtain⟨aa,ab,ac,ad,ae,af,ag,ah⟩:=cells4 a.out))
 go_ret
 exact⟨sq,sb⟩)
 replace k:=zB k
 subst k
 rewrite[if_neg zQ]at H
 by_cases j:a0_1=0
 ·(
 rw[if_pos j]at H
 have c19b0:(a0_1==0)=true:=zE j
 have c19b1:(a0_1 !=0)=false:=zY j
 clear j
 by_cases o:a2=true
 ·(
 subst o
 rewrite[if_pos rfl]at H
 by_cases p:a3=true
 ·(
 subst p
 rewrite[if_pos rfl]at H
 obtain rfl:=zI H
 go_enter Try.func111,Try.ntmps111
 go_wp2_with (first|((with_reducible refine gate_dst (N:=4) rfl ?_);refine sV (N:=4) (cs:= #[.int .i64 a0_0,.int .i64 a0_1,.string a0_2,.int .i64 a0_3]) (t:=29) ?_;intro b hg ai hbox hb;have a:=zM (hbox);have c:=sG HB hg;have d:=sG HB hg;replace HB:=sB HB hb;clear hb hbox hg;obtain⟨aj,ak,al,am,an,ao,ap,aq⟩:=cells4 a.out))
 go_ret
 exact⟨sq,sb⟩)
 replace p:=zB p
 subst p
 rewrite[if_neg zQ]at H
 obtain rfl:=zI H
 go_enter Try.func111,Try.ntmps111
 go_wp2_with (first|((with_reducible refine gate_dst (N:=4) rfl ?_);refine sV (N:=4) (cs:= #[.int .i64 a0_0,.int .i64 a0_1,.string a0_2,.int .i64 a0_3]) (t:=29) ?_;intro b hg ar hbox hb;have a:=zM (hbox);have c:=sG HB hg;have d:=sG HB hg;replace HB:=sB HB hb;clear hb hbox hg;obtain⟨au,av,aw,ax,ay,az,aA,aB⟩:=cells4 a.out))
 go_ret
 exact⟨sq,sb⟩)
 replace o:=zB o
 subst o
 rewrite[if_neg zQ]at H
 by_cases i:a0_2.toList=([]:List UInt8)
 ·(
 rw[if_pos i]at H
 have c26b0:(a0_2.toList==([]:List UInt8))=true:=zE i
 have c26b1:(a0_2.toList !=([]:List UInt8))=false:=zY i
 have c26b2:a0_2.toList.isEmpty=true:=by simpa using i
 clear i
 by_cases q:a3=true
 ·(
 subst q
 rewrite[if_pos rfl]at H
 obtain rfl:=zI H
 go_enter Try.func111,Try.ntmps111
 go_wp2_with (first|((with_reducible refine gate_dst (N:=4) rfl ?_);refine sV (N:=4) (cs:= #[.int .i64 a0_0,.int .i64 a0_1,.string a0_2,.int .i64 a0_3]) (t:=29) ?_;intro b hg aC hbox hb;have a:=zM (hbox);have c:=sG HB hg;have d:=sG HB hg;replace HB:=sB HB hb;clear hb hbox hg;obtain⟨aD,aE,aF,aG,aH,aI,aJ,aK⟩:=cells4 a.out))
 go_ret
 exact⟨sq,sb⟩)
 replace q:=zB q
 subst q
 rewrite[if_neg zQ]at H
 obtain rfl:=zI H
 go_enter Try.func111,Try.ntmps111
 go_wp2_with (first|((with_reducible refine gate_dst (N:=4) rfl ?_);refine sV (N:=4) (cs:= #[.int .i64 a0_0,.int .i64 a0_1,.string a0_2,.int .i64 a0_3]) (t:=29) ?_;intro b hg aL hbox hb;have a:=zM (hbox);have c:=sG HB hg;have d:=sG HB hg;replace HB:=sB HB hb;clear hb hbox hg;obtain⟨aM,aN,aO,aP,aQ,aR,aS,aT⟩:=cells4 a.out))
 go_ret
 exact⟨sq,sb⟩)
 rw[if_neg i]at H
 have c26b0:(a0_2.toList==([]:List UInt8))=false:=zN i
 have c26b1:(a0_2.toList !=([]:List UInt8))=true:=zX i
 have c26b2:a0_2.toList.isEmpty=false:=by simpa using i
 obtain rfl:=zI H
 go_enter Try.func111,Try.ntmps111
 go_wp2_with (first|((with_reducible refine gate_dst (N:=4) rfl ?_);refine sV (N:=4) (cs:= #[.int .i64 a0_0,.int .i64 a0_1,.string a0_2,.int .i64 a0_3]) (t:=29) ?_;intro b hg aU hbox hb;have a:=zM (hbox);have c:=sG HB hg;have d:=sG HB hg;replace HB:=sB HB hb;clear hb hbox hg;obtain⟨aV,aW,aX,aY,aZ,a4,a5,a6⟩:=cells4 a.out))
 go_ret
 exact⟨sq,sb⟩)
 rw[if_neg j]at H
 have c19b0:(a0_1==0)=false:=zN j
 have c19b1:(a0_1 !=0)=true:=zX j
 obtain rfl:=zI H
 go_enter Try.func111,Try.ntmps111
 go_wp2_with (first|((with_reducible refine gate_dst (N:=4) rfl ?_);refine sV (N:=4) (cs:= #[.int .i64 a0_0,.int .i64 a0_1,.string a0_2,.int .i64 a0_3]) (t:=29) ?_;intro b hg a7 hbox hb;have a:=zM (hbox);have c:=sG HB hg;have d:=sG HB hg;replace HB:=sB HB hb;clear hb hbox hg;obtain⟨a8,a9,ba,bb,bc,bd,be,bf⟩:=cells4 a.out))
 go_ret
 exact⟨sq,sb⟩
section
attribute [local go_sem high] eqA29
def spec_l07IsRef.f (a0_0:Int) (a0_1:Int) (a0_2:ByteArray) (a0_3:Int):Option (Bool):=(spec_l00In.f a0_0 4 6).bind fun t176=>(some t176)
set_option maxHeartbeats 8000000 in
set_option maxRecDepth 100000 in
theorem spec_l07IsRef.calls (a0_0:Int) (a0_1:Int) (a0_2:ByteArray) (a0_3:Int) (r:Bool) (w:World) (h:spec_l07IsRef.f a0_0 a0_1 a0_2 a0_3=some r):
  Calls Try.prog 55 #[.agg #[.int .i64 a0_0,.int .i64 a0_1,.string a0_2,.int .i64 a0_3]] w fun e w'=>e= .returned (.bool r)∧Below w.heap.size w w':=by
 have d:=Try.underlying29
 have HB:=zM (Below.refl w.heap.size w)
 have H:((spec_l00In.f a0_0 4 6).bind fun a=>(some a))=some r:=h
 clear h
 obtain⟨a,b,H⟩:=sO H
 obtain rfl:=zI H
 go_enter Try.func55,Try.ntmps55
 go_wp2_with (first|((with_reducible refine gate_dst (N:=1) rfl ?_);refine sV (N:=1) (cs:= #[.int .i64 a0_0,.int .i64 a0_1,.string a0_2,.int .i64 a0_3]) (t:=29) ?_;intro g hg i hbox hb;have c:=zM (hbox);have j:=sG HB hg;have k:=sG HB hg;replace HB:=sB HB hb;clear hb hbox hg;obtain⟨l,m,n,o,p,q,s,u⟩:=cells4 c.out)|((with_reducible refine gate_callee (f:=77) rfl ?_);refine sC (some 5) Try.func77 #[.int .i64 a0_0,.int .i64 4,.int .i64 6] (spec_l00In.calls a0_0 4 6 a _ b.out) ?_;rintro e w' ⟨rfl,⟨nd,rfl⟩⟩;refine⟨_,rfl,?_⟩))
 go_ret
 exact⟨sq,sb⟩
end
end Go.Proofs.Ytengilknjiobiaa.PFnExactRefsOf
