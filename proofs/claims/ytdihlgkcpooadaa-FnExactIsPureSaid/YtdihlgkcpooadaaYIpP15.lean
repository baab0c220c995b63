/- Printed functions: impl_isShort, impl_within, impl_hasSet, impl_hasNumber, impl_hasName, impl_isPatternKind, impl_isArgument. -/
import Derived.Test.YtdihlgkcpooadaaYIpP0
import Derived.Test.YtdihlgkcpooadaaYIpP14
namespace Go.Proofs.Ytdihlgkcpooadaa.PFnExactIsPure
open Go.RowKit Go.Proofs.YtdihlgkcpooadaaG Go.Proofs.YtdihlgkcpooadaaW.PrintWords Go.Proofs.YtdihlgkcpooadaaW.PrintLast Go.Proofs.YtdihlgkcpooadaaW.PrintMore
attribute [local go_sem] max2_int min2_int max_two min_two max_three min_three max_four min_four
set_option linter.unusedVariables false
set_option linter.unusedSimpArgs false
def impl_isShort.f (a0:ByteArray):Option (Bool):=some (decide ((a0.size:Int)≤200))
set_option maxHeartbeats 8000000 in
set_option maxRecDepth 100000 in
theorem impl_isShort.calls (a0:ByteArray) (r:Bool) (w:World) (h:impl_isShort.f a0=some r):
  Calls Try.prog 88 #[.string a0] w fun e w'=>e= .returned (.bool r)∧Drawn0 w w':=by
 have H:(some (decide ((a0.size:Int)≤200)))=some r:=h
 clear h
 obtain rfl:=zI H
 go_enter Try.func88,Try.ntmps88
 go_wp2
 go_ret
 exact⟨by first|rfl|(simp;done)|(simp[*];done),by repeat(first|exact Drawn0.refl _|apply Drawn0.step)⟩
def impl_within.f (a0:Int) (a1:Int) (a2:Int):Option (Bool):=if a0≥a1 then(some (decide (a0≤a2)))else(some false)
set_option maxHeartbeats 8000000 in
set_option maxRecDepth 100000 in
theorem impl_within.calls (a0:Int) (a1:Int) (a2:Int) (r:Bool) (w:World) (h:impl_within.f a0 a1 a2=some r):
  Calls Try.prog 91 #[.int .i64 a0,.int .i64 a1,.int .i64 a2] w fun e w'=>e= .returned (.bool r)∧Drawn0 w w':=by
 have H:(if a0≥a1 then(some (decide (a0≤a2)))else(some false))=some r:=h
 clear h
 by_cases a:a0≥a1
 ·(
 rw[if_pos a]at H
 have c4b0:decide (a1≤a0)=true:=zT a
 clear a
 obtain rfl:=zI H
 go_enter Try.func91,Try.ntmps91
 go_wp2
 go_ret
 exact⟨by first|rfl|(simp;done)|(simp[*];done),by repeat(first|exact Drawn0.refl _|apply Drawn0.step)⟩)
 rw[if_neg a]at H
 have c4b0:decide (a1≤a0)=false:=zF a
 clear a
 obtain rfl:=zI H
 go_enter Try.func91,Try.ntmps91
 go_wp2
 go_ret
 exact⟨by first|rfl|(simp;done)|(simp[*];done),by repeat(first|exact Drawn0.refl _|apply Drawn0.step)⟩
def impl_hasSet.f (a0:Int):Option (Bool):=(impl_within.f a0 2 5).bind fun t252=>(some t252)
set_option maxHeartbeats 8000000 in
set_option maxRecDepth 100000 in
theorem impl_hasSet.calls (a0:Int) (r:Bool) (w:World) (h:impl_hasSet.f a0=some r):
  Calls Try.prog 89 #[.int .i64 a0] w fun e w'=>e= .returned (.bool r)∧Drawn0 w w':=by
 have H:((impl_within.f a0 2 5).bind fun a=>(some a))=some r:=h
 clear h
 obtain⟨a,b,H⟩:=sO H
 obtain rfl:=zI H
 go_enter Try.func89,Try.ntmps89
 go_wp2_with (first|((with_reducible refine gate_callee (f:=91) rfl ?_);refine sC (some 4) Try.func91 #[.int .i64 a0,.int .i64 2,.int .i64 5] (impl_within.calls a0 2 5 a _ b.out) ?_;rintro e w' ⟨rfl,⟨nd,rfl⟩⟩;refine⟨_,rfl,?_⟩))
 go_ret
 exact⟨by first|rfl|(simp;done)|(simp[*];done),by repeat(first|exact Drawn0.refl _|apply Drawn0.step)⟩
def impl_hasNumber.f (a0:Int):Option (Bool):=(impl_within.f a0 6 10).bind fun t253=>(some t253)
set_option maxHeartbeats 8000000 in
set_option maxRecDepth 100000 in
theorem impl_hasNumber.calls (a0:Int) (r:Bool) (w:World) (h:impl_hasNumber.f a0=some r):
  Calls Try.prog 90 #[.int .i64 a0] w fun e w'=>e= .returned (.bool r)∧Drawn0 w w':=by
 have H:((impl_within.f a0 6 10).bind fun a=>(some a))=some r:=h
 clear h
 obtain⟨a,b,H⟩:=sO H
 obtain rfl:=zI H
 go_enter Try.func90,Try.ntmps90
 go_wp2_with (first|((with_reducible refine gate_callee (f:=91) rfl ?_);refine sC (some 4) Try.func91 #[.int .i64 a0,.int .i64 6,.int .i64 10] (impl_within.calls a0 6 10 a _ b.out) ?_;rintro e w' ⟨rfl,⟨nd,rfl⟩⟩;refine⟨_,rfl,?_⟩))
 go_ret
 exact⟨by first|rfl|(simp;done)|(simp[*];done),by repeat(first|exact Drawn0.refl _|apply Drawn0.step)⟩
def impl_hasName.f (a0:Int):Option (Bool):=(impl_within.f a0 21 24).bind fun t254=>(some t254)
set_option maxHeartbeats 8000000 in
set_option maxRecDepth 100000 in
theorem impl_hasName.calls (a0:Int) (r:Bool) (w:World) (h:impl_hasName.f a0=some r):
  Calls Try.prog 92 #[.int .i64 a0] w fun e w'=>e= .returned (.bool r)∧Drawn0 w w':=by
 have H:((impl_within.f a0 21 24).bind fun a=>(some a))=some r:=h
 clear h
 obtain⟨a,b,H⟩:=sO H
 obtain rfl:=zI H
 go_enter Try.func92,Try.ntmps92
 go_wp2_with (first|((with_reducible refine gate_callee (f:=91) rfl ?_);refine sC (some 4) Try.func91 #[.int .i64 a0,.int .i64 21,.int .i64 24] (impl_within.calls a0 21 24 a _ b.out) ?_;rintro e w' ⟨rfl,⟨nd,rfl⟩⟩;refine⟨_,rfl,?_⟩))
 go_ret
 exact⟨by first|rfl|(simp;done)|(simp[*];done),by repeat(first|exact Drawn0.refl _|apply Drawn0.step)⟩
def impl_isPatternKind.f (a0:Int):Option (Bool):=(impl_within.f a0 1 24).bind fun t255=>(some t255)
set_option maxHeartbeats 8000000 in
set_option maxRecDepth 100000 in
theorem impl_isPatternKind.calls (a0:Int) (r:Bool) (w:World) (h:impl_isPatternKind.f a0=some r):
  Calls Try.prog 93 #[.int .i64 a0] w fun e w'=>e= .returned (.bool r)∧Drawn0 w w':=by
 have H:((impl_within.f a0 1 24).bind fun a=>(some a))=some r:=h
 clear h
 obtain⟨a,b,H⟩:=sO H
 obtain rfl:=zI H
 go_enter Try.func93,Try.ntmps93
 go_wp2_with (first|((with_reducible refine gate_callee (f:=91) rfl ?_);refine sC (some 4) Try.func91 #[.int .i64 a0,.int .i64 1,.int .i64 24] (impl_within.calls a0 1 24 a _ b.out) ?_;rintro e w' ⟨rfl,⟨nd,rfl⟩⟩;refine⟨_,rfl,?_⟩))
 go_ret
 exact⟨by first|rfl|(simp;done)|(simp[*];done),by repeat(first|exact Drawn0.refl _|apply Drawn0.step)⟩
def impl_isArgument.f (k:Nat) (a0:Int) (a1:Int) (a2:ByteArray):Option (Bool):=if a0=1 then(if a1=0 then((impl_isShort.f a2).bind fun t256=>(some t256))else(some false))else((impl_hasSet.f a0).bind fun t257=>(if t257=true then(if a1=0 then(if a2.toList=([]:List UInt8)then(some false)else((impl_isShort.f a2).bind fun t258=>(some t258)))else(some false))else((impl_hasNumber.f a0).bind fun t259=>(if t259=true then(if a2.toList=([]:List UInt8)then((impl_within.f a1 0 200).bind fun t260=>(some t260))else(some false))else((impl_hasName.f a0).bind fun t261=>(if t261=true then(if a1=0 then((impl_IsName.f k a2).bind fun t262=>(some t262))else(some false))else((impl_isPatternKind.f a0).bind fun t263=>(if t263=true then(if a1=0 then(some (a2.toList.isEmpty))else(some false))else(some false)))))))))
set_option maxHeartbeats 8000000 in
set_option maxRecDepth 100000 in
theorem impl_isArgument.calls (k:Nat) (a0:Int) (a1:Int) (a2:ByteArray) (r:Bool) (w:World) (h:impl_isArgument.f k a0 a1 a2=some r):
  Calls Try.prog 79 #[.int .i64 a0,.int .i64 a1,.string a2] w fun e w'=>e= .returned (.bool r)∧Below w.heap.size w w':=by
 have HB:=zM (Below.refl w.heap.size w)
 have H:(if a0=1 then(if a1=0 then((impl_isShort.f a2).bind fun t=>(some t))else(some false))else((impl_hasSet.f a0).bind fun u=>(if u=true then(if a1=0 then(if a2.toList=([]:List UInt8)then(some false)else((impl_isShort.f a2).bind fun v=>(some v)))else(some false))else((impl_hasNumber.f a0).bind fun x=>(if x=true then(if a2.toList=([]:List UInt8)then((impl_within.f a1 0 200).bind fun y=>(some y))else(some false))else((impl_hasName.f a0).bind fun z=>(if z=true then(if a1=0 then((impl_IsName.f k a2).bind fun A=>(some A))else(some false))else((impl_isPatternKind.f a0).bind fun B=>(if B=true then(if a1=0 then(some (a2.toList.isEmpty))else(some false))else(some false))))))))))=some r:=h
 clear h
 by_cases d:a0=1
 ·(
 rw[if_pos d]at H
 have c4b0:(a0==1)=true:=zE d
 have c4b1:(a0 !=1)=false:=zY d
 clear d
 by_cases g:a1=0
 ·(
 rw[if_pos g]at H
 have c5b0:(a1==0)=true:=zE g
 have c5b1:(a1 !=0)=false:=zY g
 clear g
 obtain⟨t,D,H⟩:=sO H
 obtain rfl:=zI H
 go_enter Try.func79,Try.ntmps79
 go_wp2_with (first|(go_at_call 88;(with_reducible refine(impl_isShort.calls a2 t _ D.out).mono ?_);rintro e w' ⟨rfl,⟨nd,rfl⟩⟩))
 go_ret
 exact⟨sq,sb⟩)
 rw[if_neg g]at H
 have c5b0:(a1==0)=false:=zN g
 have c5b1:(a1 !=0)=true:=zX g
 obtain rfl:=zI H
 go_enter Try.func79,Try.ntmps79
 go_wp2
 go_ret
 exact⟨sq,sb⟩)
 rw[if_neg d]at H
 have c4b0:(a0==1)=false:=zN d
 have c4b1:(a0 !=1)=true:=zX d
 obtain⟨u,a,H⟩:=sO H
 by_cases o:u=true
 ·(
 subst o
 rewrite[if_pos rfl]at H
 by_cases i:a1=0
 ·(
 rw[if_pos i]at H
 have c9b0:(a1==0)=true:=zE i
 have c9b1:(a1 !=0)=false:=zY i
 clear i
 by_cases b:a2.toList=([]:List UInt8)
 ·(
 rw[if_pos b]at H
 have c10b0:(a2.toList==([]:List UInt8))=true:=zE b
 have c10b1:(a2.toList !=([]:List UInt8))=false:=zY b
 have c10b2:a2.toList.isEmpty=true:=by simpa using b
 clear b
 obtain rfl:=zI H
 go_enter Try.func79,Try.ntmps79
 go_wp2_with (first|((with_reducible refine gate_callee (f:=89) rfl ?_);refine sC (some 18) Try.func89 #[.int .i64 a0] (impl_hasSet.calls a0 true _ a.out) ?_;rintro e w' ⟨rfl,⟨nd,rfl⟩⟩;refine⟨_,rfl,?_⟩))
 go_ret
 exact⟨sq,sb⟩)
 rw[if_neg b]at H
 have c10b0:(a2.toList==([]:List UInt8))=false:=zN b
 have c10b1:(a2.toList !=([]:List UInt8))=true:=zX b
 have c10b2:a2.toList.isEmpty=false:=by simpa using b
 obtain⟨v,E,H⟩:=sO H
 obtain rfl:=zI H
 go_enter Try.func79,Try.ntmps79
 go_wp2_with (first|((with_reducible refine gate_callee (f:=89) rfl ?_);refine sC (some 18) Try.func89 #[.int .i64 a0] (impl_hasSet.calls a0 true _ a.out) ?_;rintro e w' ⟨rfl,⟨nd,rfl⟩⟩;refine⟨_,rfl,?_⟩)|(go_at_call 88;(with_reducible refine(impl_isShort.calls a2 v _ E.out).mono ?_);rintro e w' ⟨rfl,⟨nd,rfl⟩⟩))
 go_ret
 exact⟨sq,sb⟩)
 rw[if_neg i]at H
 have c9b0:(a1==0)=false:=zN i
 have c9b1:(a1 !=0)=true:=zX i
 obtain rfl:=zI H
 go_enter Try.func79,Try.ntmps79
 go_wp2_with (first|((with_reducible refine gate_callee (f:=89) rfl ?_);refine sC (some 18) Try.func89 #[.int .i64 a0] (impl_hasSet.calls a0 true _ a.out) ?_;rintro e w' ⟨rfl,⟨nd,rfl⟩⟩;refine⟨_,rfl,?_⟩))
 go_ret
 exact⟨sq,sb⟩)
 replace o:=zB o
 subst o
 rewrite[if_neg zQ]at H
 obtain⟨x,j,H⟩:=sO H
 by_cases p:x=true
 ·(
 subst p
 rewrite[if_pos rfl]at H
 by_cases c:a2.toList=([]:List UInt8)
 ·(
 rw[if_pos c]at H
 have c14b0:(a2.toList==([]:List UInt8))=true:=zE c
 have c14b1:(a2.toList !=([]:List UInt8))=false:=zY c
 have c14b2:a2.toList.isEmpty=true:=by simpa using c
 clear c
 obtain⟨y,F,H⟩:=sO H
 obtain rfl:=zI H
 go_enter Try.func79,Try.ntmps79
 go_wp2_with (first|((with_reducible refine gate_callee (f:=89) rfl ?_);refine sC (some 18) Try.func89 #[.int .i64 a0] (impl_hasSet.calls a0 false _ a.out) ?_;rintro e w' ⟨rfl,⟨nd,rfl⟩⟩;refine⟨_,rfl,?_⟩)|((with_reducible refine gate_callee (f:=90) rfl ?_);refine sC (some 31) Try.func90 #[.int .i64 a0] (impl_hasNumber.calls a0 true _ j.out) ?_;rintro e w' ⟨rfl,⟨nd,rfl⟩⟩;refine⟨_,rfl,?_⟩)|(go_at_call 91;(with_reducible refine(impl_within.calls a1 0 200 y _ F.out).mono ?_);rintro e w' ⟨rfl,⟨nd,rfl⟩⟩))
 go_ret
 exact⟨sq,sb⟩)
 rw[if_neg c]at H
 have c14b0:(a2.toList==([]:List UInt8))=false:=zN c
 have c14b1:(a2.toList !=([]:List UInt8))=true:=zX c
 have c14b2:a2.toList.isEmpty=false:=by simpa using c
 obtain rfl:=zI H
 go_enter Try.func79,Try.ntmps79
 go_wp2_with (first|((with_reducible refine gate_callee (f:=89) rfl ?_);refine sC (some 18) Try.func89 #[.int .i64 a0] (impl_hasSet.calls a0 false _ a.out) ?_;rintro e w' ⟨rfl,⟨nd,rfl⟩⟩;refine⟨_,rfl,?_⟩)|((with_reducible refine gate_callee (f:=90) rfl ?_);refine sC (some 31) Try.func90 #[.int .i64 a0] (impl_hasNumber.calls a0 true _ j.out) ?_;rintro e w' ⟨rfl,⟨nd,rfl⟩⟩;refine⟨_,rfl,?_⟩))
 go_ret
 exact⟨sq,sb⟩)
 replace p:=zB p
 subst p
 rewrite[if_neg zQ]at H
 obtain⟨z,n,H⟩:=sO H
 by_cases q:z=true
 ·(
 subst q
 rewrite[if_pos rfl]at H
 by_cases l:a1=0
 ·(
 rw[if_pos l]at H
 have c18b0:(a1==0)=true:=zE l
 have c18b1:(a1 !=0)=false:=zY l
 clear l
 obtain⟨A,G,H⟩:=sO H
 obtain rfl:=zI H
 go_enter Try.func79,Try.ntmps79
 go_wp2_with (first|((with_reducible refine gate_callee (f:=89) rfl ?_);refine sC (some 18) Try.func89 #[.int .i64 a0] (impl_hasSet.calls a0 false _ a.out) ?_;rintro e w' ⟨rfl,⟨nd,rfl⟩⟩;refine⟨_,rfl,?_⟩)|((with_reducible refine gate_callee (f:=90) rfl ?_);refine sC (some 31) Try.func90 #[.int .i64 a0] (impl_hasNumber.calls a0 false _ j.out) ?_;rintro e w' ⟨rfl,⟨nd,rfl⟩⟩;refine⟨_,rfl,?_⟩)|((with_reducible refine gate_callee (f:=92) rfl ?_);refine sC (some 40) Try.func92 #[.int .i64 a0] (impl_hasName.calls a0 true _ n.out) ?_;rintro e w' ⟨rfl,⟨nd,rfl⟩⟩;refine⟨_,rfl,?_⟩)|(go_at_call 28;(with_reducible refine(impl_IsName.calls k a2 A _ G.out).mono ?_);rintro e I ⟨rfl,hb⟩;replace HB:=sB HB hb;(try clear hb)))
 go_ret
 exact⟨sq,sb⟩)
 rw[if_neg l]at H
 have c18b0:(a1==0)=false:=zN l
 have c18b1:(a1 !=0)=true:=zX l
 obtain rfl:=zI H
 go_enter Try.func79,Try.ntmps79
 go_wp2_with (first|((with_reducible refine gate_callee (f:=89) rfl ?_);refine sC (some 18) Try.func89 #[.int .i64 a0] (impl_hasSet.calls a0 false _ a.out) ?_;rintro e w' ⟨rfl,⟨nd,rfl⟩⟩;refine⟨_,rfl,?_⟩)|((with_reducible refine gate_callee (f:=90) rfl ?_);refine sC (some 31) Try.func90 #[.int .i64 a0] (impl_hasNumber.calls a0 false _ j.out) ?_;rintro e w' ⟨rfl,⟨nd,rfl⟩⟩;refine⟨_,rfl,?_⟩)|((with_reducible refine gate_callee (f:=92) rfl ?_);refine sC (some 40) Try.func92 #[.int .i64 a0] (impl_hasName.calls a0 true _ n.out) ?_;rintro e w' ⟨rfl,⟨nd,rfl⟩⟩;refine⟨_,rfl,?_⟩))
 go_ret
 exact⟨sq,sb⟩)
 replace q:=zB q
 subst q
 rewrite[if_neg zQ]at H
 obtain⟨B,C,H⟩:=sO H
 by_cases s:B=true
 ·(
 subst s
 rewrite[if_pos rfl]at H
 by_cases m:a1=0
 ·(
 rw[if_pos m]at H
 have c23b0:(a1==0)=true:=zE m
 have c23b1:(a1 !=0)=false:=zY m
 clear m
 obtain rfl:=zI H
 go_enter Try.func79,Try.ntmps79
 go_wp2_with (first|((with_reducible refine gate_callee (f:=89) rfl ?_);refine sC (some 18) Try.func89 #[.int .i64 a0] (impl_hasSet.calls a0 false _ a.out) ?_;rintro e w' ⟨rfl,⟨nd,rfl⟩⟩;refine⟨_,rfl,?_⟩)|((with_reducible refine gate_callee (f:=90) rfl ?_);refine sC (some 31) Try.func90 #[.int .i64 a0] (impl_hasNumber.calls a0 false _ j.out) ?_;rintro e w' ⟨rfl,⟨nd,rfl⟩⟩;refine⟨_,rfl,?_⟩)|((with_reducible refine gate_callee (f:=92) rfl ?_);refine sC (some 40) Try.func92 #[.int .i64 a0] (impl_hasName.calls a0 false _ n.out) ?_;rintro e w' ⟨rfl,⟨nd,rfl⟩⟩;refine⟨_,rfl,?_⟩)|((with_reducible refine gate_callee (f:=93) rfl ?_);refine sC (some 48) Try.func93 #[.int .i64 a0] (impl_isPatternKind.calls a0 true _ C.out) ?_;rintro e w' ⟨rfl,⟨nd,rfl⟩⟩;refine⟨_,rfl,?_⟩))
 go_ret
 exact⟨sq,sb⟩)
 rw[if_neg m]at H
 have c23b0:(a1==0)=false:=zN m
 have c23b1:(a1 !=0)=true:=zX m
 obtain rfl:=zI H
 go_enter Try.func79,Try.ntmps79
 go_wp2_with (first|((with_reducible refine gate_callee (f:=89) rfl ?_);refine sC (some 18) Try.func89 #[.int .i64 a0] (impl_hasSet.calls a0 false _ a.out) ?_;rintro e w' ⟨rfl,⟨nd,rfl⟩⟩;refine⟨_,rfl,?_⟩)|((with_reducible refine gate_callee (f:=90) rfl ?_);refine sC (some 31) Try.func90 #[.int .i64 a0] (impl_hasNumber.calls a0 false _ j.out) ?_;rintro e w' ⟨rfl,⟨nd,rfl⟩⟩;refine⟨_,rfl,?_⟩)|((with_reducible refine gate_callee (f:=92) rfl ?_);refine sC (some 40) Try.func92 #[.int .i64 a0] (impl_hasName.calls a0 false _ n.out) ?_;rintro e w' ⟨rfl,⟨nd,rfl⟩⟩;refine⟨_,rfl,?_⟩)|((with_reducible refine gate_callee (f:=93) rfl ?_);refine sC (some 48) Try.func93 #[.int .i64 a0] (impl_isPatternKind.calls a0 true _ C.out) ?_;rintro e w' ⟨rfl,⟨nd,rfl⟩⟩;refine⟨_,rfl,?_⟩))
 go_ret
 exact⟨sq,sb⟩)
 replace s:=zB s
 subst s
 rewrite[if_neg zQ]at H
 obtain rfl:=zI H
 go_enter Try.func79,Try.ntmps79
 go_wp2_with (first|((with_reducible refine gate_callee (f:=89) rfl ?_);refine sC (some 18) Try.func89 #[.int .i64 a0] (impl_hasSet.calls a0 false _ a.out) ?_;rintro e w' ⟨rfl,⟨nd,rfl⟩⟩;refine⟨_,rfl,?_⟩)|((with_reducible refine gate_callee (f:=90) rfl ?_);refine sC (some 31) Try.func90 #[.int .i64 a0] (impl_hasNumber.calls a0 false _ j.out) ?_;rintro e w' ⟨rfl,⟨nd,rfl⟩⟩;refine⟨_,rfl,?_⟩)|((with_reducible refine gate_callee (f:=92) rfl ?_);refine sC (some 40) Try.func92 #[.int .i64 a0] (impl_hasName.calls a0 false _ n.out) ?_;rintro e w' ⟨rfl,⟨nd,rfl⟩⟩;refine⟨_,rfl,?_⟩)|((with_reducible refine gate_callee (f:=93) rfl ?_);refine sC (some 48) Try.func93 #[.int .i64 a0] (impl_isPatternKind.calls a0 false _ C.out) ?_;rintro e w' ⟨rfl,⟨nd,rfl⟩⟩;refine⟨_,rfl,?_⟩))
 go_ret
 exact⟨sq,sb⟩
end Go.Proofs.Ytdihlgkcpooadaa.PFnExactIsPure
