/- Printed functions: impl_within, impl_isPatternKind, impl_kidsOf, impl_isLeaf, impl_isShort, impl_hasSet, impl_hasNumber, impl_hasName. -/
import Derived.Test.YtcppdkdnpmgpmaaYEoP0
namespace Go.Proofs.Ytcppdkdnpmgpmaa.PFnExactEntryOf
open Go.RowKit Go.Proofs.YtcppdkdnpmgpmaaG Go.Proofs.YtcppdkdnpmgpmaaW.PrintWords Go.Proofs.YtcppdkdnpmgpmaaW.PrintLast Go.Proofs.YtcppdkdnpmgpmaaW.PrintMore
attribute [local go_sem] max2_int min2_int max_two min_two max_three min_three max_four min_four
set_option linter.unusedVariables false
set_option linter.unusedSimpArgs false
def impl_within.f (a0:Int) (a1:Int) (a2:Int):Option (Bool):=if a0≥a1 then(some (decide (a0≤a2)))else(some false)
set_option maxHeartbeats 8000000 in
set_option maxRecDepth 100000 in
theorem impl_within.calls (a0:Int) (a1:Int) (a2:Int) (r:Bool) (w:World) (h:impl_within.f a0 a1 a2=some r):
  Calls Try.prog 48 #[.int .i64 a0,.int .i64 a1,.int .i64 a2] w fun e w'=>e= .returned (.bool r)∧Drawn0 w w':=by
 have H:(if a0≥a1 then(some (decide (a0≤a2)))else(some false))=some r:=h
 clear h
 by_cases a:a0≥a1
 ·(
 rw[if_pos a]at H
 have c4b0:decide (a1≤a0)=true:=zT a
 clear a
 obtain rfl:=zI H
 go_enter Try.func48,Try.ntmps48
 go_wp2
 go_ret
 exact⟨by first|rfl|(simp;done)|(simp[*];done),by repeat(first|exact Drawn0.refl _|apply Drawn0.step)⟩)
 rw[if_neg a]at H
 have c4b0:decide (a1≤a0)=false:=zF a
 clear a
 obtain rfl:=zI H
 go_enter Try.func48,Try.ntmps48
 go_wp2
 go_ret
 exact⟨by first|rfl|(simp;done)|(simp[*];done),by repeat(first|exact Drawn0.refl _|apply Drawn0.step)⟩
def impl_isPatternKind.f (a0:Int):Option (Bool):=(impl_within.f a0 1 24).bind fun t241=>(some t241)
set_option maxHeartbeats 8000000 in
set_option maxRecDepth 100000 in
theorem impl_isPatternKind.calls (a0:Int) (r:Bool) (w:World) (h:impl_isPatternKind.f a0=some r):
  Calls Try.prog 58 #[.int .i64 a0] w fun e w'=>e= .returned (.bool r)∧Drawn0 w w':=by
 have H:((impl_within.f a0 1 24).bind fun a=>(some a))=some r:=h
 clear h
 obtain⟨a,b,H⟩:=sO H
 obtain rfl:=zI H
 go_enter Try.func58,Try.ntmps58
 go_wp2_with (first|((with_reducible refine gate_callee (f:=48) rfl ?_);refine sC (some 4) Try.func48 #[.int .i64 a0,.int .i64 1,.int .i64 24] (impl_within.calls a0 1 24 a _ b.out) ?_;rintro e w' ⟨rfl,⟨nd,rfl⟩⟩;refine⟨_,rfl,?_⟩))
 go_ret
 exact⟨by first|rfl|(simp;done)|(simp[*];done),by repeat(first|exact Drawn0.refl _|apply Drawn0.step)⟩
def impl_kidsOf.j0 : Nat → Int → Bool → Option (Int)
 |0,_,_=>none
 |k+1,x3,x4=>if x4=true then(some 2)else(if x3=20 then(some 1)else(if x3=21 then(some 1)else(if x3=22 then(some 1)else(some 0))))
def impl_kidsOf.f (k:Nat) (a0:Int):Option (Int):=if a0=18 then(impl_kidsOf.j0 k a0 (a0==18))else(impl_kidsOf.j0 k a0 (a0==19))
set_option maxHeartbeats 8000000 in
set_option maxRecDepth 100000 in
theorem impl_kidsOf.calls (k:Nat) (a0:Int) (r:Int) (w:World) (h:impl_kidsOf.f k a0=some r):
  Calls Try.prog 59 #[.int .i64 a0] w fun e w'=>e= .returned (.int .i64 r)∧Drawn0 w w':=by
 have H:(if a0=18 then(impl_kidsOf.j0 k a0 (a0==18))else(impl_kidsOf.j0 k a0 (a0==19)))=some r:=h
 clear h
 have j:=zM H
 clear H
 go_enter Try.func59,Try.ntmps59
 go_upto_if 4 with(fail)
 go_cut [4] (fun l wc=>∃(kq:Nat) (g:Bool),l= .bool g∧Aside0 (impl_kidsOf.j0 kq a0 g=some r)∧Aside0 (kq≤k)∧Drawn0 w wc)
 case first=>(
 have H:=j.out
 clear j
 by_cases a:a0=18
 ·(
 rw[if_pos a]at H
 have c3b0:(a0==18)=true:=zE a
 have c3b1:(a0 !=18)=false:=zY a
 clear a
 (first|rw[c3b0]|(simp only[i64_w,i32_w];rw[c3b0])|rw[c3b2]|skip)
 have H':=zM H
 clear H
 go_wp2
 go_meet
 case rel=>exact⟨_,((a0==18)),sr,H',⟨by first|omega|exact Nat.le_refl _⟩,by repeat(first|exact Drawn0.refl _|apply Drawn0.step)⟩)
 rw[if_neg a]at H
 have c3b0:(a0==18)=false:=zN a
 have c3b1:(a0 !=18)=true:=zX a
 (first|rw[c3b0]|(simp only[i64_w,i32_w];rw[c3b0])|rw[c3b2]|skip)
 have H':=zM H
 clear H
 go_wp2
 go_meet
 case rel=>exact⟨_,((a0==19)),sr,H',⟨by first|omega|exact Nat.le_refl _⟩,by repeat(first|exact Drawn0.refl _|apply Drawn0.step)⟩)
 case rest=>(
 clear j
 obtain⟨kq,g,rfl,HA,m,⟨n,rfl⟩⟩:=hcut
 cases kq with
 |zero=>exact absurd HA.out (by simp[impl_kidsOf.j0])
 |succ kj1=>(
 have H:=HA.out
 clear HA
 simp only[impl_kidsOf.j0]at H
 by_cases i:g=true
 ·(
 subst i
 rewrite[if_pos rfl]at H
 obtain rfl:=zI H
 go_wp2
 go_ret
 exact⟨by first|rfl|(simp;done)|(simp[*];done),by repeat(first|exact Drawn0.refl _|apply Drawn0.step)⟩)
 replace i:=zB i
 subst i
 rewrite[if_neg zQ]at H
 by_cases b:a0=20
 ·(
 rw[if_pos b]at H
 have c5b0:(a0==20)=true:=zE b
 have c5b1:(a0 !=20)=false:=zY b
 clear b
 obtain rfl:=zI H
 go_wp2
 go_ret
 exact⟨by first|rfl|(simp;done)|(simp[*];done),by repeat(first|exact Drawn0.refl _|apply Drawn0.step)⟩)
 rw[if_neg b]at H
 have c5b0:(a0==20)=false:=zN b
 have c5b1:(a0 !=20)=true:=zX b
 by_cases c:a0=21
 ·(
 rw[if_pos c]at H
 have c6b0:(a0==21)=true:=zE c
 have c6b1:(a0 !=21)=false:=zY c
 clear c
 obtain rfl:=zI H
 go_wp2
 go_ret
 exact⟨by first|rfl|(simp;done)|(simp[*];done),by repeat(first|exact Drawn0.refl _|apply Drawn0.step)⟩)
 rw[if_neg c]at H
 have c6b0:(a0==21)=false:=zN c
 have c6b1:(a0 !=21)=true:=zX c
 by_cases d:a0=22
 ·(
 rw[if_pos d]at H
 have c7b0:(a0==22)=true:=zE d
 have c7b1:(a0 !=22)=false:=zY d
 clear d
 obtain rfl:=zI H
 go_wp2
 go_ret
 exact⟨by first|rfl|(simp;done)|(simp[*];done),by repeat(first|exact Drawn0.refl _|apply Drawn0.step)⟩)
 rw[if_neg d]at H
 have c7b0:(a0==22)=false:=zN d
 have c7b1:(a0 !=22)=true:=zX d
 obtain rfl:=zI H
 go_wp2
 go_ret
 exact⟨by first|rfl|(simp;done)|(simp[*];done),by repeat(first|exact Drawn0.refl _|apply Drawn0.step)⟩))
def impl_isLeaf.f (k:Nat) (a0:Int):Option (Bool):=(impl_isPatternKind.f a0).bind fun t242=>(if t242=true then((impl_kidsOf.f k a0).bind fun t243=>(some (t243==0)))else(some false))
set_option maxHeartbeats 8000000 in
set_option maxRecDepth 100000 in
theorem impl_isLeaf.calls (k:Nat) (a0:Int) (r:Bool) (w:World) (h:impl_isLeaf.f k a0=some r):
  Calls Try.prog 42 #[.int .i64 a0] w fun e w'=>e= .returned (.bool r)∧Drawn0 w w':=by
 have H:((impl_isPatternKind.f a0).bind fun b=>(if b=true then((impl_kidsOf.f k a0).bind fun c=>(some (c==0)))else(some false)))=some r:=h
 clear h
 obtain⟨b,d,H⟩:=sO H
 by_cases a:b=true
 ·(
 subst a
 rewrite[if_pos rfl]at H
 obtain⟨c,g,H⟩:=sO H
 obtain rfl:=zI H
 go_enter Try.func42,Try.ntmps42
 go_wp2_with (first|((with_reducible refine gate_callee (f:=58) rfl ?_);refine sC (some 4) Try.func58 #[.int .i64 a0] (impl_isPatternKind.calls a0 true _ d.out) ?_;rintro e w' ⟨rfl,⟨nd,rfl⟩⟩;refine⟨_,rfl,?_⟩)|(go_at_call 59;(with_reducible refine(impl_kidsOf.calls k a0 c _ g.out).mono ?_);rintro e w' ⟨rfl,⟨nd,rfl⟩⟩))
 go_ret
 exact⟨by first|rfl|(simp;done)|(simp[*];done),by repeat(first|exact Drawn0.refl _|apply Drawn0.step)⟩)
 replace a:=zB a
 subst a
 rewrite[if_neg zQ]at H
 obtain rfl:=zI H
 go_enter Try.func42,Try.ntmps42
 go_wp2_with (first|((with_reducible refine gate_callee (f:=58) rfl ?_);refine sC (some 4) Try.func58 #[.int .i64 a0] (impl_isPatternKind.calls a0 false _ d.out) ?_;rintro e w' ⟨rfl,⟨nd,rfl⟩⟩;refine⟨_,rfl,?_⟩))
 go_ret
 exact⟨by first|rfl|(simp;done)|(simp[*];done),by repeat(first|exact Drawn0.refl _|apply Drawn0.step)⟩
def impl_isShort.f (a0:ByteArray):Option (Bool):=some (decide ((a0.size:Int)≤200))
set_option maxHeartbeats 8000000 in
set_option maxRecDepth 100000 in
theorem impl_isShort.calls (a0:ByteArray) (r:Bool) (w:World) (h:impl_isShort.f a0=some r):
  Calls Try.prog 60 #[.string a0] w fun e w'=>e= .returned (.bool r)∧Drawn0 w w':=by
 have H:(some (decide ((a0.size:Int)≤200)))=some r:=h
 clear h
 obtain rfl:=zI H
 go_enter Try.func60,Try.ntmps60
 go_wp2
 go_ret
 exact⟨by first|rfl|(simp;done)|(simp[*];done),by repeat(first|exact Drawn0.refl _|apply Drawn0.step)⟩
def impl_hasSet.f (a0:Int):Option (Bool):=(impl_within.f a0 2 5).bind fun t244=>(some t244)
set_option maxHeartbeats 8000000 in
set_option maxRecDepth 100000 in
theorem impl_hasSet.calls (a0:Int) (r:Bool) (w:World) (h:impl_hasSet.f a0=some r):
  Calls Try.prog 61 #[.int .i64 a0] w fun e w'=>e= .returned (.bool r)∧Drawn0 w w':=by
 have H:((impl_within.f a0 2 5).bind fun a=>(some a))=some r:=h
 clear h
 obtain⟨a,b,H⟩:=sO H
 obtain rfl:=zI H
 go_enter Try.func61,Try.ntmps61
 go_wp2_with (first|((with_reducible refine gate_callee (f:=48) rfl ?_);refine sC (some 4) Try.func48 #[.int .i64 a0,.int .i64 2,.int .i64 5] (impl_within.calls a0 2 5 a _ b.out) ?_;rintro e w' ⟨rfl,⟨nd,rfl⟩⟩;refine⟨_,rfl,?_⟩))
 go_ret
 exact⟨by first|rfl|(simp;done)|(simp[*];done),by repeat(first|exact Drawn0.refl _|apply Drawn0.step)⟩
def impl_hasNumber.f (a0:Int):Option (Bool):=(impl_within.f a0 6 10).bind fun t245=>(some t245)
set_option maxHeartbeats 8000000 in
set_option maxRecDepth 100000 in
theorem impl_hasNumber.calls (a0:Int) (r:Bool) (w:World) (h:impl_hasNumber.f a0=some r):
  Calls Try.prog 62 #[.int .i64 a0] w fun e w'=>e= .returned (.bool r)∧Drawn0 w w':=by
 have H:((impl_within.f a0 6 10).bind fun a=>(some a))=some r:=h
 clear h
 obtain⟨a,b,H⟩:=sO H
 obtain rfl:=zI H
 go_enter Try.func62,Try.ntmps62
 go_wp2_with (first|((with_reducible refine gate_callee (f:=48) rfl ?_);refine sC (some 4) Try.func48 #[.int .i64 a0,.int .i64 6,.int .i64 10] (impl_within.calls a0 6 10 a _ b.out) ?_;rintro e w' ⟨rfl,⟨nd,rfl⟩⟩;refine⟨_,rfl,?_⟩))
 go_ret
 exact⟨by first|rfl|(simp;done)|(simp[*];done),by repeat(first|exact Drawn0.refl _|apply Drawn0.step)⟩
def impl_hasName.f (a0:Int):Option (Bool):=(impl_within.f a0 21 24).bind fun t246=>(some t246)
set_option maxHeartbeats 8000000 in
set_option maxRecDepth 100000 in
theorem impl_hasName.calls (a0:Int) (r:Bool) (w:World) (h:impl_hasName.f a0=some r):
  Calls Try.prog 63 #[.int .i64 a0] w fun e w'=>e= .returned (.bool r)∧Drawn0 w w':=by
 have H:((impl_within.f a0 21 24).bind fun a=>(some a))=some r:=h
 clear h
 obtain⟨a,b,H⟩:=sO H
 obtain rfl:=zI H
 go_enter Try.func63,Try.ntmps63
 go_wp2_with (first|((with_reducible refine gate_callee (f:=48) rfl ?_);refine sC (some 4) Try.func48 #[.int .i64 a0,.int .i64 21,.int .i64 24] (impl_within.calls a0 21 24 a _ b.out) ?_;rintro e w' ⟨rfl,⟨nd,rfl⟩⟩;refine⟨_,rfl,?_⟩))
 go_ret
 exact⟨by first|rfl|(simp;done)|(simp[*];done),by repeat(first|exact Drawn0.refl _|apply Drawn0.step)⟩
end Go.Proofs.Ytcppdkdnpmgpmaa.PFnExactEntryOf
