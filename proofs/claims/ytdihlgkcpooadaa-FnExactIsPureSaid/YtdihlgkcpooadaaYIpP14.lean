/- Printed functions: impl_isLetter, impl_isDigit, impl_isNameByte, impl_areAll_byte__impl_isNameByte, impl_IsName. -/
import Derived.Test.YtdihlgkcpooadaaYIpP0
namespace Go.Proofs.Ytdihlgkcpooadaa.PFnExactIsPure
open Go.RowKit Go.Proofs.YtdihlgkcpooadaaG Go.Proofs.YtdihlgkcpooadaaW.PrintWords Go.Proofs.YtdihlgkcpooadaaW.PrintLast Go.Proofs.YtdihlgkcpooadaaW.PrintMore
attribute [local go_sem] max2_int min2_int max_two min_two max_three min_three max_four min_four
set_option linter.unusedVariables false
set_option linter.unusedSimpArgs false
def impl_isLetter.f (a0:Int):Option (Bool):=if a0≥65 then(if a0≤90 then(some true)else(if a0≥97 then(some (decide (a0≤122)))else(some false)))else(if a0≥97 then(some (decide (a0≤122)))else(some false))
set_option maxHeartbeats 8000000 in
set_option maxRecDepth 100000 in
theorem impl_isLetter.calls (a0:Int) (r:Bool) (w:World) (h:impl_isLetter.f a0=some r):
  Calls Try.prog 50 #[.int .u8 a0] w fun e w'=>e= .returned (.bool r)∧Drawn0 w w':=by
 have H:(if a0≥65 then(if a0≤90 then(some true)else(if a0≥97 then(some (decide (a0≤122)))else(some false)))else(if a0≥97 then(some (decide (a0≤122)))else(some false)))=some r:=h
 clear h
 by_cases a:a0≥65
 ·(
 rw[if_pos a]at H
 have c2b0:decide (65≤a0)=true:=zT a
 clear a
 by_cases b:a0≤90
 ·(
 rw[if_pos b]at H
 have c3b0:=zT b
 clear b
 obtain rfl:=zI H
 go_enter Try.func50,Try.ntmps50
 go_wp2
 go_ret
 exact⟨by first|rfl|(simp;done)|(simp[*];done),by repeat(first|exact Drawn0.refl _|apply Drawn0.step)⟩)
 rw[if_neg b]at H
 have c3b0:=zF b
 clear b
 by_cases c:a0≥97
 ·(
 rw[if_pos c]at H
 have c4b0:decide (97≤a0)=true:=zT c
 clear c
 obtain rfl:=zI H
 go_enter Try.func50,Try.ntmps50
 go_wp2
 go_ret
 exact⟨by first|rfl|(simp;done)|(simp[*];done),by repeat(first|exact Drawn0.refl _|apply Drawn0.step)⟩)
 rw[if_neg c]at H
 have c4b0:decide (97≤a0)=false:=zF c
 clear c
 obtain rfl:=zI H
 go_enter Try.func50,Try.ntmps50
 go_wp2
 go_ret
 exact⟨by first|rfl|(simp;done)|(simp[*];done),by repeat(first|exact Drawn0.refl _|apply Drawn0.step)⟩)
 rw[if_neg a]at H
 have c2b0:decide (65≤a0)=false:=zF a
 clear a
 by_cases d:a0≥97
 ·(
 rw[if_pos d]at H
 have c5b0:decide (97≤a0)=true:=zT d
 clear d
 obtain rfl:=zI H
 go_enter Try.func50,Try.ntmps50
 go_wp2
 go_ret
 exact⟨by first|rfl|(simp;done)|(simp[*];done),by repeat(first|exact Drawn0.refl _|apply Drawn0.step)⟩)
 rw[if_neg d]at H
 have c5b0:decide (97≤a0)=false:=zF d
 clear d
 obtain rfl:=zI H
 go_enter Try.func50,Try.ntmps50
 go_wp2
 go_ret
 exact⟨by first|rfl|(simp;done)|(simp[*];done),by repeat(first|exact Drawn0.refl _|apply Drawn0.step)⟩
def impl_isDigit.f (a0:Int):Option (Bool):=if a0≥48 then(some (decide (a0≤57)))else(some false)
set_option maxHeartbeats 8000000 in
set_option maxRecDepth 100000 in
theorem impl_isDigit.calls (a0:Int) (r:Bool) (w:World) (h:impl_isDigit.f a0=some r):
  Calls Try.prog 78 #[.int .u8 a0] w fun e w'=>e= .returned (.bool r)∧Drawn0 w w':=by
 have H:(if a0≥48 then(some (decide (a0≤57)))else(some false))=some r:=h
 clear h
 by_cases a:a0≥48
 ·(
 rw[if_pos a]at H
 have c2b0:decide (48≤a0)=true:=zT a
 clear a
 obtain rfl:=zI H
 go_enter Try.func78,Try.ntmps78
 go_wp2
 go_ret
 exact⟨by first|rfl|(simp;done)|(simp[*];done),by repeat(first|exact Drawn0.refl _|apply Drawn0.step)⟩)
 rw[if_neg a]at H
 have c2b0:decide (48≤a0)=false:=zF a
 clear a
 obtain rfl:=zI H
 go_enter Try.func78,Try.ntmps78
 go_wp2
 go_ret
 exact⟨by first|rfl|(simp;done)|(simp[*];done),by repeat(first|exact Drawn0.refl _|apply Drawn0.step)⟩
def impl_isNameByte.f (a0:Int):Option (Bool):=(impl_isLetter.f a0).bind fun t243=>(if t243=true then(some true)else((impl_isDigit.f a0).bind fun t244=>(if t244=true then(some true)else(some (a0==95)))))
set_option maxHeartbeats 8000000 in
set_option maxRecDepth 100000 in
theorem impl_isNameByte.calls (a0:Int) (r:Bool) (w:World) (h:impl_isNameByte.f a0=some r):
  Calls Try.prog 52 #[.int .u8 a0] w fun e w'=>e= .returned (.bool r)∧Drawn0 w w':=by
 have H:((impl_isLetter.f a0).bind fun c=>(if c=true then(some true)else((impl_isDigit.f a0).bind fun d=>(if d=true then(some true)else(some (a0==95))))))=some r:=h
 clear h
 obtain⟨c,g,H⟩:=sO H
 by_cases a:c=true
 ·(
 subst a
 rewrite[if_pos rfl]at H
 obtain rfl:=zI H
 go_enter Try.func52,Try.ntmps52
 go_wp2_with (first|((with_reducible refine gate_callee (f:=50) rfl ?_);refine sC (some 4) Try.func50 #[.int .u8 a0] (impl_isLetter.calls a0 true _ g.out) ?_;rintro e w' ⟨rfl,⟨nd,rfl⟩⟩;refine⟨_,rfl,?_⟩))
 go_ret
 exact⟨by first|rfl|(simp;done)|(simp[*];done),by repeat(first|exact Drawn0.refl _|apply Drawn0.step)⟩)
 replace a:=zB a
 subst a
 rewrite[if_neg zQ]at H
 obtain⟨d,i,H⟩:=sO H
 by_cases b:d=true
 ·(
 subst b
 rewrite[if_pos rfl]at H
 obtain rfl:=zI H
 go_enter Try.func52,Try.ntmps52
 go_wp2_with (first|((with_reducible refine gate_callee (f:=50) rfl ?_);refine sC (some 4) Try.func50 #[.int .u8 a0] (impl_isLetter.calls a0 false _ g.out) ?_;rintro e w' ⟨rfl,⟨nd,rfl⟩⟩;refine⟨_,rfl,?_⟩)|(go_at_call 78;(with_reducible refine(impl_isDigit.calls a0 true _ i.out).mono ?_);rintro e w' ⟨rfl,⟨nd,rfl⟩⟩))
 go_ret
 exact⟨by first|rfl|(simp;done)|(simp[*];done),by repeat(first|exact Drawn0.refl _|apply Drawn0.step)⟩)
 replace b:=zB b
 subst b
 rewrite[if_neg zQ]at H
 obtain rfl:=zI H
 go_enter Try.func52,Try.ntmps52
 go_wp2_with (first|((with_reducible refine gate_callee (f:=50) rfl ?_);refine sC (some 4) Try.func50 #[.int .u8 a0] (impl_isLetter.calls a0 false _ g.out) ?_;rintro e w' ⟨rfl,⟨nd,rfl⟩⟩;refine⟨_,rfl,?_⟩)|(go_at_call 78;(with_reducible refine(impl_isDigit.calls a0 false _ i.out).mono ?_);rintro e w' ⟨rfl,⟨nd,rfl⟩⟩))
 go_ret
 exact⟨by first|rfl|(simp;done)|(simp[*];done),by repeat(first|exact Drawn0.refl _|apply Drawn0.step)⟩
def impl_areAll_byte__impl_isNameByte.l0 : Nat → List Int → Int → Int → Option (Bool)
 |0,_,_,_=>none
 |k+1,x7,x8,x9=>if x9<x8 then(if 0≤x9 then(if x9<(x7.length:Int)then((impl_isNameByte.f (rd x7 x9)).bind fun t246=>(if t246=true then(impl_areAll_byte__impl_isNameByte.l0 k x7 x8 (wrap64 (x9+1)))else(some false)))else(none))else(none))else(some true)
def impl_areAll_byte__impl_isNameByte.f (k:Nat) (l0:List Int):Option (Bool):=impl_areAll_byte__impl_isNameByte.l0 k l0 (l0.length:Int) 0
set_option maxHeartbeats 8000000 in
set_option maxRecDepth 100000 in
theorem impl_areAll_byte__impl_isNameByte.calls (k:Nat) (A0:Option Addr) (c0:Nat) (l0:List Int) (r:Bool) (w:World) (hr0:Kd.C (Kd.int .u8) w A0 l0.length l0) (hc0:l0.length≤c0) (h:impl_areAll_byte__impl_isNameByte.f k l0=some r):
  Calls Try.prog 51 #[.slice A0 l0.length c0,.func (.func 52) #[] #[]] w fun e w'=>e= .returned (.bool r)∧Drawn0 w w':=by
 have m:=zM hr0
 have u:=zM hc0
 clear hr0 hc0
 have H:(impl_areAll_byte__impl_isNameByte.l0 k l0 (l0.length:Int) 0)=some r:=h
 clear h
 have H':=zM H
 clear H
 go_enter Try.func51,Try.ntmps51
 go_wp2
 go_loopg [9] k (fun kq p w'=>∃(a:Int),p= .int .i64 a∧Aside0 (impl_areAll_byte__impl_isNameByte.l0 kq l0 (l0.length:Int) a=some r)∧Aside0 (kq≤k)∧Drawn0 w w')
 case atStart=>exact⟨(0),sr,H',⟨Nat.le_refl _⟩,by repeat(first|exact Drawn0.refl _|apply Drawn0.step)⟩
 case round=>(
 clear H'
 obtain⟨a,rfl,HA,n,⟨v,rfl⟩⟩:=hrel
 cases gk with
 |zero=>exact absurd HA.out (by simp[impl_areAll_byte__impl_isNameByte.l0])
 |succ k1=>(
 have H:=HA.out
 clear HA
 simp only[impl_areAll_byte__impl_isNameByte.l0]at H
 by_cases d:a<(l0.length:Int)
 ·(
 rw[if_pos d]at H
 have c3b0:=zT d
 clear d
 by_cases g:0≤a
 ·(
 rw[if_pos g]at H
 have c4b0:=zT g
 clear g
 by_cases i:a<(l0.length:Int)
 ·(
 rw[if_pos i]at H
 have c5b0:=zT i
 clear i
 obtain⟨q,o,H⟩:=sO H
 by_cases j:q=true
 ·(
 subst j
 rewrite[if_pos rfl]at H
 have H':=zM H
 clear H
 have b:0≤(a:Int):=zzA
 have c:a<(l0.length:Int):=zzA
 obtain⟨s,l,t⟩:=Kd.at_int m.out a b c
 cases l
 replace b:=eq_true b
 replace c:=eq_true c
 go_wp2_with (first|(go_at_call 52;(with_reducible refine(impl_isNameByte.calls (rd l0 a) true _ o.out).mono ?_);rintro e w' ⟨rfl,⟨nd,rfl⟩⟩))
 go_roundg k1
 case measure=>have:=n.out;omega
 case rel=>exact⟨(wrap64 (a+1)),sr,H',⟨by have:=n.out;omega⟩,by repeat(first|exact Drawn0.refl _|apply Drawn0.step)⟩)
 replace j:=zB j
 subst j
 rewrite[if_neg zQ]at H
 obtain rfl:=zI H
 have b:0≤(a:Int):=zzA
 have c:a<(l0.length:Int):=zzA
 obtain⟨s,l,t⟩:=Kd.at_int m.out a b c
 cases l
 replace b:=eq_true b
 replace c:=eq_true c
 go_wp2_with (first|(go_at_call 52;(with_reducible refine(impl_isNameByte.calls (rd l0 a) false _ o.out).mono ?_);rintro e w' ⟨rfl,⟨nd,rfl⟩⟩))
 go_ret
 exact⟨by first|rfl|(simp;done)|(simp[*];done),by repeat(first|exact Drawn0.refl _|apply Drawn0.step)⟩)
 rw[if_neg i]at H
 exact absurd H (by simp))
 rw[if_neg g]at H
 exact absurd H (by simp))
 rw[if_neg d]at H
 have c3b0:=zF d
 clear d
 obtain rfl:=zI H
 go_wp2
 go_ret
 exact⟨by first|rfl|(simp;done)|(simp[*];done),by repeat(first|exact Drawn0.refl _|apply Drawn0.step)⟩))
def impl_IsName.f (k:Nat) (a0:ByteArray):Option (Bool):=if(a0.size:Int)≥1 then(if(a0.size:Int)≤12 then(if 0<(a0.size:Int)then((impl_isLetter.f (bt a0 0)).bind fun t247=>(if t247=true then((conv_bytes.f a0).bind fun t248=>((impl_areAll_byte__impl_isNameByte.f k t248).bind fun t251=>(some t251)))else(some false)))else(none))else(some false))else(some false)
set_option maxHeartbeats 8000000 in
set_option maxRecDepth 100000 in
theorem impl_IsName.calls (k:Nat) (a0:ByteArray) (r:Bool) (w:World) (h:impl_IsName.f k a0=some r):
  Calls Try.prog 28 #[.string a0] w fun e w'=>e= .returned (.bool r)∧Below w.heap.size w w':=by
 have HB:=zM (Below.refl w.heap.size w)
 have H:(if(a0.size:Int)≥1 then(if(a0.size:Int)≤12 then(if 0<(a0.size:Int)then((impl_isLetter.f (bt a0 0)).bind fun j=>(if j=true then((conv_bytes.f a0).bind fun d=>((impl_areAll_byte__impl_isNameByte.f k d).bind fun l=>(some l)))else(some false)))else(none))else(some false))else(some false))=some r:=h
 clear h
 by_cases a:(a0.size:Int)≥1
 ·(
 rw[if_pos a]at H
 have c2b0:decide (1≤(a0.size:Int))=true:=zT a
 have c2b1:decide (1≤a0.size)=true:=zT (by omega)
 clear a
 by_cases b:(a0.size:Int)≤12
 ·(
 rw[if_pos b]at H
 have c3b0:=zT b
 have c3b1:decide (a0.size≤12)=true:=zT (by omega)
 clear b
 by_cases g:0<(a0.size:Int)
 ·(
 rw[if_pos g]at H
 have c4b0:=zT g
 have c4b1:decide (0<a0.size)=true:=zT (by omega)
 clear g
 obtain⟨j,o,H⟩:=sO H
 by_cases i:j=true
 ·(
 subst i
 rewrite[if_pos rfl]at H
 obtain⟨d,q,H⟩:=sO H
 obtain⟨l,s,H⟩:=sO H
 obtain rfl:=zI H
 have m:0≤(0:Int):=(by omega)
 have c:0<a0.size:=(by have:(0:Int)<(a0.size:Int):=zzA;omega)
 have t:∀h:0<a0.size,((a0[0]'h).toNat:Int)=bt a0 0:=bt_at a0 0
 clear m
 have u:(0<(a0.size:Int))=True:=eq_true (zzA)
 replace c:=eq_true c
 go_enter Try.func28,Try.ntmps28
 go_wp2_with (first|(go_at_call 50;(with_reducible refine(impl_isLetter.calls (bt a0 0) true _ o.out).mono ?_);rintro e w' ⟨rfl,⟨nd,rfl⟩⟩)|((with_reducible refine gate_conv (src:=9) (dst:=82) rfl ?_);(try(refine gate_guard (by rfl) ?_;dsimp only));refine conv_at rfl rfl _ rfl _ rfl Try.underlying9 Try.underlying82 Try.underlying5 ?_;refine(conv_bytes.calls 5 a0 d _ q.out).mono ?_;rintro e y ⟨z,rfl,p,hb⟩;refine⟨_,rfl,?_⟩;have n:=zM (Kd.V_lower (Kd.V_mono (ok':=fun v=>True) p (fun v A=>trivial)) (below_size (sH HB.out)));replace HB:=sB HB hb;(try clear hb);(try clear p);obtain⟨B,D,x⟩:=Kd.V_slice n.out;subst x)|(go_at_call 51;(with_reducible refine(impl_areAll_byte__impl_isNameByte.calls k _ _ d l _ ?side1 ?side2 s.out).mono ?_);(case side1=>exact sD ((Kd.V_reads' n.out).2.2));(case side2=>exact(Kd.V_reads' n.out).2.1);rintro e w' ⟨rfl,⟨nd,rfl⟩⟩))
 go_ret
 exact⟨sq,sb⟩)
 replace i:=zB i
 subst i
 rewrite[if_neg zQ]at H
 obtain rfl:=zI H
 have m:0≤(0:Int):=(by omega)
 have c:0<a0.size:=(by have:(0:Int)<(a0.size:Int):=zzA;omega)
 have t:∀h:0<a0.size,((a0[0]'h).toNat:Int)=bt a0 0:=bt_at a0 0
 clear m
 have u:(0<(a0.size:Int))=True:=eq_true (zzA)
 replace c:=eq_true c
 go_enter Try.func28,Try.ntmps28
 go_wp2_with (first|(go_at_call 50;(with_reducible refine(impl_isLetter.calls (bt a0 0) false _ o.out).mono ?_);rintro e w' ⟨rfl,⟨nd,rfl⟩⟩))
 go_ret
 exact⟨sq,sb⟩)
 rw[if_neg g]at H
 exact absurd H (by simp))
 rw[if_neg b]at H
 have c3b0:=zF b
 have c3b1:decide (a0.size≤12)=false:=zF (by omega)
 clear b
 obtain rfl:=zI H
 go_enter Try.func28,Try.ntmps28
 go_wp2
 go_ret
 exact⟨sq,sb⟩)
 rw[if_neg a]at H
 have c2b0:decide (1≤(a0.size:Int))=false:=zF a
 have c2b1:decide (1≤a0.size)=false:=zF (by omega)
 clear a
 obtain rfl:=zI H
 go_enter Try.func28,Try.ntmps28
 go_wp2
 go_ret
 exact⟨sq,sb⟩
end Go.Proofs.Ytdihlgkcpooadaa.PFnExactIsPure
