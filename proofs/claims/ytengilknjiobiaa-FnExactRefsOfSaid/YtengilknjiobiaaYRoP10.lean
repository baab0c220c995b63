/- Printed functions: impl_within, impl_isObjectId, impl_isLetter, impl_isDigit, impl_isNameByte, impl_areAll_byte__impl_isNameByte, impl_IsName, impl_ValidValue, impl_refers. -/
import Derived.Test.YtengilknjiobiaaYRoP0
import Derived.Test.YtengilknjiobiaaYRoPE
namespace Go.Proofs.Ytengilknjiobiaa.PFnExactRefsOf
open Go.RowKit Go.Proofs.YtengilknjiobiaaG Go.Proofs.YtengilknjiobiaaW.PrintWords Go.Proofs.YtengilknjiobiaaW.PrintLast Go.Proofs.YtengilknjiobiaaW.PrintMore
attribute [local go_sem] max2_int min2_int max_two min_two max_three min_three max_four min_four
set_option linter.unusedVariables false
set_option linter.unusedSimpArgs false
def impl_within.f (a0:Int) (a1:Int) (a2:Int):Option (Bool):=if a0≥a1 then(some (decide (a0≤a2)))else(some false)
set_option maxHeartbeats 8000000 in
set_option maxRecDepth 100000 in
theorem impl_within.calls (a0:Int) (a1:Int) (a2:Int) (r:Bool) (w:World) (h:impl_within.f a0 a1 a2=some r):
  Calls Try.prog 82 #[.int .i64 a0,.int .i64 a1,.int .i64 a2] w fun e w'=>e= .returned (.bool r)∧Drawn0 w w':=by
 have H:(if a0≥a1 then(some (decide (a0≤a2)))else(some false))=some r:=h
 clear h
 by_cases a:a0≥a1
 ·(
 rw[if_pos a]at H
 have c4b0:decide (a1≤a0)=true:=zT a
 clear a
 obtain rfl:=zI H
 go_enter Try.func82,Try.ntmps82
 go_wp2
 go_ret
 exact⟨by first|rfl|(simp;done)|(simp[*];done),by repeat(first|exact Drawn0.refl _|apply Drawn0.step)⟩)
 rw[if_neg a]at H
 have c4b0:decide (a1≤a0)=false:=zF a
 clear a
 obtain rfl:=zI H
 go_enter Try.func82,Try.ntmps82
 go_wp2
 go_ret
 exact⟨by first|rfl|(simp;done)|(simp[*];done),by repeat(first|exact Drawn0.refl _|apply Drawn0.step)⟩
def impl_isObjectId.f (a0:Int):Option (Bool):=(impl_within.f a0 1 1000000).bind fun t223=>(some t223)
set_option maxHeartbeats 8000000 in
set_option maxRecDepth 100000 in
theorem impl_isObjectId.calls (a0:Int) (r:Bool) (w:World) (h:impl_isObjectId.f a0=some r):
  Calls Try.prog 88 #[.int .i64 a0] w fun e w'=>e= .returned (.bool r)∧Drawn0 w w':=by
 have H:((impl_within.f a0 1 1000000).bind fun a=>(some a))=some r:=h
 clear h
 obtain⟨a,b,H⟩:=sO H
 obtain rfl:=zI H
 go_enter Try.func88,Try.ntmps88
 go_wp2_with (first|((with_reducible refine gate_callee (f:=82) rfl ?_);refine sC (some 4) Try.func82 #[.int .i64 a0,.int .i64 1,.int .i64 1000000] (impl_within.calls a0 1 1000000 a _ b.out) ?_;rintro e w' ⟨rfl,⟨nd,rfl⟩⟩;refine⟨_,rfl,?_⟩))
 go_ret
 exact⟨by first|rfl|(simp;done)|(simp[*];done),by repeat(first|exact Drawn0.refl _|apply Drawn0.step)⟩
def impl_isLetter.f (a0:Int):Option (Bool):=if a0≥65 then(if a0≤90 then(some true)else(if a0≥97 then(some (decide (a0≤122)))else(some false)))else(if a0≥97 then(some (decide (a0≤122)))else(some false))
set_option maxHeartbeats 8000000 in
set_option maxRecDepth 100000 in
theorem impl_isLetter.calls (a0:Int) (r:Bool) (w:World) (h:impl_isLetter.f a0=some r):
  Calls Try.prog 114 #[.int .u8 a0] w fun e w'=>e= .returned (.bool r)∧Drawn0 w w':=by
 have H:(if a0≥65 then(if a0≤90 then(some true)else(if a0≥97 then(some (decide (a0≤122)))else(some false)))else(if a0≥97 then(some (decide (a0≤122)))else(some false)))=some r:=h
 clear h
 by_cases a:a0≥65
 ·(
 rw[if_pos a]at H
 have c2b0:decide (65≤a0)=true:=zT a
 clear a
 by_cases b:a0≤90
 ·(
 rw[if_pos b]at H
 have c3b0:=zT b
 clear b
 obtain rfl:=zI H
 go_enter Try.func114,Try.ntmps114
 go_wp2
 go_ret
 exact⟨by first|rfl|(simp;done)|(simp[*];done),by repeat(first|exact Drawn0.refl _|apply Drawn0.step)⟩)
 rw[if_neg b]at H
 have c3b0:=zF b
 clear b
 by_cases c:a0≥97
 ·(
 rw[if_pos c]at H
 have c4b0:decide (97≤a0)=true:=zT c
 clear c
 obtain rfl:=zI H
 go_enter Try.func114,Try.ntmps114
 go_wp2
 go_ret
 exact⟨by first|rfl|(simp;done)|(simp[*];done),by repeat(first|exact Drawn0.refl _|apply Drawn0.step)⟩)
 rw[if_neg c]at H
 have c4b0:decide (97≤a0)=false:=zF c
 clear c
 obtain rfl:=zI H
 go_enter Try.func114,Try.ntmps114
 go_wp2
 go_ret
 exact⟨by first|rfl|(simp;done)|(simp[*];done),by repeat(first|exact Drawn0.refl _|apply Drawn0.step)⟩)
 rw[if_neg a]at H
 have c2b0:decide (65≤a0)=false:=zF a
 clear a
 by_cases d:a0≥97
 ·(
 rw[if_pos d]at H
 have c5b0:decide (97≤a0)=true:=zT d
 clear d
 obtain rfl:=zI H
 go_enter Try.func114,Try.ntmps114
 go_wp2
 go_ret
 exact⟨by first|rfl|(simp;done)|(simp[*];done),by repeat(first|exact Drawn0.refl _|apply Drawn0.step)⟩)
 rw[if_neg d]at H
 have c5b0:decide (97≤a0)=false:=zF d
 clear d
 obtain rfl:=zI H
 go_enter Try.func114,Try.ntmps114
 go_wp2
 go_ret
 exact⟨by first|rfl|(simp;done)|(simp[*];done),by repeat(first|exact Drawn0.refl _|apply Drawn0.step)⟩
section
attribute [local go_sem high] eqA29
def impl_isDigit.f (a0:Int):Option (Bool):=if a0≥48 then(some (decide (a0≤57)))else(some false)
set_option maxHeartbeats 8000000 in
set_option maxRecDepth 100000 in
theorem impl_isDigit.calls (a0:Int) (r:Bool) (w:World) (h:impl_isDigit.f a0=some r):
  Calls Try.prog 125 #[.int .u8 a0] w fun e w'=>e= .returned (.bool r)∧Drawn0 w w':=by
 have H:(if a0≥48 then(some (decide (a0≤57)))else(some false))=some r:=h
 clear h
 by_cases a:a0≥48
 ·(
 rw[if_pos a]at H
 have c2b0:decide (48≤a0)=true:=zT a
 clear a
 obtain rfl:=zI H
 go_enter Try.func125,Try.ntmps125
 go_wp2
 go_ret
 exact⟨by first|rfl|(simp;done)|(simp[*];done),by repeat(first|exact Drawn0.refl _|apply Drawn0.step)⟩)
 rw[if_neg a]at H
 have c2b0:decide (48≤a0)=false:=zF a
 clear a
 obtain rfl:=zI H
 go_enter Try.func125,Try.ntmps125
 go_wp2
 go_ret
 exact⟨by first|rfl|(simp;done)|(simp[*];done),by repeat(first|exact Drawn0.refl _|apply Drawn0.step)⟩
end
section
attribute [local go_sem high] eqA29
def impl_isNameByte.f (a0:Int):Option (Bool):=(impl_isLetter.f a0).bind fun t224=>(if t224=true then(some true)else((impl_isDigit.f a0).bind fun t225=>(if t225=true then(some true)else(some (a0==95)))))
set_option maxHeartbeats 8000000 in
set_option maxRecDepth 100000 in
theorem impl_isNameByte.calls (a0:Int) (r:Bool) (w:World) (h:impl_isNameByte.f a0=some r):
  Calls Try.prog 116 #[.int .u8 a0] w fun e w'=>e= .returned (.bool r)∧Drawn0 w w':=by
 have H:((impl_isLetter.f a0).bind fun c=>(if c=true then(some true)else((impl_isDigit.f a0).bind fun d=>(if d=true then(some true)else(some (a0==95))))))=some r:=h
 clear h
 obtain⟨c,g,H⟩:=sO H
 by_cases a:c=true
 ·(
 subst a
 rewrite[if_pos rfl]at H
 obtain rfl:=zI H
 go_enter Try.func116,Try.ntmps116
 go_wp2_with (first|((with_reducible refine gate_callee (f:=114) rfl ?_);refine sC (some 4) Try.func114 #[.int .u8 a0] (impl_isLetter.calls a0 true _ g.out) ?_;rintro e w' ⟨rfl,⟨nd,rfl⟩⟩;refine⟨_,rfl,?_⟩))
 go_ret
 exact⟨by first|rfl|(simp;done)|(simp[*];done),by repeat(first|exact Drawn0.refl _|apply Drawn0.step)⟩)
 replace a:=zB a
 subst a
 rewrite[if_neg zQ]at H
 obtain⟨d,i,H⟩:=sO H
 by_cases b:d=true
 ·(
 subst b
 rewrite[if_pos rfl]at H
 obtain rfl:=zI H
 go_enter Try.func116,Try.ntmps116
 go_wp2_with (first|((with_reducible refine gate_callee (f:=114) rfl ?_);refine sC (some 4) Try.func114 #[.int .u8 a0] (impl_isLetter.calls a0 false _ g.out) ?_;rintro e w' ⟨rfl,⟨nd,rfl⟩⟩;refine⟨_,rfl,?_⟩)|(go_at_call 125;(with_reducible refine(impl_isDigit.calls a0 true _ i.out).mono ?_);rintro e w' ⟨rfl,⟨nd,rfl⟩⟩))
 go_ret
 exact⟨by first|rfl|(simp;done)|(simp[*];done),by repeat(first|exact Drawn0.refl _|apply Drawn0.step)⟩)
 replace b:=zB b
 subst b
 rewrite[if_neg zQ]at H
 obtain rfl:=zI H
 go_enter Try.func116,Try.ntmps116
 go_wp2_with (first|((with_reducible refine gate_callee (f:=114) rfl ?_);refine sC (some 4) Try.func114 #[.int .u8 a0] (impl_isLetter.calls a0 false _ g.out) ?_;rintro e w' ⟨rfl,⟨nd,rfl⟩⟩;refine⟨_,rfl,?_⟩)|(go_at_call 125;(with_reducible refine(impl_isDigit.calls a0 false _ i.out).mono ?_);rintro e w' ⟨rfl,⟨nd,rfl⟩⟩))
 go_ret
 exact⟨by first|rfl|(simp;done)|(simp[*];done),by repeat(first|exact Drawn0.refl _|apply Drawn0.step)⟩
end
section
attribute [local go_sem high] eqA29
def impl_areAll_byte__impl_isNameByte.l0 : Nat → List Int → Int → Int → Option (Bool)
 |0,_,_,_=>none
 |k+1,x7,x8,x9=>if x9<x8 then(if 0≤x9 then(if x9<(x7.length:Int)then((impl_isNameByte.f (rd x7 x9)).bind fun t227=>(if t227=true then(impl_areAll_byte__impl_isNameByte.l0 k x7 x8 (wrap64 (x9+1)))else(some false)))else(none))else(none))else(some true)
def impl_areAll_byte__impl_isNameByte.f (k:Nat) (l0:List Int):Option (Bool):=impl_areAll_byte__impl_isNameByte.l0 k l0 (l0.length:Int) 0
set_option maxHeartbeats 8000000 in
set_option maxRecDepth 100000 in
theorem impl_areAll_byte__impl_isNameByte.calls (k:Nat) (A0:Option Addr) (c0:Nat) (l0:List Int) (r:Bool) (w:World) (hr0:Kd.C (Kd.int .u8) w A0 l0.length l0) (hc0:l0.length≤c0) (h:impl_areAll_byte__impl_isNameByte.f k l0=some r):
  Calls Try.prog 115 #[.slice A0 l0.length c0,.func (.func 116) #[] #[]] w fun e w'=>e= .returned (.bool r)∧Drawn0 w w':=by
 have m:=zM hr0
 have v:=zM hc0
 clear hr0 hc0
 have H:(impl_areAll_byte__impl_isNameByte.l0 k l0 (l0.length:Int) 0)=some r:=h
 clear h
 have H':=zM H
 clear H
 go_enter Try.func115,Try.ntmps115
 go_wp2
 go_loopg [9] k (fun kq p w'=>∃(a:Int),p= .int .i64 a∧Aside0 (impl_areAll_byte__impl_isNameByte.l0 kq l0 (l0.length:Int) a=some r)∧Aside0 (kq≤k)∧Drawn0 w w')
 case atStart=>exact⟨(0),sr,H',⟨Nat.le_refl _⟩,by repeat(first|exact Drawn0.refl _|apply Drawn0.step)⟩
 case round=>(
 clear H'
 obtain⟨a,rfl,HA,n,⟨x,rfl⟩⟩:=hrel
 cases gk with
 |zero=>exact absurd HA.out (by simp[impl_areAll_byte__impl_isNameByte.l0])
 |succ k1=>(
 have H:=HA.out
 clear HA
 simp only[impl_areAll_byte__impl_isNameByte.l0]at H
 by_cases d:a<(l0.length:Int)
 ·(
 rw[if_pos d]at H
 have c3b0:=zT d
 clear d
 by_cases g:0≤a
 ·(
 rw[if_pos g]at H
 have c4b0:=zT g
 clear g
 by_cases i:a<(l0.length:Int)
 ·(
 rw[if_pos i]at H
 have c5b0:=zT i
 clear i
 obtain⟨q,o,H⟩:=sO H
 by_cases j:q=true
 ·(
 subst j
 rewrite[if_pos rfl]at H
 have H':=zM H
 clear H
 have b:0≤(a:Int):=zzA
 have c:a<(l0.length:Int):=zzA
 obtain⟨s,l,u⟩:=Kd.at_int m.out a b c
 cases l
 replace b:=eq_true b
 replace c:=eq_true c
 go_wp2_with (first|(go_at_call 116;(with_reducible refine(impl_isNameByte.calls (rd l0 a) true _ o.out).mono ?_);rintro e w' ⟨rfl,⟨nd,rfl⟩⟩))
 go_roundg k1
 case measure=>have:=n.out;omega
 case rel=>exact⟨(wrap64 (a+1)),sr,H',⟨by have:=n.out;omega⟩,by repeat(first|exact Drawn0.refl _|apply Drawn0.step)⟩)
 replace j:=zB j
 subst j
 rewrite[if_neg zQ]at H
 obtain rfl:=zI H
 have b:0≤(a:Int):=zzA
 have c:a<(l0.length:Int):=zzA
 obtain⟨s,l,u⟩:=Kd.at_int m.out a b c
 cases l
 replace b:=eq_true b
 replace c:=eq_true c
 go_wp2_with (first|(go_at_call 116;(with_reducible refine(impl_isNameByte.calls (rd l0 a) false _ o.out).mono ?_);rintro e w' ⟨rfl,⟨nd,rfl⟩⟩))
 go_ret
 exact⟨by first|rfl|(simp;done)|(simp[*];done),by repeat(first|exact Drawn0.refl _|apply Drawn0.step)⟩)
 rw[if_neg i]at H
 exact absurd H (by simp))
 rw[if_neg g]at H
 exact absurd H (by simp))
 rw[if_neg d]at H
 have c3b0:=zF d
 clear d
 obtain rfl:=zI H
 go_wp2
 go_ret
 exact⟨by first|rfl|(simp;done)|(simp[*];done),by repeat(first|exact Drawn0.refl _|apply Drawn0.step)⟩))
end
section
attribute [local go_sem high] eqA29
def impl_IsName.f (k:Nat) (a0:ByteArray):Option (Bool):=if(a0.size:Int)≥1 then(if(a0.size:Int)≤12 then(if 0<(a0.size:Int)then((impl_isLetter.f (bt a0 0)).bind fun t228=>(if t228=true then((conv_bytes.f a0).bind fun t229=>((impl_areAll_byte__impl_isNameByte.f k t229).bind fun t232=>(some t232)))else(some false)))else(none))else(some false))else(some false)
set_option maxHeartbeats 8000000 in
set_option maxRecDepth 100000 in
theorem impl_IsName.calls (k:Nat) (a0:ByteArray) (r:Bool) (w:World) (h:impl_IsName.f k a0=some r):
  Calls Try.prog 93 #[.string a0] w fun e w'=>e= .returned (.bool r)∧Below w.heap.size w w':=by
 have HB:=zM (Below.refl w.heap.size w)
 have H:(if(a0.size:Int)≥1 then(if(a0.size:Int)≤12 then(if 0<(a0.size:Int)then((impl_isLetter.f (bt a0 0)).bind fun j=>(if j=true then((conv_bytes.f a0).bind fun d=>((impl_areAll_byte__impl_isNameByte.f k d).bind fun l=>(some l)))else(some false)))else(none))else(some false))else(some false))=some r:=h
 clear h
 by_cases a:(a0.size:Int)≥1
 ·(
 rw[if_pos a]at H
 have c2b0:decide (1≤(a0.size:Int))=true:=zT a
 have c2b1:decide (1≤a0.size)=true:=zT (by omega)
 clear a
 by_cases b:(a0.size:Int)≤12
 ·(
 rw[if_pos b]at H
 have c3b0:=zT b
 have c3b1:decide (a0.size≤12)=true:=zT (by omega)
 clear b
 by_cases g:0<(a0.size:Int)
 ·(
 rw[if_pos g]at H
 have c4b0:=zT g
 have c4b1:decide (0<a0.size)=true:=zT (by omega)
 clear g
 obtain⟨j,o,H⟩:=sO H
 by_cases i:j=true
 ·(
 subst i
 rewrite[if_pos rfl]at H
 obtain⟨d,q,H⟩:=sO H
 obtain⟨l,s,H⟩:=sO H
 obtain rfl:=zI H
 have m:0≤(0:Int):=(by omega)
 have c:0<a0.size:=(by have:(0:Int)<(a0.size:Int):=zzA;omega)
 have u:∀h:0<a0.size,((a0[0]'h).toNat:Int)=bt a0 0:=bt_at a0 0
 clear m
 have v:(0<(a0.size:Int))=True:=eq_true (zzA)
 replace c:=eq_true c
 go_enter Try.func93,Try.ntmps93
 go_wp2_with (first|(go_at_call 114;(with_reducible refine(impl_isLetter.calls (bt a0 0) true _ o.out).mono ?_);rintro e w' ⟨rfl,⟨nd,rfl⟩⟩)|((with_reducible refine gate_conv (src:=9) (dst:=106) rfl ?_);(try(refine gate_guard (by rfl) ?_;dsimp only));refine conv_at rfl rfl _ rfl _ rfl Try.underlying9 Try.underlying106 Try.underlying5 ?_;refine(conv_bytes.calls 5 a0 d _ q.out).mono ?_;rintro e z ⟨A,rfl,p,hb⟩;refine⟨_,rfl,?_⟩;have n:=zM (Kd.V_lower (Kd.V_mono (ok':=fun x=>True) p (fun x B=>trivial)) (below_size (sH HB.out)));replace HB:=sB HB hb;(try clear hb);(try clear p);obtain⟨D,E,y⟩:=Kd.V_slice n.out;subst y)|(go_at_call 115;(with_reducible refine(impl_areAll_byte__impl_isNameByte.calls k _ _ d l _ ?side1 ?side2 s.out).mono ?_);(case side1=>exact sD ((Kd.V_reads' n.out).2.2));(case side2=>exact(Kd.V_reads' n.out).2.1);rintro e w' ⟨rfl,⟨nd,rfl⟩⟩))
 go_ret
 exact⟨sq,sb⟩)
 replace i:=zB i
 subst i
 rewrite[if_neg zQ]at H
 obtain rfl:=zI H
 have m:0≤(0:Int):=(by omega)
 have c:0<a0.size:=(by have:(0:Int)<(a0.size:Int):=zzA;omega)
 have u:∀h:0<a0.size,((a0[0]'h).toNat:Int)=bt a0 0:=bt_at a0 0
 clear m
 have v:(0<(a0.size:Int))=True:=eq_true (zzA)
 replace c:=eq_true c
 go_enter Try.func93,Try.ntmps93
 go_wp2_with (first|(go_at_call 114;(with_reducible refine(impl_isLetter.calls (bt a0 0) false _ o.out).mono ?_);rintro e w' ⟨rfl,⟨nd,rfl⟩⟩))
 go_ret
 exact⟨sq,sb⟩)
 rw[if_neg g]at H
 exact absurd H (by simp))
 rw[if_neg b]at H
 have c3b0:=zF b
 have c3b1:decide (a0.size≤12)=false:=zF (by omega)
 clear b
 obtain rfl:=zI H
 go_enter Try.func93,Try.ntmps93
 go_wp2
 go_ret
 exact⟨sq,sb⟩)
 rw[if_neg a]at H
 have c2b0:decide (1≤(a0.size:Int))=false:=zF a
 have c2b1:decide (1≤a0.size)=false:=zF (by omega)
 clear a
 obtain rfl:=zI H
 go_enter Try.func93,Try.ntmps93
 go_wp2
 go_ret
 exact⟨sq,sb⟩
end
section
attribute [local go_sem high] eqA29
def impl_ValidValue.j0 : Nat → Int → Bool → Int → Int → ByteArray → Int → Option (Bool)
 |0,_,_,_,_,_,_=>none
 |k+1,x4,x49,x234000,x234001,x234002,x234003=>if x49=true then(if(x234001==0&&(x234002.toList.isEmpty))=true then((impl_isObjectId.f x234003).bind fun t235=>(some t235))else(some false))else(if x4=7 then(if(x234001==0&&(x234003==0))=true then((impl_IsName.f k x234002).bind fun t236=>(some t236))else(some false))else(if x4=8 then(if(x234001==0&&(x234003==0))=true then((impl_IsName.f k x234002).bind fun t237=>(some t237))else(some false))else(some false)))
def impl_ValidValue.f (k:Nat) (a0_0:Int) (a0_1:Int) (a0_2:ByteArray) (a0_3:Int):Option (Bool):=if a0_0=1 then(if(a0_1==0&&(a0_3==0))=true then(some (decide ((a0_2.size:Int)≤200)))else(some false))else(if a0_0=2 then(if(a0_2.toList.isEmpty&&(a0_3==0))=true then((impl_within.f a0_1 (-1000000000000) 1000000000000).bind fun t234=>(some t234))else(some false))else(if a0_0=3 then(if(a0_1==0&&(a0_3==0))=true then(if(a0_2.size:Int)≥1 then(some (decide ((a0_2.size:Int)≤1200)))else(some false))else(some false))else(if a0_0=4 then(impl_ValidValue.j0 k a0_0 (a0_0==4) a0_0 a0_1 a0_2 a0_3)else(if a0_0=5 then(impl_ValidValue.j0 k a0_0 (a0_0==5) a0_0 a0_1 a0_2 a0_3)else(impl_ValidValue.j0 k a0_0 (a0_0==6) a0_0 a0_1 a0_2 a0_3)))))
set_option maxHeartbeats 8000000 in
set_option maxRecDepth 100000 in
theorem impl_ValidValue.calls (k:Nat) (a0_0:Int) (a0_1:Int) (a0_2:ByteArray) (a0_3:Int) (r:Bool) (w:World) (h:impl_ValidValue.f k a0_0 a0_1 a0_2 a0_3=some r):
  Calls Try.prog 90 #[.agg #[.int .i64 a0_0,.int .i64 a0_1,.string a0_2,.int .i64 a0_3]] w fun e w'=>e= .returned (.bool r)∧Below w.heap.size w w':=by
 have W:=Try.underlying29
 have HB:=zM (Below.refl w.heap.size w)
 have H:(if a0_0=1 then(if(a0_1==0&&(a0_3==0))=true then(some (decide ((a0_2.size:Int)≤200)))else(some false))else(if a0_0=2 then(if(a0_2.toList.isEmpty&&(a0_3==0))=true then((impl_within.f a0_1 (-1000000000000) 1000000000000).bind fun B=>(some B))else(some false))else(if a0_0=3 then(if(a0_1==0&&(a0_3==0))=true then(if(a0_2.size:Int)≥1 then(some (decide ((a0_2.size:Int)≤1200)))else(some false))else(some false))else(if a0_0=4 then(impl_ValidValue.j0 k a0_0 (a0_0==4) a0_0 a0_1 a0_2 a0_3)else(if a0_0=5 then(impl_ValidValue.j0 k a0_0 (a0_0==5) a0_0 a0_1 a0_2 a0_3)else(impl_ValidValue.j0 k a0_0 (a0_0==6) a0_0 a0_1 a0_2 a0_3))))))=some r:=h
 clear h
 by_cases j:a0_0=1
 ·(
 rw[if_pos j]at H
 have c2b0:(a0_0==1)=true:=zE j
 have c2b1:(a0_0 !=1)=false:=zY j
 clear j
 by_cases b:(a0_1==0&&(a0_3==0))=true
 ·(
 rw[if_pos b]at H
 have c3b0:(a0_1==0&&(a0_3==0))=true:=b
 (try(have c3b1:decide (a0_1=0&&(a0_3==0))=true:=by simpa using b))
 (try(have c3b2:(a0_1==0&&(a0_3==0))=true:=by simpa using b))
 clear b
 obtain rfl:=zI H
 go_enter Try.func90,Try.ntmps90
 go_wp2_with (first|((with_reducible refine gate_dst (N:=1) rfl ?_);(try(refine gate_guard (by rfl) ?_;dsimp only));refine sV (N:=1) (cs:= #[.int .i64 a0_0,.int .i64 a0_1,.string a0_2,.int .i64 a0_3]) (t:=29) ?_;intro l hg X hbox hb;have a:=zM (hbox);have o:=sG HB hg;have p:=sG HB hg;replace HB:=sB HB hb;clear hb hbox hg;obtain⟨Y,Z,aa,ab,ac,ad,ae,af⟩:=cells4 a.out))
 go_ret
 exact⟨sq,sb⟩)
 rw[if_neg b]at H
 have c3b0:(a0_1==0&&(a0_3==0))=false:=by simpa using b
 (try(have c3b1:decide (a0_1=0&&(a0_3==0))=false:=by simpa using b))
 (try(have c3b2:(a0_1==0&&(a0_3==0))=false:=by simpa using b))
 (try(have c3b3:¬(a0_1=0&&(a0_3==0)):=by simpa using b))
 clear b
 obtain rfl:=zI H
 go_enter Try.func90,Try.ntmps90
 go_wp2_with (first|((with_reducible refine gate_dst (N:=1) rfl ?_);(try(refine gate_guard (by rfl) ?_;dsimp only));refine sV (N:=1) (cs:= #[.int .i64 a0_0,.int .i64 a0_1,.string a0_2,.int .i64 a0_3]) (t:=29) ?_;intro l hg w6 hbox hb;have a:=zM (hbox);have o:=sG HB hg;have p:=sG HB hg;replace HB:=sB HB hb;clear hb hbox hg;obtain⟨ag,ah,ai,aj,ak,al,am,an⟩:=cells4 a.out))
 go_ret
 exact⟨sq,sb⟩)
 rw[if_neg j]at H
 have c2b0:(a0_0==1)=false:=zN j
 have c2b1:(a0_0 !=1)=true:=zX j
 by_cases m:a0_0=2
 ·(
 rw[if_pos m]at H
 have c8b0:(a0_0==2)=true:=zE m
 have c8b1:(a0_0 !=2)=false:=zY m
 clear m
 by_cases x:(a0_2.toList.isEmpty&&(a0_3==0))=true
 ·(
 rw[if_pos x]at H
 have c9b0:(a0_2.toList.isEmpty&&(a0_3==0))=true:=x
 clear x
 obtain⟨B,E,H⟩:=sO H
 obtain rfl:=zI H
 go_enter Try.func90,Try.ntmps90
 go_wp2_with (first|((with_reducible refine gate_dst (N:=1) rfl ?_);(try(refine gate_guard (by rfl) ?_;dsimp only));refine sV (N:=1) (cs:= #[.int .i64 a0_0,.int .i64 a0_1,.string a0_2,.int .i64 a0_3]) (t:=29) ?_;intro l hg ao hbox hb;have a:=zM (hbox);have o:=sG HB hg;have p:=sG HB hg;replace HB:=sB HB hb;clear hb hbox hg;obtain⟨ap,aq,ar,au,av,aw,ax,ay⟩:=cells4 a.out)|(go_at_call 82;(with_reducible refine(impl_within.calls a0_1 (-1000000000000) 1000000000000 B _ E.out).mono ?_);rintro e w' ⟨rfl,⟨nd,rfl⟩⟩))
 go_ret
 exact⟨sq,sb⟩)
 rw[if_neg x]at H
 have c9b0:(a0_2.toList.isEmpty&&(a0_3==0))=false:=by simpa using x
 clear x
 obtain rfl:=zI H
 go_enter Try.func90,Try.ntmps90
 go_wp2_with (first|((with_reducible refine gate_dst (N:=1) rfl ?_);(try(refine gate_guard (by rfl) ?_;dsimp only));refine sV (N:=1) (cs:= #[.int .i64 a0_0,.int .i64 a0_1,.string a0_2,.int .i64 a0_3]) (t:=29) ?_;intro l hg az hbox hb;have a:=zM (hbox);have o:=sG HB hg;have p:=sG HB hg;replace HB:=sB HB hb;clear hb hbox hg;obtain⟨aA,aB,aC,aD,aE,aF,aG,aH⟩:=cells4 a.out))
 go_ret
 exact⟨sq,sb⟩)
 rw[if_neg m]at H
 have c8b0:(a0_0==2)=false:=zN m
 have c8b1:(a0_0 !=2)=true:=zX m
 by_cases n:a0_0=3
 ·(
 rw[if_pos n]at H
 have c15b0:(a0_0==3)=true:=zE n
 have c15b1:(a0_0 !=3)=false:=zY n
 clear n
 by_cases c:(a0_1==0&&(a0_3==0))=true
 ·(
 rw[if_pos c]at H
 have c16b0:(a0_1==0&&(a0_3==0))=true:=c
 (try(have c16b1:decide (a0_1=0&&(a0_3==0))=true:=by simpa using c))
 (try(have c16b2:(a0_1==0&&(a0_3==0))=true:=by simpa using c))
 clear c
 by_cases y:(a0_2.size:Int)≥1
 ·(
 rw[if_pos y]at H
 have c17b0:decide (1≤(a0_2.size:Int))=true:=zT y
 have c17b1:decide (1≤a0_2.size)=true:=zT (by omega)
 clear y
 obtain rfl:=zI H
 go_enter Try.func90,Try.ntmps90
 go_wp2_with (first|((with_reducible refine gate_dst (N:=1) rfl ?_);(try(refine gate_guard (by rfl) ?_;dsimp only));refine sV (N:=1) (cs:= #[.int .i64 a0_0,.int .i64 a0_1,.string a0_2,.int .i64 a0_3]) (t:=29) ?_;intro l hg aI hbox hb;have a:=zM (hbox);have o:=sG HB hg;have p:=sG HB hg;replace HB:=sB HB hb;clear hb hbox hg;obtain⟨aJ,aK,aL,aM,aN,aO,aP,aQ⟩:=cells4 a.out))
 go_ret
 exact⟨sq,sb⟩)
 rw[if_neg y]at H
 have c17b0:decide (1≤(a0_2.size:Int))=false:=zF y
 have c17b1:decide (1≤a0_2.size)=false:=zF (by omega)
 clear y
 obtain rfl:=zI H
 go_enter Try.func90,Try.ntmps90
 go_wp2_with (first|((with_reducible refine gate_dst (N:=1) rfl ?_);(try(refine gate_guard (by rfl) ?_;dsimp only));refine sV (N:=1) (cs:= #[.int .i64 a0_0,.int .i64 a0_1,.string a0_2,.int .i64 a0_3]) (t:=29) ?_;intro l hg aR hbox hb;have a:=zM (hbox);have o:=sG HB hg;have p:=sG HB hg;replace HB:=sB HB hb;clear hb hbox hg;obtain⟨aS,aT,aU,aV,aW,aX,aY,aZ⟩:=cells4 a.out))
 go_ret
 exact⟨sq,sb⟩)
 rw[if_neg c]at H
 have c16b0:(a0_1==0&&(a0_3==0))=false:=by simpa using c
 (try(have c16b1:decide (a0_1=0&&(a0_3==0))=false:=by simpa using c))
 (try(have c16b2:(a0_1==0&&(a0_3==0))=false:=by simpa using c))
 (try(have c16b3:¬(a0_1=0&&(a0_3==0)):=by simpa using c))
 clear c
 obtain rfl:=zI H
 go_enter Try.func90,Try.ntmps90
 go_wp2_with (first|((with_reducible refine gate_dst (N:=1) rfl ?_);(try(refine gate_guard (by rfl) ?_;dsimp only));refine sV (N:=1) (cs:= #[.int .i64 a0_0,.int .i64 a0_1,.string a0_2,.int .i64 a0_3]) (t:=29) ?_;intro l hg a3 hbox hb;have a:=zM (hbox);have o:=sG HB hg;have p:=sG HB hg;replace HB:=sB HB hb;clear hb hbox hg;obtain⟨a4,a5,a6,a7,a8,a9,ba,bb⟩:=cells4 a.out))
 go_ret
 exact⟨sq,sb⟩)
 rw[if_neg n]at H
 have c15b0:(a0_0==3)=false:=zN n
 have c15b1:(a0_0 !=3)=true:=zX n
 have D:=zM H
 clear H
 go_enter Try.func90,Try.ntmps90
 go_upto_if 49 with(first|((with_reducible refine gate_dst (N:=1) rfl ?_);(try(refine gate_guard (by rfl) ?_;dsimp only));refine sV (N:=1) (cs:= #[.int .i64 a0_0,.int .i64 a0_1,.string a0_2,.int .i64 a0_3]) (t:=29) ?_;intro l hg bc hbox hb;have a:=zM (hbox);have o:=sG HB hg;have p:=sG HB hg;replace HB:=sB HB hb;clear hb hbox hg;obtain⟨F,G,I,J,K,L,M,O⟩:=cells4 a.out))
 (try simp only[zP])
 go_cut [49] (fun P wc=>∃(kq:Nat) (z:Bool),P= .bool z∧Aside0 (impl_ValidValue.j0 kq a0_0 z a0_0 a0_1 a0_2 a0_3=some r)∧Aside0 (kq≤k)∧Aside0 (wc.heap[l]?=some (.cells #[.int .i64 a0_0,.int .i64 a0_1,.string a0_2,.int .i64 a0_3] 29 (0,0)))∧Aside0 (Below w.heap.size w wc))
 case first=>(
 have H:=D.out
 clear D
 by_cases q:a0_0=4
 ·(
 rw[if_pos q]at H
 have c27b0:(a0_0==4)=true:=zE q
 have c27b1:(a0_0 !=4)=false:=zY q
 clear q
 (first|rw[c27b0]|(simp only[i64_w,i32_w];rw[c27b0])|rw[c27b2]|skip)
 have H':=zM H
 clear H
 go_wp2
 go_meet
 case rel=>exact⟨_,((a0_0==4)),sr,H',⟨by first|omega|exact Nat.le_refl _⟩,⟨by exact sT a.out⟩,⟨sb⟩⟩)
 rw[if_neg q]at H
 have c27b0:(a0_0==4)=false:=zN q
 have c27b1:(a0_0 !=4)=true:=zX q
 (first|rw[c27b0]|(simp only[i64_w,i32_w];rw[c27b0])|rw[c27b2]|skip)
 by_cases s:a0_0=5
 ·(
 rw[if_pos s]at H
 have c28b0:(a0_0==5)=true:=zE s
 have c28b1:(a0_0 !=5)=false:=zY s
 clear s
 have H':=zM H
 clear H
 go_wp2
 go_meet
 case rel=>exact⟨_,((a0_0==5)),sr,H',⟨by first|omega|exact Nat.le_refl _⟩,⟨by exact sT a.out⟩,⟨sb⟩⟩)
 rw[if_neg s]at H
 have c28b0:(a0_0==5)=false:=zN s
 have c28b1:(a0_0 !=5)=true:=zX s
 have H':=zM H
 clear H
 go_wp2
 go_meet
 case rel=>exact⟨_,((a0_0==6)),sr,H',⟨by first|omega|exact Nat.le_refl _⟩,⟨by exact sT a.out⟩,⟨sb⟩⟩)
 case rest=>(
 clear D
 try clear j
 try clear c2b0
 try clear c2b1
 try clear m
 try clear c8b0
 try clear c8b1
 try clear n
 try clear c15b0
 try clear c15b1
 try clear F
 try clear G
 try clear I
 try clear J
 try clear K
 try clear L
 try clear M
 try clear O
 obtain⟨kq,z,rfl,HA,bd,a,HB⟩:=hcut
 cases kq with
 |zero=>exact absurd HA.out (by simp[impl_ValidValue.j0])
 |succ kj23=>(
 have H:=HA.out
 clear HA
 simp only[impl_ValidValue.j0]at H
 by_cases A:z=true
 ·(
 subst A
 rewrite[if_pos rfl]at H
 by_cases d:(a0_1==0&&(a0_2.toList.isEmpty))=true
 ·(
 rw[if_pos d]at H
 have c30b0:(a0_1==0&&(a0_2.toList.isEmpty))=true:=d
 (try(have c30b1:decide (a0_1=0&&(a0_2.toList.isEmpty))=true:=by simpa using d))
 (try(have c30b2:(a0_1==0&&(a0_2.toList.isEmpty))=true:=by simpa using d))
 clear d
 obtain⟨Q,R,H⟩:=sO H
 obtain rfl:=zI H
 obtain⟨be,bf,bg,bh,bi,bj,bk,bl⟩:=cells4 a.out
 go_wp2_with (first|(go_at_call 88;(with_reducible refine(impl_isObjectId.calls a0_3 Q _ R.out).mono ?_);rintro e w' ⟨rfl,⟨nd,rfl⟩⟩))
 go_ret
 exact⟨sq,sb⟩)
 rw[if_neg d]at H
 have c30b0:(a0_1==0&&(a0_2.toList.isEmpty))=false:=by simpa using d
 (try(have c30b1:decide (a0_1=0&&(a0_2.toList.isEmpty))=false:=by simpa using d))
 (try(have c30b2:(a0_1==0&&(a0_2.toList.isEmpty))=false:=by simpa using d))
 (try(have c30b3:¬(a0_1=0&&(a0_2.toList.isEmpty)):=by simpa using d))
 clear d
 obtain rfl:=zI H
 obtain⟨bm,bn,bo,bp,bq,br,bs,bu⟩:=cells4 a.out
 go_wp2
 go_ret
 exact⟨sq,sb⟩)
 replace A:=zB A
 subst A
 rewrite[if_neg zQ]at H
 by_cases u:a0_0=7
 ·(
 rw[if_pos u]at H
 have c34b0:(a0_0==7)=true:=zE u
 have c34b1:(a0_0 !=7)=false:=zY u
 clear u
 by_cases g:(a0_1==0&&(a0_3==0))=true
 ·(
 rw[if_pos g]at H
 have c35b0:(a0_1==0&&(a0_3==0))=true:=g
 (try(have c35b1:decide (a0_1=0&&(a0_3==0))=true:=by simpa using g))
 (try(have c35b2:(a0_1==0&&(a0_3==0))=true:=by simpa using g))
 clear g
 obtain⟨S,T,H⟩:=sO H
 obtain rfl:=zI H
 obtain⟨bv,bw,bx,bz,bA,bB,bC,bD⟩:=cells4 a.out
 go_wp2_with (first|(go_at_call 93;(with_reducible refine(impl_IsName.calls kj23 a0_2 S _ T.out).mono ?_);rintro e bE ⟨rfl,hb⟩;replace a:=sK a hb;replace HB:=sB HB hb;(try clear hb)))
 go_ret
 exact⟨sq,sb⟩)
 rw[if_neg g]at H
 have c35b0:(a0_1==0&&(a0_3==0))=false:=by simpa using g
 (try(have c35b1:decide (a0_1=0&&(a0_3==0))=false:=by simpa using g))
 (try(have c35b2:(a0_1==0&&(a0_3==0))=false:=by simpa using g))
 (try(have c35b3:¬(a0_1=0&&(a0_3==0)):=by simpa using g))
 clear g
 obtain rfl:=zI H
 obtain⟨bF,bG,bH,bI,bJ,bK,bL,bM⟩:=cells4 a.out
 go_wp2
 go_ret
 exact⟨sq,sb⟩)
 rw[if_neg u]at H
 have c34b0:(a0_0==7)=false:=zN u
 have c34b1:(a0_0 !=7)=true:=zX u
 by_cases v:a0_0=8
 ·(
 rw[if_pos v]at H
 have c40b0:(a0_0==8)=true:=zE v
 have c40b1:(a0_0 !=8)=false:=zY v
 clear v
 by_cases i:(a0_1==0&&(a0_3==0))=true
 ·(
 rw[if_pos i]at H
 have c41b0:(a0_1==0&&(a0_3==0))=true:=i
 (try(have c41b1:decide (a0_1=0&&(a0_3==0))=true:=by simpa using i))
 (try(have c41b2:(a0_1==0&&(a0_3==0))=true:=by simpa using i))
 clear i
 obtain⟨U,V,H⟩:=sO H
 obtain rfl:=zI H
 obtain⟨bN,bO,bP,bQ,bR,bS,bT,bU⟩:=cells4 a.out
 go_wp2_with (first|(go_at_call 93;(with_reducible refine(impl_IsName.calls kj23 a0_2 U _ V.out).mono ?_);rintro e bV ⟨rfl,hb⟩;replace a:=sK a hb;replace HB:=sB HB hb;(try clear hb)))
 go_ret
 exact⟨sq,sb⟩)
 rw[if_neg i]at H
 have c41b0:(a0_1==0&&(a0_3==0))=false:=by simpa using i
 (try(have c41b1:decide (a0_1=0&&(a0_3==0))=false:=by simpa using i))
 (try(have c41b2:(a0_1==0&&(a0_3==0))=false:=by simpa using i))
 (try(have c41b3:¬(a0_1=0&&(a0_3==0)):=by simpa using i))
 clear i
 obtain rfl:=zI H
 obtain⟨bW,bX,bY,bZ,b0,b1,b2,b3⟩:=cells4 a.out
 go_wp2
 go_ret
 exact⟨sq,sb⟩)
 rw[if_neg v]at H
 have c40b0:(a0_0==8)=false:=zN v
 have c40b1:(a0_0 !=8)=true:=zX v
 obtain rfl:=zI H
 go_wp2
 go_ret
 exact⟨sq,sb⟩))
end
section
attribute [local go_sem high] eqA29
def impl_refers.f (a0:Int):Option (Bool):=(impl_within.f a0 4 6).bind fun t296=>(some t296)
set_option maxHeartbeats 8000000 in
set_option maxRecDepth 100000 in
theorem impl_refers.calls (a0:Int) (r:Bool) (w:World) (h:impl_refers.f a0=some r):
  Calls Try.prog 57 #[.int .i64 a0] w fun e w'=>e= .returned (.bool r)∧Drawn0 w w':=by
 have H:((impl_within.f a0 4 6).bind fun a=>(some a))=some r:=h
 clear h
 obtain⟨a,b,H⟩:=sO H
 obtain rfl:=zI H
 go_enter Try.func57,Try.ntmps57
 go_wp2_with (first|((with_reducible refine gate_callee (f:=82) rfl ?_);refine sC (some 4) Try.func82 #[.int .i64 a0,.int .i64 4,.int .i64 6] (impl_within.calls a0 4 6 a _ b.out) ?_;rintro e w' ⟨rfl,⟨nd,rfl⟩⟩;refine⟨_,rfl,?_⟩))
 go_ret
 exact⟨by first|rfl|(simp;done)|(simp[*];done),by repeat(first|exact Drawn0.refl _|apply Drawn0.step)⟩
end
end Go.Proofs.Ytengilknjiobiaa.PFnExactRefsOf
