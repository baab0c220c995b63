/- Printed functions: spec_l02Letter, spec_l02Digit, spec_l02NameEnd, spec_IsName. -/
import Derived.Test.YtdihlgkcpooadaaYIpP0
namespace Go.Proofs.Ytdihlgkcpooadaa.PFnExactIsPure
open Go.RowKit Go.Proofs.YtdihlgkcpooadaaG Go.Proofs.YtdihlgkcpooadaaW.PrintWords Go.Proofs.YtdihlgkcpooadaaW.PrintLast Go.Proofs.YtdihlgkcpooadaaW.PrintMore
attribute [local go_sem] max2_int min2_int max_two min_two max_three min_three max_four min_four
set_option linter.unusedVariables false
set_option linter.unusedSimpArgs false
def spec_l02Letter.f (a0:Int):Option (Bool):=if a0≥65 then(if a0≤90 then(some true)else(if a0≥97 then(some (decide (a0≤122)))else(some false)))else(if a0≥97 then(some (decide (a0≤122)))else(some false))
set_option maxHeartbeats 8000000 in
set_option maxRecDepth 100000 in
theorem spec_l02Letter.calls (a0:Int) (r:Bool) (w:World) (h:spec_l02Letter.f a0=some r):
  Calls Try.prog 75 #[.int .u8 a0] w fun e w'=>e= .returned (.bool r)∧Drawn0 w w':=by
 have H:(if a0≥65 then(if a0≤90 then(some true)else(if a0≥97 then(some (decide (a0≤122)))else(some false)))else(if a0≥97 then(some (decide (a0≤122)))else(some false)))=some r:=h
 clear h
 by_cases a:a0≥65
 ·(
 rw[if_pos a]at H
 have c2b0:decide (65≤a0)=true:=zT a
 clear a
 by_cases b:a0≤90
 ·(
 rw[if_pos b]at H
 have c3b0:=zT b
 clear b
 obtain rfl:=zI H
 go_enter Try.func75,Try.ntmps75
 go_wp2
 go_ret
 exact⟨by first|rfl|(simp;done)|(simp[*];done),by repeat(first|exact Drawn0.refl _|apply Drawn0.step)⟩)
 rw[if_neg b]at H
 have c3b0:=zF b
 clear b
 by_cases c:a0≥97
 ·(
 rw[if_pos c]at H
 have c4b0:decide (97≤a0)=true:=zT c
 clear c
 obtain rfl:=zI H
 go_enter Try.func75,Try.ntmps75
 go_wp2
 go_ret
 exact⟨by first|rfl|(simp;done)|(simp[*];done),by repeat(first|exact Drawn0.refl _|apply Drawn0.step)⟩)
 rw[if_neg c]at H
 have c4b0:decide (97≤a0)=false:=zF c
 clear c
 obtain rfl:=zI H
 go_enter Try.func75,Try.ntmps75
 go_wp2
 go_ret
 exact⟨by first|rfl|(simp;done)|(simp[*];done),by repeat(first|exact Drawn0.refl _|apply Drawn0.step)⟩)
 rw[if_neg a]at H
 have c2b0:decide (65≤a0)=false:=zF a
 clear a
 by_cases d:a0≥97
 ·(
 rw[if_pos d]at H
 have c5b0:decide (97≤a0)=true:=zT d
 clear d
 obtain rfl:=zI H
 go_enter Try.func75,Try.ntmps75
 go_wp2
 go_ret
 exact⟨by first|rfl|(simp;done)|(simp[*];done),by repeat(first|exact Drawn0.refl _|apply Drawn0.step)⟩)
 rw[if_neg d]at H
 have c5b0:decide (97≤a0)=false:=zF d
 clear d
 obtain rfl:=zI H
 go_enter Try.func75,Try.ntmps75
 go_wp2
 go_ret
 exact⟨by first|rfl|(simp;done)|(simp[*];done),by repeat(first|exact Drawn0.refl _|apply Drawn0.step)⟩
def spec_l02Digit.f (a0:Int):Option (Bool):=if a0≥48 then(some (decide (a0≤57)))else(some false)
set_option maxHeartbeats 8000000 in
set_option maxRecDepth 100000 in
theorem spec_l02Digit.calls (a0:Int) (r:Bool) (w:World) (h:spec_l02Digit.f a0=some r):
  Calls Try.prog 76 #[.int .u8 a0] w fun e w'=>e= .returned (.bool r)∧Drawn0 w w':=by
 have H:(if a0≥48 then(some (decide (a0≤57)))else(some false))=some r:=h
 clear h
 by_cases a:a0≥48
 ·(
 rw[if_pos a]at H
 have c2b0:decide (48≤a0)=true:=zT a
 clear a
 obtain rfl:=zI H
 go_enter Try.func76,Try.ntmps76
 go_wp2
 go_ret
 exact⟨by first|rfl|(simp;done)|(simp[*];done),by repeat(first|exact Drawn0.refl _|apply Drawn0.step)⟩)
 rw[if_neg a]at H
 have c2b0:decide (48≤a0)=false:=zF a
 clear a
 obtain rfl:=zI H
 go_enter Try.func76,Try.ntmps76
 go_wp2
 go_ret
 exact⟨by first|rfl|(simp;done)|(simp[*];done),by repeat(first|exact Drawn0.refl _|apply Drawn0.step)⟩
mutual
def spec_l02NameEnd.j0 : Nat → ByteArray → Int → Bool → Option (Int)
 |0,_,_,_=>none
 |k+1,x0,x1,x15=>if x15=true then(some x1)else(spec_l02NameEnd.l0 k x0 x1)
def spec_l02NameEnd.l0 : Nat → ByteArray → Int → Option (Int)
 |0,_,_=>none
 |k+1,x0,x1=>if x1<(x0.size:Int)then(if 0≤x1 then((spec_l02Letter.f (bt x0 x1)).bind fun t148=>(if t148=true then(spec_l02NameEnd.l0 k x0 (wrap64 (x1+1)))else((spec_l02Digit.f (bt x0 x1)).bind fun t149=>(if t149=true then(spec_l02NameEnd.l0 k x0 (wrap64 (x1+1)))else(if(bt x0 x1)=95 then(spec_l02NameEnd.l0 k x0 (wrap64 (x1+1)))else(some x1))))))else(none))else(some x1)
end
def spec_l02NameEnd.f (k:Nat) (a0:ByteArray) (a1:Int):Option (Int):=if a1≥(a0.size:Int)then(spec_l02NameEnd.j0 k a0 a1 true)else(if 0≤a1 then(if a1<(a0.size:Int)then((spec_l02Letter.f (bt a0 a1)).bind fun t147=>(spec_l02NameEnd.j0 k a0 a1 (!t147)))else(none))else(none))
set_option maxHeartbeats 8000000 in
set_option maxRecDepth 100000 in
theorem spec_l02NameEnd.calls (k:Nat) (a0:ByteArray) (a1:Int) (r:Int) (w:World) (h:spec_l02NameEnd.f k a0 a1=some r):
  Calls Try.prog 48 #[.string a0,.int .i64 a1] w fun e w'=>e= .returned (.int .i64 r)∧Drawn0 w w':=by
 have H:(if a1≥(a0.size:Int)then(spec_l02NameEnd.j0 k a0 a1 true)else(if 0≤a1 then(if a1<(a0.size:Int)then((spec_l02Letter.f (bt a0 a1)).bind fun s=>(spec_l02NameEnd.j0 k a0 a1 (!s)))else(none))else(none)))=some r:=h
 clear h
 have B:=zM H
 clear H
 go_enter Try.func48,Try.ntmps48
 go_upto_region 1 with(fail)
 go_cut [15] (fun I wc=>∃(kq:Nat) (t:Bool),I= .bool t∧Aside0 (spec_l02NameEnd.j0 kq a0 a1 t=some r)∧Aside0 (kq≤k)∧Drawn0 w wc)
 case first=>(
 have H:=B.out
 clear B
 by_cases j:a1≥(a0.size:Int)
 ·(
 rw[if_pos j]at H
 have c4b0:decide ((a0.size:Int)≤a1)=true:=zT j
 clear j
 (first|rw[c4b0]|(simp only[i64_w,i32_w];rw[c4b0])|rw[c4b2]|skip)
 have H':=zM H
 clear H
 go_wp2
 go_meet
 case rel=>exact⟨_,(true),sr,H',⟨by first|omega|exact Nat.le_refl _⟩,by repeat(first|exact Drawn0.refl _|apply Drawn0.step)⟩)
 rw[if_neg j]at H
 have c4b0:decide ((a0.size:Int)≤a1)=false:=zF j
 clear j
 (first|rw[c4b0]|(simp only[i64_w,i32_w];rw[c4b0])|rw[c4b2]|skip)
 by_cases u:0≤a1
 ·(
 rw[if_pos u]at H
 have c5b0:=zT u
 clear u
 by_cases v:a1<(a0.size:Int)
 ·(
 rw[if_pos v]at H
 have c6b0:=zT v
 clear v
 obtain⟨s,J,H⟩:=sO H
 have H':=zM H
 clear H
 have E:0≤(a1:Int):=zzA
 have F:a1<(a0.size:Int):=zzA
 have O:=bt_at a0 a1
 replace E:=eq_true E
 replace F:=eq_true F
 go_wp2_with (first|(go_at_call 75;(with_reducible refine(spec_l02Letter.calls (bt a0 a1) s _ J.out).mono ?_);rintro e w' ⟨rfl,⟨nd,rfl⟩⟩))
 go_meet
 case rel=>exact⟨_,(!s),sr,H',⟨by first|omega|exact Nat.le_refl _⟩,by repeat(first|exact Drawn0.refl _|apply Drawn0.step)⟩)
 rw[if_neg v]at H
 exact absurd H (by simp))
 rw[if_neg u]at H
 exact absurd H (by simp))
 case rest=>(
 clear B
 obtain⟨kq,t,rfl,HA,l,⟨P,rfl⟩⟩:=hcut
 cases kq with
 |zero=>exact absurd HA.out (by simp[spec_l02NameEnd.j0])
 |succ kj2=>(
 have H:=HA.out
 clear HA
 simp only[spec_l02NameEnd.j0]at H
 by_cases o:t=true
 ·(
 subst o
 rewrite[if_pos rfl]at H
 obtain rfl:=zI H
 go_wp2
 go_ret
 exact⟨by first|rfl|(simp;done)|(simp[*];done),by repeat(first|exact Drawn0.refl _|apply Drawn0.step)⟩)
 replace o:=zB o
 subst o
 rewrite[if_neg zQ]at H
 have H':=zM H
 clear H
 go_wp2
 go_loopg [1] kj2 (fun kq K w'=>∃(a:Int),K= .int .i64 a∧Aside0 (spec_l02NameEnd.l0 kq a0 a=some r)∧Aside0 (kq≤kj2)∧Drawn0 w w')
 case atStart=>exact⟨(a1),sr,H',⟨Nat.le_refl _⟩,by repeat(first|exact Drawn0.refl _|apply Drawn0.step)⟩
 case round=>(
 clear H'
 try clear o
 obtain⟨a,rfl,HA,m,⟨Q,rfl⟩⟩:=hrel
 cases gk with
 |zero=>exact absurd HA.out (by simp[spec_l02NameEnd.l0])
 |succ k2=>(
 have H:=HA.out
 clear HA
 simp only[spec_l02NameEnd.l0]at H
 by_cases n:a<(a0.size:Int)
 ·(
 rw[if_pos n]at H
 have c10b0:=zT n
 clear n
 by_cases x:0≤a
 ·(
 rw[if_pos x]at H
 have c11b0:=zT x
 clear x
 obtain⟨L,y,H⟩:=sO H
 by_cases z:L=true
 ·(
 subst z
 rewrite[if_pos rfl]at H
 have H':=zM H
 clear H
 have b:0≤(a:Int):=zzA
 have c:a<(a0.size:Int):=zzA
 have C:=bt_at a0 a
 replace b:=eq_true b
 replace c:=eq_true c
 go_wp2_with (first|(go_at_call 75;(with_reducible refine(spec_l02Letter.calls (bt a0 a) true _ y.out).mono ?_);rintro e w' ⟨rfl,⟨nd,rfl⟩⟩))
 go_roundg k2
 case measure=>have:=l.out;have:=m.out;omega
 case rel=>exact⟨(wrap64 (a+1)),sr,H',⟨by have:=l.out;have:=m.out;omega⟩,by repeat(first|exact Drawn0.refl _|apply Drawn0.step)⟩)
 replace z:=zB z
 subst z
 rewrite[if_neg zQ]at H
 obtain⟨M,D,H⟩:=sO H
 by_cases A:M=true
 ·(
 subst A
 rewrite[if_pos rfl]at H
 have H':=zM H
 clear H
 have b:0≤(a:Int):=zzA
 have c:a<(a0.size:Int):=zzA
 have C:=bt_at a0 a
 replace b:=eq_true b
 replace c:=eq_true c
 go_wp2_with (first|(go_at_call 75;(with_reducible refine(spec_l02Letter.calls (bt a0 a) false _ y.out).mono ?_);rintro e w' ⟨rfl,⟨nd,rfl⟩⟩;have d:0≤(a:Int):=zzA;have g:a<(a0.size:Int):=zzA;have G:=bt_at a0 a;replace d:=eq_true d;replace g:=eq_true g)|(go_at_call 76;(with_reducible refine(spec_l02Digit.calls (bt a0 a) true _ D.out).mono ?_);rintro e w' ⟨rfl,⟨nd,rfl⟩⟩))
 go_roundg k2
 case measure=>have:=l.out;have:=m.out;omega
 case rel=>exact⟨(wrap64 (a+1)),sr,H',⟨by have:=l.out;have:=m.out;omega⟩,by repeat(first|exact Drawn0.refl _|apply Drawn0.step)⟩)
 replace A:=zB A
 subst A
 rewrite[if_neg zQ]at H
 by_cases i:(bt a0 a)=95
 ·(
 rw[if_pos i]at H
 have c19b0:((bt a0 a)==95)=true:=zE i
 have c19b1:((bt a0 a) !=95)=false:=zY i
 clear i
 have H':=zM H
 clear H
 have b:0≤(a:Int):=zzA
 have c:a<(a0.size:Int):=zzA
 have C:=bt_at a0 a
 replace b:=eq_true b
 replace c:=eq_true c
 go_wp2_with (first|(go_at_call 75;(with_reducible refine(spec_l02Letter.calls (bt a0 a) false _ y.out).mono ?_);rintro e w' ⟨rfl,⟨nd,rfl⟩⟩;have d:0≤(a:Int):=zzA;have g:a<(a0.size:Int):=zzA;have G:=bt_at a0 a;replace d:=eq_true d;replace g:=eq_true g)|(go_at_call 76;(with_reducible refine(spec_l02Digit.calls (bt a0 a) false _ D.out).mono ?_);rintro e w' ⟨rfl,⟨nd,rfl⟩⟩;have p:0≤(a:Int):=zzA;have q:a<(a0.size:Int):=zzA;have N:=bt_at a0 a;replace p:=eq_true p;replace q:=eq_true q))
 go_roundg k2
 case measure=>have:=l.out;have:=m.out;omega
 case rel=>exact⟨(wrap64 (a+1)),sr,H',⟨by have:=l.out;have:=m.out;omega⟩,by repeat(first|exact Drawn0.refl _|apply Drawn0.step)⟩)
 rw[if_neg i]at H
 have c19b0:((bt a0 a)==95)=false:=zN i
 have c19b1:((bt a0 a) !=95)=true:=zX i
 obtain rfl:=zI H
 have b:0≤(a:Int):=zzA
 have c:a<(a0.size:Int):=zzA
 have C:=bt_at a0 a
 replace b:=eq_true b
 replace c:=eq_true c
 go_wp2_with (first|(go_at_call 75;(with_reducible refine(spec_l02Letter.calls (bt a0 a) false _ y.out).mono ?_);rintro e w' ⟨rfl,⟨nd,rfl⟩⟩;have d:0≤(a:Int):=zzA;have g:a<(a0.size:Int):=zzA;have G:=bt_at a0 a;replace d:=eq_true d;replace g:=eq_true g)|(go_at_call 76;(with_reducible refine(spec_l02Digit.calls (bt a0 a) false _ D.out).mono ?_);rintro e w' ⟨rfl,⟨nd,rfl⟩⟩;have p:0≤(a:Int):=zzA;have q:a<(a0.size:Int):=zzA;have N:=bt_at a0 a;replace p:=eq_true p;replace q:=eq_true q))
 go_ret
 exact⟨by first|rfl|(simp;done)|(simp[*];done),by repeat(first|exact Drawn0.refl _|apply Drawn0.step)⟩)
 rw[if_neg x]at H
 exact absurd H (by simp))
 rw[if_neg n]at H
 have c10b0:=zF n
 clear n
 obtain rfl:=zI H
 go_wp2
 go_ret
 exact⟨by first|rfl|(simp;done)|(simp[*];done),by repeat(first|exact Drawn0.refl _|apply Drawn0.step)⟩))))
def spec_IsName.f (k:Nat) (a0:ByteArray):Option (Bool):=if a0.toList=([]:List UInt8)then(some false)else(if(a0.size:Int)≤12 then((spec_l02NameEnd.f k a0 0).bind fun t150=>(some (t150==(a0.size:Int))))else(some false))
set_option maxHeartbeats 8000000 in
set_option maxRecDepth 100000 in
theorem spec_IsName.calls (k:Nat) (a0:ByteArray) (r:Bool) (w:World) (h:spec_IsName.f k a0=some r):
  Calls Try.prog 23 #[.string a0] w fun e w'=>e= .returned (.bool r)∧Drawn0 w w':=by
 have H:(if a0.toList=([]:List UInt8)then(some false)else(if(a0.size:Int)≤12 then((spec_l02NameEnd.f k a0 0).bind fun c=>(some (c==(a0.size:Int))))else(some false)))=some r:=h
 clear h
 by_cases a:a0.toList=([]:List UInt8)
 ·(
 rw[if_pos a]at H
 have c2b0:(a0.toList==([]:List UInt8))=true:=zE a
 have c2b1:(a0.toList !=([]:List UInt8))=false:=zY a
 have c2b2:a0.toList.isEmpty=true:=by simpa using a
 clear a
 obtain rfl:=zI H
 go_enter Try.func23,Try.ntmps23
 go_wp2
 go_ret
 exact⟨by first|rfl|(simp;done)|(simp[*];done),by repeat(first|exact Drawn0.refl _|apply Drawn0.step)⟩)
 rw[if_neg a]at H
 have c2b0:(a0.toList==([]:List UInt8))=false:=zN a
 have c2b1:(a0.toList !=([]:List UInt8))=true:=zX a
 have c2b2:a0.toList.isEmpty=false:=by simpa using a
 by_cases b:(a0.size:Int)≤12
 ·(
 rw[if_pos b]at H
 have c3b0:=zT b
 have c3b1:decide (a0.size≤12)=true:=zT (by omega)
 clear b
 obtain⟨c,d,H⟩:=sO H
 obtain rfl:=zI H
 go_enter Try.func23,Try.ntmps23
 go_wp2_with (first|(go_at_call 48;(with_reducible refine(spec_l02NameEnd.calls k a0 0 c _ d.out).mono ?_);rintro e w' ⟨rfl,⟨nd,rfl⟩⟩))
 go_ret
 exact⟨by first|rfl|(simp;done)|(simp[*];done),by repeat(first|exact Drawn0.refl _|apply Drawn0.step)⟩)
 rw[if_neg b]at H
 have c3b0:=zF b
 have c3b1:decide (a0.size≤12)=false:=zF (by omega)
 clear b
 obtain rfl:=zI H
 go_enter Try.func23,Try.ntmps23
 go_wp2
 go_ret
 exact⟨by first|rfl|(simp;done)|(simp[*];done),by repeat(first|exact Drawn0.refl _|apply Drawn0.step)⟩
end Go.Proofs.Ytdihlgkcpooadaa.PFnExactIsPure
