/- Printed functions: spec_l13Entry, spec_l00In, spec_l02Letter, spec_l02Digit, spec_l02NameEnd, spec_IsName, spec_l13Leaf. -/
import Derived.Test.YtcppdkdnpmgpmaaYEoP0
namespace Go.Proofs.Ytcppdkdnpmgpmaa.PFnExactEntryOf
open Go.RowKit Go.Proofs.YtcppdkdnpmgpmaaG Go.Proofs.YtcppdkdnpmgpmaaW.PrintWords Go.Proofs.YtcppdkdnpmgpmaaW.PrintLast Go.Proofs.YtcppdkdnpmgpmaaW.PrintMore
attribute [local go_sem] max2_int min2_int max_two min_two max_three min_three max_four min_four
set_option linter.unusedVariables false
set_option linter.unusedSimpArgs false
def spec_l13Entry.l0 : Nat → ByteArray → Int → List (S55) → List (S51) → Option (Int)
 |0,_,_,_,_=>none
 |k+1,x1,x5,x141000,x141001=>if x5<(x141001.length:Int)then(if 0≤x5 then(if((rd_T51 x141001 x5).f0).toList=x1.toList then(some ((rd_T51 x141001 x5).f1))else(spec_l13Entry.l0 k x1 (wrap64 (x5+1)) x141000 x141001))else(none))else(some (-1))
def spec_l13Entry.f (k:Nat) (l0_0:List (S55)) (l0_1:List (S51)) (a1:ByteArray):Option (Int):=spec_l13Entry.l0 k a1 0 l0_0 l0_1
set_option maxHeartbeats 8000000 in
set_option maxRecDepth 100000 in
theorem spec_l13Entry.calls (k:Nat) (A0_0:Option Addr) (c0_0:Nat) (l0_0:List (S55)) (A0_1:Option Addr) (c0_1:Nat) (l0_1:List (S51)) (a1:ByteArray) (r:Int) (w:World) (hr0_0:Kd.C k55 w A0_0 l0_0.length l0_0) (hc0_0:l0_0.length≤c0_0) (hr0_1:Kd.C k51 w A0_1 l0_1.length l0_1) (hc0_1:l0_1.length≤c0_1) (h:spec_l13Entry.f k l0_0 l0_1 a1=some r):
  Calls Try.prog 11 #[.agg #[.slice A0_0 l0_0.length c0_0,.slice A0_1 l0_1.length c0_1],.string a1] w fun e w'=>e= .returned (.int .i64 r)∧Below w.heap.size w w':=by
 have B:=Try.underlying32
 have D:=zM hr0_0
 have E:=zM hc0_0
 clear hr0_0 hc0_0
 have n:=zM hr0_1
 have F:=zM hc0_1
 clear hr0_1 hc0_1
 have HB:=zM (Below.refl w.heap.size w)
 have H:(spec_l13Entry.l0 k a1 0 l0_0 l0_1)=some r:=h
 clear h
 have H':=zM H
 clear H
 go_enter Try.func11,Try.ntmps11
 go_wp2_with (first|((with_reducible refine gate_dst (N:=2) rfl ?_);refine sV (N:=2) (cs:= #[.slice A0_0 l0_0.length c0_0,.slice A0_1 l0_1.length c0_1]) (t:=32) ?_;intro y hg G hbox hb;have g:=zM (hbox);have I:=sG HB hg;have J:=sG HB hg;replace HB:=sB HB hb;clear hb hbox hg))
 go_loopg [5] k (fun kq z w'=>∃(a:Int),z= .int .i64 a∧Aside0 (spec_l13Entry.l0 kq a1 a l0_0 l0_1=some r)∧Aside0 (kq≤k)∧Aside0 (w'.heap[y]?=some (.cells #[(.slice A0_0 l0_0.length c0_0),(.slice A0_1 l0_1.length c0_1)] 32 (0,0)))∧Aside0 (Below w.heap.size w w'))
 case atStart=>exact⟨(0),sr,H',⟨Nat.le_refl _⟩,⟨by exact sT g.out⟩,⟨sb⟩⟩
 case round=>(
 clear H'
 obtain⟨a,rfl,HA,s,g,HB⟩:=hrel
 cases gk with
 |zero=>exact absurd HA.out (by simp[spec_l13Entry.l0])
 |succ k1=>(
 have H:=HA.out
 clear HA
 simp only[spec_l13Entry.l0]at H
 by_cases i:a<(l0_1.length:Int)
 ·(
 rw[if_pos i]at H
 have c4b0:=zT i
 clear i
 by_cases m:0≤a
 ·(
 rw[if_pos m]at H
 have c5b0:=zT m
 clear m
 by_cases b:((rd_T51 l0_1 a).f0).toList=a1.toList
 ·(
 rw[if_pos b]at H
 have c6b0:(((rd_T51 l0_1 a).f0).toList==a1.toList)=true:=zE b
 have c6b1:(((rd_T51 l0_1 a).f0).toList !=a1.toList)=false:=zY b
 clear b
 obtain rfl:=zI H
 obtain⟨K,L,M,O⟩:=cells2 g.out
 have c:0≤(a:Int):=zzA
 have d:a<(l0_1.length:Int):=zzA
 obtain⟨u,o,j,l⟩:=at_T51 n.out a c d
 cases o
 replace j:=sX HB j
 replace l:=sX HB l
 replace c:=eq_true c
 replace d:=eq_true d
 have p:0≤(a:Int):=zzA
 have q:a<(l0_1.length:Int):=zzA
 obtain⟨ad142,A,v,x⟩:=at_T51 n.out a p q
 obtain rfl:u=ad142:=(by injection A)
 replace v:=sX HB v
 replace x:=sX HB x
 replace p:=eq_true p
 replace q:=eq_true q
 go_wp2
 go_ret
 exact⟨sq,sb⟩)
 rw[if_neg b]at H
 have c6b0:(((rd_T51 l0_1 a).f0).toList==a1.toList)=false:=zN b
 have c6b1:(((rd_T51 l0_1 a).f0).toList !=a1.toList)=true:=zX b
 have H':=zM H
 clear H
 obtain⟨P,Q,R,S⟩:=cells2 g.out
 have c:0≤(a:Int):=zzA
 have d:a<(l0_1.length:Int):=zzA
 obtain⟨u,o,j,l⟩:=at_T51 n.out a c d
 cases o
 replace j:=sX HB j
 replace l:=sX HB l
 replace c:=eq_true c
 replace d:=eq_true d
 go_wp2
 go_roundg k1
 case measure=>have:=s.out;omega
 case rel=>exact⟨(wrap64 (a+1)),sr,H',⟨by have:=s.out;omega⟩,⟨by exact sT g.out⟩,⟨sb⟩⟩)
 rw[if_neg m]at H
 exact absurd H (by simp))
 rw[if_neg i]at H
 have c4b0:=zF i
 clear i
 obtain rfl:=zI H
 obtain⟨T,U,V,W⟩:=cells2 g.out
 go_wp2
 go_ret
 exact⟨sq,sb⟩))
def spec_l00In.f (a0:Int) (a1:Int) (a2:Int):Option (Bool):=if a0≥a1 then(some (decide (a0≤a2)))else(some false)
set_option maxHeartbeats 8000000 in
set_option maxRecDepth 100000 in
theorem spec_l00In.calls (a0:Int) (a1:Int) (a2:Int) (r:Bool) (w:World) (h:spec_l00In.f a0 a1 a2=some r):
  Calls Try.prog 28 #[.int .i64 a0,.int .i64 a1,.int .i64 a2] w fun e w'=>e= .returned (.bool r)∧Drawn0 w w':=by
 have H:(if a0≥a1 then(some (decide (a0≤a2)))else(some false))=some r:=h
 clear h
 by_cases a:a0≥a1
 ·(
 rw[if_pos a]at H
 have c4b0:decide (a1≤a0)=true:=zT a
 clear a
 obtain rfl:=zI H
 go_enter Try.func28,Try.ntmps28
 go_wp2
 go_ret
 exact⟨by first|rfl|(simp;done)|(simp[*];done),by repeat(first|exact Drawn0.refl _|apply Drawn0.step)⟩)
 rw[if_neg a]at H
 have c4b0:decide (a1≤a0)=false:=zF a
 clear a
 obtain rfl:=zI H
 go_enter Try.func28,Try.ntmps28
 go_wp2
 go_ret
 exact⟨by first|rfl|(simp;done)|(simp[*];done),by repeat(first|exact Drawn0.refl _|apply Drawn0.step)⟩
def spec_l02Letter.f (a0:Int):Option (Bool):=if a0≥65 then(if a0≤90 then(some true)else(if a0≥97 then(some (decide (a0≤122)))else(some false)))else(if a0≥97 then(some (decide (a0≤122)))else(some false))
set_option maxHeartbeats 8000000 in
set_option maxRecDepth 100000 in
theorem spec_l02Letter.calls (a0:Int) (r:Bool) (w:World) (h:spec_l02Letter.f a0=some r):
  Calls Try.prog 55 #[.int .u8 a0] w fun e w'=>e= .returned (.bool r)∧Drawn0 w w':=by
 have H:(if a0≥65 then(if a0≤90 then(some true)else(if a0≥97 then(some (decide (a0≤122)))else(some false)))else(if a0≥97 then(some (decide (a0≤122)))else(some false)))=some r:=h
 clear h
 by_cases a:a0≥65
 ·(
 rw[if_pos a]at H
 have c2b0:decide (65≤a0)=true:=zT a
 clear a
 by_cases b:a0≤90
 ·(
 rw[if_pos b]at H
 have c3b0:=zT b
 clear b
 obtain rfl:=zI H
 go_enter Try.func55,Try.ntmps55
 go_wp2
 go_ret
 exact⟨by first|rfl|(simp;done)|(simp[*];done),by repeat(first|exact Drawn0.refl _|apply Drawn0.step)⟩)
 rw[if_neg b]at H
 have c3b0:=zF b
 clear b
 by_cases c:a0≥97
 ·(
 rw[if_pos c]at H
 have c4b0:decide (97≤a0)=true:=zT c
 clear c
 obtain rfl:=zI H
 go_enter Try.func55,Try.ntmps55
 go_wp2
 go_ret
 exact⟨by first|rfl|(simp;done)|(simp[*];done),by repeat(first|exact Drawn0.refl _|apply Drawn0.step)⟩)
 rw[if_neg c]at H
 have c4b0:decide (97≤a0)=false:=zF c
 clear c
 obtain rfl:=zI H
 go_enter Try.func55,Try.ntmps55
 go_wp2
 go_ret
 exact⟨by first|rfl|(simp;done)|(simp[*];done),by repeat(first|exact Drawn0.refl _|apply Drawn0.step)⟩)
 rw[if_neg a]at H
 have c2b0:decide (65≤a0)=false:=zF a
 clear a
 by_cases d:a0≥97
 ·(
 rw[if_pos d]at H
 have c5b0:decide (97≤a0)=true:=zT d
 clear d
 obtain rfl:=zI H
 go_enter Try.func55,Try.ntmps55
 go_wp2
 go_ret
 exact⟨by first|rfl|(simp;done)|(simp[*];done),by repeat(first|exact Drawn0.refl _|apply Drawn0.step)⟩)
 rw[if_neg d]at H
 have c5b0:decide (97≤a0)=false:=zF d
 clear d
 obtain rfl:=zI H
 go_enter Try.func55,Try.ntmps55
 go_wp2
 go_ret
 exact⟨by first|rfl|(simp;done)|(simp[*];done),by repeat(first|exact Drawn0.refl _|apply Drawn0.step)⟩
def spec_l02Digit.f (a0:Int):Option (Bool):=if a0≥48 then(some (decide (a0≤57)))else(some false)
set_option maxHeartbeats 8000000 in
set_option maxRecDepth 100000 in
theorem spec_l02Digit.calls (a0:Int) (r:Bool) (w:World) (h:spec_l02Digit.f a0=some r):
  Calls Try.prog 56 #[.int .u8 a0] w fun e w'=>e= .returned (.bool r)∧Drawn0 w w':=by
 have H:(if a0≥48 then(some (decide (a0≤57)))else(some false))=some r:=h
 clear h
 by_cases a:a0≥48
 ·(
 rw[if_pos a]at H
 have c2b0:decide (48≤a0)=true:=zT a
 clear a
 obtain rfl:=zI H
 go_enter Try.func56,Try.ntmps56
 go_wp2
 go_ret
 exact⟨by first|rfl|(simp;done)|(simp[*];done),by repeat(first|exact Drawn0.refl _|apply Drawn0.step)⟩)
 rw[if_neg a]at H
 have c2b0:decide (48≤a0)=false:=zF a
 clear a
 obtain rfl:=zI H
 go_enter Try.func56,Try.ntmps56
 go_wp2
 go_ret
 exact⟨by first|rfl|(simp;done)|(simp[*];done),by repeat(first|exact Drawn0.refl _|apply Drawn0.step)⟩
mutual
def spec_l02NameEnd.j0 : Nat → ByteArray → Int → Bool → Option (Int)
 |0,_,_,_=>none
 |k+1,x0,x1,x15=>if x15=true then(some x1)else(spec_l02NameEnd.l0 k x0 x1)
def spec_l02NameEnd.l0 : Nat → ByteArray → Int → Option (Int)
 |0,_,_=>none
 |k+1,x0,x1=>if x1<(x0.size:Int)then(if 0≤x1 then((spec_l02Letter.f (bt x0 x1)).bind fun t144=>(if t144=true then(spec_l02NameEnd.l0 k x0 (wrap64 (x1+1)))else((spec_l02Digit.f (bt x0 x1)).bind fun t145=>(if t145=true then(spec_l02NameEnd.l0 k x0 (wrap64 (x1+1)))else(if(bt x0 x1)=95 then(spec_l02NameEnd.l0 k x0 (wrap64 (x1+1)))else(some x1))))))else(none))else(some x1)
end
def spec_l02NameEnd.f (k:Nat) (a0:ByteArray) (a1:Int):Option (Int):=if a1≥(a0.size:Int)then(spec_l02NameEnd.j0 k a0 a1 true)else(if 0≤a1 then(if a1<(a0.size:Int)then((spec_l02Letter.f (bt a0 a1)).bind fun t143=>(spec_l02NameEnd.j0 k a0 a1 (!t143)))else(none))else(none))
set_option maxHeartbeats 8000000 in
set_option maxRecDepth 100000 in
theorem spec_l02NameEnd.calls (k:Nat) (a0:ByteArray) (a1:Int) (r:Int) (w:World) (h:spec_l02NameEnd.f k a0 a1=some r):
  Calls Try.prog 39 #[.string a0,.int .i64 a1] w fun e w'=>e= .returned (.int .i64 r)∧Drawn0 w w':=by
 have H:(if a1≥(a0.size:Int)then(spec_l02NameEnd.j0 k a0 a1 true)else(if 0≤a1 then(if a1<(a0.size:Int)then((spec_l02Letter.f (bt a0 a1)).bind fun s=>(spec_l02NameEnd.j0 k a0 a1 (!s)))else(none))else(none)))=some r:=h
 clear h
 have D:=zM H
 clear H
 go_enter Try.func39,Try.ntmps39
 go_upto_region 1 with(fail)
 go_cut [15] (fun K wc=>∃(kq:Nat) (u:Bool),K= .bool u∧Aside0 (spec_l02NameEnd.j0 kq a0 a1 u=some r)∧Aside0 (kq≤k)∧Drawn0 w wc)
 case first=>(
 have H:=D.out
 clear D
 by_cases j:a1≥(a0.size:Int)
 ·(
 rw[if_pos j]at H
 have c4b0:decide ((a0.size:Int)≤a1)=true:=zT j
 clear j
 (first|rw[c4b0]|(simp only[i64_w,i32_w];rw[c4b0])|rw[c4b2]|skip)
 have H':=zM H
 clear H
 go_wp2
 go_meet
 case rel=>exact⟨_,(true),sr,H',⟨by first|omega|exact Nat.le_refl _⟩,by repeat(first|exact Drawn0.refl _|apply Drawn0.step)⟩)
 rw[if_neg j]at H
 have c4b0:decide ((a0.size:Int)≤a1)=false:=zF j
 clear j
 (first|rw[c4b0]|(simp only[i64_w,i32_w];rw[c4b0])|rw[c4b2]|skip)
 by_cases v:0≤a1
 ·(
 rw[if_pos v]at H
 have c5b0:=zT v
 clear v
 by_cases x:a1<(a0.size:Int)
 ·(
 rw[if_pos x]at H
 have c6b0:=zT x
 clear x
 obtain⟨s,L,H⟩:=sO H
 have H':=zM H
 clear H
 have G:0≤(a1:Int):=zzA
 have I:a1<(a0.size:Int):=zzA
 have R:=bt_at a0 a1
 replace G:=eq_true G
 replace I:=eq_true I
 go_wp2_with (first|(go_at_call 55;(with_reducible refine(spec_l02Letter.calls (bt a0 a1) s _ L.out).mono ?_);rintro e w' ⟨rfl,⟨nd,rfl⟩⟩))
 go_meet
 case rel=>exact⟨_,(!s),sr,H',⟨by first|omega|exact Nat.le_refl _⟩,by repeat(first|exact Drawn0.refl _|apply Drawn0.step)⟩)
 rw[if_neg x]at H
 exact absurd H (by simp))
 rw[if_neg v]at H
 exact absurd H (by simp))
 case rest=>(
 clear D
 obtain⟨kq,u,rfl,HA,l,⟨S,rfl⟩⟩:=hcut
 cases kq with
 |zero=>exact absurd HA.out (by simp[spec_l02NameEnd.j0])
 |succ kj2=>(
 have H:=HA.out
 clear HA
 simp only[spec_l02NameEnd.j0]at H
 by_cases o:u=true
 ·(
 subst o
 rewrite[if_pos rfl]at H
 obtain rfl:=zI H
 go_wp2
 go_ret
 exact⟨by first|rfl|(simp;done)|(simp[*];done),by repeat(first|exact Drawn0.refl _|apply Drawn0.step)⟩)
 replace o:=zB o
 subst o
 rewrite[if_neg zQ]at H
 have H':=zM H
 clear H
 go_wp2
 go_loopg [1] kj2 (fun kq M w'=>∃(a:Int),M= .int .i64 a∧Aside0 (spec_l02NameEnd.l0 kq a0 a=some r)∧Aside0 (kq≤kj2)∧Drawn0 w w')
 case atStart=>exact⟨(a1),sr,H',⟨Nat.le_refl _⟩,by repeat(first|exact Drawn0.refl _|apply Drawn0.step)⟩
 case round=>(
 clear H'
 try clear o
 obtain⟨a,rfl,HA,m,⟨T,rfl⟩⟩:=hrel
 cases gk with
 |zero=>exact absurd HA.out (by simp[spec_l02NameEnd.l0])
 |succ k2=>(
 have H:=HA.out
 clear HA
 simp only[spec_l02NameEnd.l0]at H
 by_cases n:a<(a0.size:Int)
 ·(
 rw[if_pos n]at H
 have c10b0:=zT n
 clear n
 by_cases y:0≤a
 ·(
 rw[if_pos y]at H
 have c11b0:=zT y
 clear y
 obtain⟨O,z,H⟩:=sO H
 by_cases A:O=true
 ·(
 subst A
 rewrite[if_pos rfl]at H
 have H':=zM H
 clear H
 have b:0≤(a:Int):=zzA
 have c:a<(a0.size:Int):=zzA
 have E:=bt_at a0 a
 replace b:=eq_true b
 replace c:=eq_true c
 go_wp2_with (first|(go_at_call 55;(with_reducible refine(spec_l02Letter.calls (bt a0 a) true _ z.out).mono ?_);rintro e w' ⟨rfl,⟨nd,rfl⟩⟩))
 go_roundg k2
 case measure=>have:=l.out;have:=m.out;omega
 case rel=>exact⟨(wrap64 (a+1)),sr,H',⟨by have:=l.out;have:=m.out;omega⟩,by repeat(first|exact Drawn0.refl _|apply Drawn0.step)⟩)
 replace A:=zB A
 subst A
 rewrite[if_neg zQ]at H
 obtain⟨P,F,H⟩:=sO H
 by_cases B:P=true
 ·(
 subst B
 rewrite[if_pos rfl]at H
 have H':=zM H
 clear H
 have b:0≤(a:Int):=zzA
 have c:a<(a0.size:Int):=zzA
 have E:=bt_at a0 a
 replace b:=eq_true b
 replace c:=eq_true c
 go_wp2_with (first|(go_at_call 55;(with_reducible refine(spec_l02Letter.calls (bt a0 a) false _ z.out).mono ?_);rintro e w' ⟨rfl,⟨nd,rfl⟩⟩;have d:0≤(a:Int):=zzA;have g:a<(a0.size:Int):=zzA;have J:=bt_at a0 a;replace d:=eq_true d;replace g:=eq_true g)|(go_at_call 56;(with_reducible refine(spec_l02Digit.calls (bt a0 a) true _ F.out).mono ?_);rintro e w' ⟨rfl,⟨nd,rfl⟩⟩))
 go_roundg k2
 case measure=>have:=l.out;have:=m.out;omega
 case rel=>exact⟨(wrap64 (a+1)),sr,H',⟨by have:=l.out;have:=m.out;omega⟩,by repeat(first|exact Drawn0.refl _|apply Drawn0.step)⟩)
 replace B:=zB B
 subst B
 rewrite[if_neg zQ]at H
 by_cases i:(bt a0 a)=95
 ·(
 rw[if_pos i]at H
 have c19b0:((bt a0 a)==95)=true:=zE i
 have c19b1:((bt a0 a) !=95)=false:=zY i
 clear i
 have H':=zM H
 clear H
 have b:0≤(a:Int):=zzA
 have c:a<(a0.size:Int):=zzA
 have E:=bt_at a0 a
 replace b:=eq_true b
 replace c:=eq_true c
 go_wp2_with (first|(go_at_call 55;(with_reducible refine(spec_l02Letter.calls (bt a0 a) false _ z.out).mono ?_);rintro e w' ⟨rfl,⟨nd,rfl⟩⟩;have d:0≤(a:Int):=zzA;have g:a<(a0.size:Int):=zzA;have J:=bt_at a0 a;replace d:=eq_true d;replace g:=eq_true g)|(go_at_call 56;(with_reducible refine(spec_l02Digit.calls (bt a0 a) false _ F.out).mono ?_);rintro e w' ⟨rfl,⟨nd,rfl⟩⟩;have p:0≤(a:Int):=zzA;have q:a<(a0.size:Int):=zzA;have Q:=bt_at a0 a;replace p:=eq_true p;replace q:=eq_true q))
 go_roundg k2
 case measure=>have:=l.out;have:=m.out;omega
 case rel=>exact⟨(wrap64 (a+1)),sr,H',⟨by have:=l.out;have:=m.out;omega⟩,by repeat(first|exact Drawn0.refl _|apply Drawn0.step)⟩)
 rw[if_neg i]at H
 have c19b0:((bt a0 a)==95)=false:=zN i
 have c19b1:((bt a0 a) !=95)=true:=zX i
 obtain rfl:=zI H
 have b:0≤(a:Int):=zzA
 have c:a<(a0.size:Int):=zzA
 have E:=bt_at a0 a
 replace b:=eq_true b
 replace c:=eq_true c
 go_wp2_with (first|(go_at_call 55;(with_reducible refine(spec_l02Letter.calls (bt a0 a) false _ z.out).mono ?_);rintro e w' ⟨rfl,⟨nd,rfl⟩⟩;have d:0≤(a:Int):=zzA;have g:a<(a0.size:Int):=zzA;have J:=bt_at a0 a;replace d:=eq_true d;replace g:=eq_true g)|(go_at_call 56;(with_reducible refine(spec_l02Digit.calls (bt a0 a) false _ F.out).mono ?_);rintro e w' ⟨rfl,⟨nd,rfl⟩⟩;have p:0≤(a:Int):=zzA;have q:a<(a0.size:Int):=zzA;have Q:=bt_at a0 a;replace p:=eq_true p;replace q:=eq_true q))
 go_ret
 exact⟨by first|rfl|(simp;done)|(simp[*];done),by repeat(first|exact Drawn0.refl _|apply Drawn0.step)⟩)
 rw[if_neg y]at H
 exact absurd H (by simp))
 rw[if_neg n]at H
 have c10b0:=zF n
 clear n
 obtain rfl:=zI H
 go_wp2
 go_ret
 exact⟨by first|rfl|(simp;done)|(simp[*];done),by repeat(first|exact Drawn0.refl _|apply Drawn0.step)⟩))))
def spec_IsName.f (k:Nat) (a0:ByteArray):Option (Bool):=if a0.toList=([]:List UInt8)then(some false)else(if(a0.size:Int)≤12 then((spec_l02NameEnd.f k a0 0).bind fun t146=>(some (t146==(a0.size:Int))))else(some false))
set_option maxHeartbeats 8000000 in
set_option maxRecDepth 100000 in
theorem spec_IsName.calls (k:Nat) (a0:ByteArray) (r:Bool) (w:World) (h:spec_IsName.f k a0=some r):
  Calls Try.prog 29 #[.string a0] w fun e w'=>e= .returned (.bool r)∧Drawn0 w w':=by
 have H:(if a0.toList=([]:List UInt8)then(some false)else(if(a0.size:Int)≤12 then((spec_l02NameEnd.f k a0 0).bind fun c=>(some (c==(a0.size:Int))))else(some false)))=some r:=h
 clear h
 by_cases a:a0.toList=([]:List UInt8)
 ·(
 rw[if_pos a]at H
 have c2b0:(a0.toList==([]:List UInt8))=true:=zE a
 have c2b1:(a0.toList !=([]:List UInt8))=false:=zY a
 have c2b2:a0.toList.isEmpty=true:=by simpa using a
 clear a
 obtain rfl:=zI H
 go_enter Try.func29,Try.ntmps29
 go_wp2
 go_ret
 exact⟨by first|rfl|(simp;done)|(simp[*];done),by repeat(first|exact Drawn0.refl _|apply Drawn0.step)⟩)
 rw[if_neg a]at H
 have c2b0:(a0.toList==([]:List UInt8))=false:=zN a
 have c2b1:(a0.toList !=([]:List UInt8))=true:=zX a
 have c2b2:a0.toList.isEmpty=false:=by simpa using a
 by_cases b:(a0.size:Int)≤12
 ·(
 rw[if_pos b]at H
 have c3b0:=zT b
 have c3b1:decide (a0.size≤12)=true:=zT (by omega)
 clear b
 obtain⟨c,d,H⟩:=sO H
 obtain rfl:=zI H
 go_enter Try.func29,Try.ntmps29
 go_wp2_with (first|(go_at_call 39;(with_reducible refine(spec_l02NameEnd.calls k a0 0 c _ d.out).mono ?_);rintro e w' ⟨rfl,⟨nd,rfl⟩⟩))
 go_ret
 exact⟨by first|rfl|(simp;done)|(simp[*];done),by repeat(first|exact Drawn0.refl _|apply Drawn0.step)⟩)
 rw[if_neg b]at H
 have c3b0:=zF b
 have c3b1:decide (a0.size≤12)=false:=zF (by omega)
 clear b
 obtain rfl:=zI H
 go_enter Try.func29,Try.ntmps29
 go_wp2
 go_ret
 exact⟨by first|rfl|(simp;done)|(simp[*];done),by repeat(first|exact Drawn0.refl _|apply Drawn0.step)⟩
def spec_l13Leaf.f (a0:Int):Option (Bool):=(spec_l00In.f a0 1 17).bind fun t151=>(if t151=true then(some true)else(if a0=23 then(some true)else(some (a0==24))))
set_option maxHeartbeats 8000000 in
set_option maxRecDepth 100000 in
theorem spec_l13Leaf.calls (a0:Int) (r:Bool) (w:World) (h:spec_l13Leaf.f a0=some r):
  Calls Try.prog 40 #[.int .i64 a0] w fun e w'=>e= .returned (.bool r)∧Drawn0 w w':=by
 have H:((spec_l00In.f a0 1 17).bind fun c=>(if c=true then(some true)else(if a0=23 then(some true)else(some (a0==24)))))=some r:=h
 clear h
 obtain⟨c,d,H⟩:=sO H
 by_cases b:c=true
 ·(
 subst b
 rewrite[if_pos rfl]at H
 obtain rfl:=zI H
 go_enter Try.func40,Try.ntmps40
 go_wp2_with (first|((with_reducible refine gate_callee (f:=28) rfl ?_);refine sC (some 4) Try.func28 #[.int .i64 a0,.int .i64 1,.int .i64 17] (spec_l00In.calls a0 1 17 true _ d.out) ?_;rintro e w' ⟨rfl,⟨nd,rfl⟩⟩;refine⟨_,rfl,?_⟩))
 go_ret
 exact⟨by first|rfl|(simp;done)|(simp[*];done),by repeat(first|exact Drawn0.refl _|apply Drawn0.step)⟩)
 replace b:=zB b
 subst b
 rewrite[if_neg zQ]at H
 by_cases a:a0=23
 ·(
 rw[if_pos a]at H
 have c4b0:(a0==23)=true:=zE a
 have c4b1:(a0 !=23)=false:=zY a
 clear a
 obtain rfl:=zI H
 go_enter Try.func40,Try.ntmps40
 go_wp2_with (first|((with_reducible refine gate_callee (f:=28) rfl ?_);refine sC (some 4) Try.func28 #[.int .i64 a0,.int .i64 1,.int .i64 17] (spec_l00In.calls a0 1 17 false _ d.out) ?_;rintro e w' ⟨rfl,⟨nd,rfl⟩⟩;refine⟨_,rfl,?_⟩))
 go_ret
 exact⟨by first|rfl|(simp;done)|(simp[*];done),by repeat(first|exact Drawn0.refl _|apply Drawn0.step)⟩)
 rw[if_neg a]at H
 have c4b0:(a0==23)=false:=zN a
 have c4b1:(a0 !=23)=true:=zX a
 obtain rfl:=zI H
 go_enter Try.func40,Try.ntmps40
 go_wp2_with (first|((with_reducible refine gate_callee (f:=28) rfl ?_);refine sC (some 4) Try.func28 #[.int .i64 a0,.int .i64 1,.int .i64 17] (spec_l00In.calls a0 1 17 false _ d.out) ?_;rintro e w' ⟨rfl,⟨nd,rfl⟩⟩;refine⟨_,rfl,?_⟩))
 go_ret
 exact⟨by first|rfl|(simp;done)|(simp[*];done),by repeat(first|exact Drawn0.refl _|apply Drawn0.step)⟩
end Go.Proofs.Ytcppdkdnpmgpmaa.PFnExactEntryOf
