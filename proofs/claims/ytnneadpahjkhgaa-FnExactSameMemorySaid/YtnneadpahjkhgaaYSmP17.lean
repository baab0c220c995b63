/- Printed functions: spec_l18SameBindings, spec_l18SameTexts. -/
import Derived.Test.YtnneadpahjkhgaaYSmP0
import Derived.Test.YtnneadpahjkhgaaYSmPE
namespace Go.Proofs.Ytnneadpahjkhgaa.PFnExactSameMemory
open Go.RowKit Go.Proofs.YtnneadpahjkhgaaG Go.Proofs.YtnneadpahjkhgaaW.PrintWords Go.Proofs.YtnneadpahjkhgaaW.PrintLast Go.Proofs.YtnneadpahjkhgaaW.PrintMore
attribute [local go_sem] max2_int min2_int max_two min_two max_three min_three max_four min_four
set_option linter.unusedVariables false
set_option linter.unusedSimpArgs false
section
attribute [local go_sem high] eqA116
def spec_l18SameBindings.l0 : Nat → List (S116) → List (S116) → Int → Option (Bool)
 |0,_,_,_=>none
 |k+1,x0,x1,x5=>if x5<(x0.length:Int)then(if 0≤x5 then(if x5<(x1.length:Int)then(if(!((((rd_T116 x0 x5).f0).toList)==(((rd_T116 x1 x5).f0).toList))||((!(((rd_T116 x0 x5).f1.f0)==((rd_T116 x1 x5).f1.f0))||(!(((rd_T116 x0 x5).f1.f1)==((rd_T116 x1 x5).f1.f1))||(!((((rd_T116 x0 x5).f1.f2).toList)==(((rd_T116 x1 x5).f1.f2).toList))||(!(((rd_T116 x0 x5).f1.f3)==((rd_T116 x1 x5).f1.f3))))))))=true then(some false)else(spec_l18SameBindings.l0 k x0 x1 (wrap64 (x5+1))))else(none))else(none))else(some true)
def spec_l18SameBindings.f (k:Nat) (l0:List (S116)) (l1:List (S116)):Option (Bool):=if(l0.length:Int)=(l1.length:Int)then(spec_l18SameBindings.l0 k l0 l1 0)else(some false)
set_option maxHeartbeats 8000000 in
set_option maxRecDepth 100000 in
theorem spec_l18SameBindings.calls (k:Nat) (A0:Option Addr) (c0:Nat) (l0:List (S116)) (A1:Option Addr) (c1:Nat) (l1:List (S116)) (r:Bool) (w:World) (hr0:Kd.C k116 w A0 l0.length l0) (hc0:l0.length≤c0) (hr1:Kd.C k116 w A1 l1.length l1) (hc1:l1.length≤c1) (h:spec_l18SameBindings.f k l0 l1=some r):
  Calls Try.prog 62 #[.slice A0 l0.length c0,.slice A1 l1.length c1] w fun e w'=>e= .returned (.bool r)∧Drawn0 w w':=by
 have K:=Try.underlying116
 have q:=zM hr0
 have L:=zM hc0
 clear hr0 hc0
 have s:=zM hr1
 have M:=zM hc1
 clear hr1 hc1
 have H:(if(l0.length:Int)=(l1.length:Int)then(spec_l18SameBindings.l0 k l0 l1 0)else(some false))=some r:=h
 clear h
 by_cases b:(l0.length:Int)=(l1.length:Int)
 ·(
 rw[if_pos b]at H
 have c3b0:((l0.length:Int)==(l1.length:Int))=true:=zE b
 have c3b1:((l0.length:Int) !=(l1.length:Int))=false:=zY b
 have c3b2:(l0.length==l1.length)=true:=by first|simpa using b|(simp at b ⊢;omega)
 clear b
 have H':=zM H
 clear H
 go_enter Try.func62,Try.ntmps62
 go_wp2
 repeat(go_quiet (fail);try go_wp2)
 go_loopg [5] k (fun kq u w'=>∃(a:Int),u= .int .i64 a∧Aside0 (spec_l18SameBindings.l0 kq l0 l1 a=some r)∧Aside0 (kq≤k)∧Drawn0 w w')
 case atStart=>exact⟨(0),sr,H',⟨Nat.le_refl _⟩,by repeat(first|exact Drawn0.refl _|apply Drawn0.step)⟩
 case round=>(
 clear H'
 try clear c1
 try clear b
 try clear c3b0
 try clear c3b1
 try clear c3b2
 obtain⟨a,rfl,HA,t,⟨N,rfl⟩⟩:=hrel
 cases gk with
 |zero=>exact absurd HA.out (by simp[spec_l18SameBindings.l0])
 |succ k1=>(
 have H:=HA.out
 clear HA
 simp only[spec_l18SameBindings.l0]at H
 by_cases j:a<(l0.length:Int)
 ·(
 rw[if_pos j]at H
 have c4b0:=zT j
 clear j
 by_cases m:0≤a
 ·(
 rw[if_pos m]at H
 have c5b0:=zT m
 clear m
 by_cases n:a<(l1.length:Int)
 ·(
 rw[if_pos n]at H
 have c6b0:=zT n
 clear n
 by_cases l:(!((((rd_T116 l0 a).f0).toList)==(((rd_T116 l1 a).f0).toList))||((!(((rd_T116 l0 a).f1.f0)==((rd_T116 l1 a).f1.f0))||(!(((rd_T116 l0 a).f1.f1)==((rd_T116 l1 a).f1.f1))||(!((((rd_T116 l0 a).f1.f2).toList)==(((rd_T116 l1 a).f1.f2).toList))||(!(((rd_T116 l0 a).f1.f3)==((rd_T116 l1 a).f1.f3))))))))=true
 ·(
 rw[if_pos l]at H
 have c7b0:(!((((rd_T116 l0 a).f0).toList)==(((rd_T116 l1 a).f0).toList))||((!(((rd_T116 l0 a).f1.f0)==((rd_T116 l1 a).f1.f0))||(!(((rd_T116 l0 a).f1.f1)==((rd_T116 l1 a).f1.f1))||(!((((rd_T116 l0 a).f1.f2).toList)==(((rd_T116 l1 a).f1.f2).toList))||(!(((rd_T116 l0 a).f1.f3)==((rd_T116 l1 a).f1.f3))))))))=true:=l
 clear l
 obtain rfl:=zI H
 have c:0≤(a:Int):=zO (by first|(with_reducible assumption)|assumption)
 have d:a<(l0.length:Int):=zO (by first|(with_reducible assumption)|assumption)
 obtain⟨v,o,x,y,z,A,B⟩:=at_T116 q.out a c d
 cases o
 replace c:=eq_true c
 replace d:=eq_true d
 have g:0≤(a:Int):=zO (by first|(with_reducible assumption)|assumption)
 have i:a<(l1.length:Int):=zO (by first|(with_reducible assumption)|assumption)
 obtain⟨D,p,E,F,G,I,J⟩:=at_T116 s.out a g i
 cases p
 replace g:=eq_true g
 replace i:=eq_true i
 go_wp2
 repeat(go_quiet (fail);try go_wp2)
 go_ret
 exact⟨by first|rfl|(simp;done)|(simp[*];done),by repeat(first|exact Drawn0.refl _|apply Drawn0.step)⟩)
 rw[if_neg l]at H
 have c7b0:(!((((rd_T116 l0 a).f0).toList)==(((rd_T116 l1 a).f0).toList))||((!(((rd_T116 l0 a).f1.f0)==((rd_T116 l1 a).f1.f0))||(!(((rd_T116 l0 a).f1.f1)==((rd_T116 l1 a).f1.f1))||(!((((rd_T116 l0 a).f1.f2).toList)==(((rd_T116 l1 a).f1.f2).toList))||(!(((rd_T116 l0 a).f1.f3)==((rd_T116 l1 a).f1.f3))))))))=false:=by simpa using l
 clear l
 have H':=zM H
 clear H
 have c:0≤(a:Int):=zO (by first|(with_reducible assumption)|assumption)
 have d:a<(l0.length:Int):=zO (by first|(with_reducible assumption)|assumption)
 obtain⟨v,o,x,y,z,A,B⟩:=at_T116 q.out a c d
 cases o
 replace c:=eq_true c
 replace d:=eq_true d
 have g:0≤(a:Int):=zO (by first|(with_reducible assumption)|assumption)
 have i:a<(l1.length:Int):=zO (by first|(with_reducible assumption)|assumption)
 obtain⟨D,p,E,F,G,I,J⟩:=at_T116 s.out a g i
 cases p
 replace g:=eq_true g
 replace i:=eq_true i
 go_wp2
 repeat(go_quiet (fail);try go_wp2)
 go_roundg k1
 case measure=>have:=t.out;omega
 case rel=>exact⟨(wrap64 (a+1)),sr,H',⟨by have:=t.out;omega⟩,by repeat(first|exact Drawn0.refl _|apply Drawn0.step)⟩)
 rw[if_neg n]at H
 exact absurd H (by simp))
 rw[if_neg m]at H
 exact absurd H (by simp))
 rw[if_neg j]at H
 have c4b0:=zF j
 clear j
 obtain rfl:=zI H
 go_wp2
 repeat(go_quiet (fail);try go_wp2)
 go_ret
 exact⟨by first|rfl|(simp;done)|(simp[*];done),by repeat(first|exact Drawn0.refl _|apply Drawn0.step)⟩)))
 rw[if_neg b]at H
 have c3b0:((l0.length:Int)==(l1.length:Int))=false:=zN b
 have c3b1:((l0.length:Int) !=(l1.length:Int))=true:=zX b
 have c3b2:(l0.length==l1.length)=false:=by first|simpa using b|(simp at b ⊢;omega)
 obtain rfl:=zI H
 go_enter Try.func62,Try.ntmps62
 go_wp2
 repeat(go_quiet (fail);try go_wp2)
 go_ret
 exact⟨by first|rfl|(simp;done)|(simp[*];done),by repeat(first|exact Drawn0.refl _|apply Drawn0.step)⟩
end
section
attribute [local go_sem high] eqA116
def spec_l18SameTexts.l0 : Nat → List ByteArray → List ByteArray → Int → Option (Bool)
 |0,_,_,_=>none
 |k+1,x0,x1,x5=>if x5<(x0.length:Int)then(if 0≤x5 then(if x5<(x1.length:Int)then(if(rdOf ByteArray.empty x0 x5).toList=(rdOf ByteArray.empty x1 x5).toList then(spec_l18SameTexts.l0 k x0 x1 (wrap64 (x5+1)))else(some false))else(none))else(none))else(some true)
def spec_l18SameTexts.f (k:Nat) (l0:List ByteArray) (l1:List ByteArray):Option (Bool):=if(l0.length:Int)=(l1.length:Int)then(spec_l18SameTexts.l0 k l0 l1 0)else(some false)
set_option maxHeartbeats 8000000 in
set_option maxRecDepth 100000 in
theorem spec_l18SameTexts.calls (k:Nat) (A0:Option Addr) (c0:Nat) (l0:List ByteArray) (A1:Option Addr) (c1:Nat) (l1:List ByteArray) (r:Bool) (w:World) (hr0:Kd.C Kd.string w A0 l0.length l0) (hc0:l0.length≤c0) (hr1:Kd.C Kd.string w A1 l1.length l1) (hc1:l1.length≤c1) (h:spec_l18SameTexts.f k l0 l1=some r):
  Calls Try.prog 63 #[.slice A0 l0.length c0,.slice A1 l1.length c1] w fun e w'=>e= .returned (.bool r)∧Drawn0 w w':=by
 have q:=zM hr0
 have A:=zM hc0
 clear hr0 hc0
 have s:=zM hr1
 have B:=zM hc1
 clear hr1 hc1
 have H:(if(l0.length:Int)=(l1.length:Int)then(spec_l18SameTexts.l0 k l0 l1 0)else(some false))=some r:=h
 clear h
 by_cases b:(l0.length:Int)=(l1.length:Int)
 ·(
 rw[if_pos b]at H
 have c3b0:((l0.length:Int)==(l1.length:Int))=true:=zE b
 have c3b1:((l0.length:Int) !=(l1.length:Int))=false:=zY b
 have c3b2:(l0.length==l1.length)=true:=by first|simpa using b|(simp at b ⊢;omega)
 clear b
 have H':=zM H
 clear H
 go_enter Try.func63,Try.ntmps63
 go_wp2
 repeat(go_quiet (fail);try go_wp2)
 go_loopg [5] k (fun kq u w'=>∃(a:Int),u= .int .i64 a∧Aside0 (spec_l18SameTexts.l0 kq l0 l1 a=some r)∧Aside0 (kq≤k)∧Drawn0 w w')
 case atStart=>exact⟨(0),sr,H',⟨Nat.le_refl _⟩,by repeat(first|exact Drawn0.refl _|apply Drawn0.step)⟩
 case round=>(
 clear H'
 try clear c1
 try clear b
 try clear c3b0
 try clear c3b1
 try clear c3b2
 obtain⟨a,rfl,HA,t,⟨D,rfl⟩⟩:=hrel
 cases gk with
 |zero=>exact absurd HA.out (by simp[spec_l18SameTexts.l0])
 |succ k1=>(
 have H:=HA.out
 clear HA
 simp only[spec_l18SameTexts.l0]at H
 by_cases l:a<(l0.length:Int)
 ·(
 rw[if_pos l]at H
 have c4b0:=zT l
 clear l
 by_cases m:0≤a
 ·(
 rw[if_pos m]at H
 have c5b0:=zT m
 clear m
 by_cases n:a<(l1.length:Int)
 ·(
 rw[if_pos n]at H
 have c6b0:=zT n
 clear n
 by_cases c:(rdOf ByteArray.empty l0 a).toList=(rdOf ByteArray.empty l1 a).toList
 ·(
 rw[if_pos c]at H
 have c7b0:((rdOf ByteArray.empty l0 a).toList==(rdOf ByteArray.empty l1 a).toList)=true:=zE c
 have c7b1:((rdOf ByteArray.empty l0 a).toList !=(rdOf ByteArray.empty l1 a).toList)=false:=zY c
 clear c
 have H':=zM H
 clear H
 have d:0≤(a:Int):=zO (by first|(with_reducible assumption)|assumption)
 have g:a<(l0.length:Int):=zO (by first|(with_reducible assumption)|assumption)
 obtain⟨v,o,x⟩:=Kd.at_string q.out a d g
 cases o
 replace d:=eq_true d
 replace g:=eq_true g
 have i:0≤(a:Int):=zO (by first|(with_reducible assumption)|assumption)
 have j:a<(l1.length:Int):=zO (by first|(with_reducible assumption)|assumption)
 obtain⟨y,p,z⟩:=Kd.at_string s.out a i j
 cases p
 replace i:=eq_true i
 replace j:=eq_true j
 go_wp2
 repeat(go_quiet (fail);try go_wp2)
 go_roundg k1
 case measure=>have:=t.out;omega
 case rel=>exact⟨(wrap64 (a+1)),sr,H',⟨by have:=t.out;omega⟩,by repeat(first|exact Drawn0.refl _|apply Drawn0.step)⟩)
 rw[if_neg c]at H
 have c7b0:((rdOf ByteArray.empty l0 a).toList==(rdOf ByteArray.empty l1 a).toList)=false:=zN c
 have c7b1:((rdOf ByteArray.empty l0 a).toList !=(rdOf ByteArray.empty l1 a).toList)=true:=zX c
 obtain rfl:=zI H
 have d:0≤(a:Int):=zO (by first|(with_reducible assumption)|assumption)
 have g:a<(l0.length:Int):=zO (by first|(with_reducible assumption)|assumption)
 obtain⟨v,o,x⟩:=Kd.at_string q.out a d g
 cases o
 replace d:=eq_true d
 replace g:=eq_true g
 have i:0≤(a:Int):=zO (by first|(with_reducible assumption)|assumption)
 have j:a<(l1.length:Int):=zO (by first|(with_reducible assumption)|assumption)
 obtain⟨y,p,z⟩:=Kd.at_string s.out a i j
 cases p
 replace i:=eq_true i
 replace j:=eq_true j
 go_wp2
 repeat(go_quiet (fail);try go_wp2)
 go_ret
 exact⟨by first|rfl|(simp;done)|(simp[*];done),by repeat(first|exact Drawn0.refl _|apply Drawn0.step)⟩)
 rw[if_neg n]at H
 exact absurd H (by simp))
 rw[if_neg m]at H
 exact absurd H (by simp))
 rw[if_neg l]at H
 have c4b0:=zF l
 clear l
 obtain rfl:=zI H
 go_wp2
 repeat(go_quiet (fail);try go_wp2)
 go_ret
 exact⟨by first|rfl|(simp;done)|(simp[*];done),by repeat(first|exact Drawn0.refl _|apply Drawn0.step)⟩)))
 rw[if_neg b]at H
 have c3b0:((l0.length:Int)==(l1.length:Int))=false:=zN b
 have c3b1:((l0.length:Int) !=(l1.length:Int))=true:=zX b
 have c3b2:(l0.length==l1.length)=false:=by first|simpa using b|(simp at b ⊢;omega)
 obtain rfl:=zI H
 go_enter Try.func63,Try.ntmps63
 go_wp2
 repeat(go_quiet (fail);try go_wp2)
 go_ret
 exact⟨by first|rfl|(simp;done)|(simp[*];done),by repeat(first|exact Drawn0.refl _|apply Drawn0.step)⟩
end
end Go.Proofs.Ytnneadpahjkhgaa.PFnExactSameMemory
