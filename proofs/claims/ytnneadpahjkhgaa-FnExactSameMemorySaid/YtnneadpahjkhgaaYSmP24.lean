/- Printed functions: impl_Binding, slices_Equal_string_string, impl_sameFunction, impl_sameType, impl_sameFile. -/
import Derived.Test.YtnneadpahjkhgaaYSmP0
import Derived.Test.YtnneadpahjkhgaaYSmPE
namespace Go.Proofs.Ytnneadpahjkhgaa.PFnExactSameMemory
open Go.RowKit Go.Proofs.YtnneadpahjkhgaaG Go.Proofs.YtnneadpahjkhgaaW.PrintWords Go.Proofs.YtnneadpahjkhgaaW.PrintLast Go.Proofs.YtnneadpahjkhgaaW.PrintMore
attribute [local go_sem] max2_int min2_int max_two min_two max_three min_three max_four min_four
set_option linter.unusedVariables false
set_option linter.unusedSimpArgs false
section
attribute [local go_sem high] eqA114 eqA116
def impl_Binding.l0 : Nat → List (S116) → List (S116) → Int → Int → Option (Bool)
 |0,_,_,_,_=>none
 |k+1,x0,x1,x12,x13=>if x13<x12 then(if 0≤x13 then(if x13<(x0.length:Int)then(if x13<(x1.length:Int)then(if(!((((rd_T116 x0 x13).f0).toList)==(((rd_T116 x1 x13).f0).toList))||((!(((rd_T116 x0 x13).f1.f0)==((rd_T116 x1 x13).f1.f0))||(!(((rd_T116 x0 x13).f1.f1)==((rd_T116 x1 x13).f1.f1))||(!((((rd_T116 x0 x13).f1.f2).toList)==(((rd_T116 x1 x13).f1.f2).toList))||(!(((rd_T116 x0 x13).f1.f3)==((rd_T116 x1 x13).f1.f3))))))))=true then(some false)else(impl_Binding.l0 k x0 x1 x12 (wrap64 (x13+1))))else(none))else(none))else(none))else(some true)
def impl_Binding.f (k:Nat) (l0:List (S116)) (l1:List (S116)):Option (Bool):=if(l0.length:Int)=(l1.length:Int)then(impl_Binding.l0 k l0 l1 (l0.length:Int) 0)else(some false)
set_option maxHeartbeats 8000000 in
set_option maxRecDepth 100000 in
theorem impl_Binding.calls (k:Nat) (A0:Option Addr) (c0:Nat) (l0:List (S116)) (A1:Option Addr) (c1:Nat) (l1:List (S116)) (r:Bool) (w:World) (hr0:Kd.C k116 w A0 l0.length l0) (hc0:l0.length≤c0) (hr1:Kd.C k116 w A1 l1.length l1) (hc1:l1.length≤c1) (h:impl_Binding.f k l0 l1=some r):
  Calls Try.prog 67 #[.slice A0 l0.length c0,.slice A1 l1.length c1] w fun e w'=>e= .returned (.bool r)∧Drawn0 w w':=by
 have M:=Try.underlying116
 have s:=zM hr0
 have O:=zM hc0
 clear hr0 hc0
 have u:=zM hr1
 have P:=zM hc1
 clear hr1 hc1
 have H:(if(l0.length:Int)=(l1.length:Int)then(impl_Binding.l0 k l0 l1 (l0.length:Int) 0)else(some false))=some r:=h
 clear h
 by_cases b:(l0.length:Int)=(l1.length:Int)
 ·(
 rw[if_pos b]at H
 have c3b0:((l0.length:Int)==(l1.length:Int))=true:=zE b
 have c3b1:((l0.length:Int) !=(l1.length:Int))=false:=zY b
 have c3b2:(l0.length==l1.length)=true:=by first|simpa using b|(simp at b ⊢;omega)
 clear b
 have H':=zM H
 clear H
 go_enter Try.func67,Try.ntmps67
 go_wp2
 repeat(go_quiet (fail);try go_wp2)
 go_loopg [13] k (fun kq x w'=>∃(a:Int),x= .int .i64 a∧Aside0 (impl_Binding.l0 kq l0 l1 (l0.length:Int) a=some r)∧Aside0 (kq≤k)∧Drawn0 w w')
 case atStart=>exact⟨(0),sr,H',⟨Nat.le_refl _⟩,by repeat(first|exact Drawn0.refl _|apply Drawn0.step)⟩
 case round=>(
 clear H'
 try clear c1
 try clear b
 try clear c3b0
 try clear c3b1
 try clear c3b2
 obtain⟨a,rfl,HA,v,⟨Q,rfl⟩⟩:=hrel
 cases gk with
 |zero=>exact absurd HA.out (by simp[impl_Binding.l0])
 |succ k1=>(
 have H:=HA.out
 clear HA
 simp only[impl_Binding.l0]at H
 by_cases j:a<(l0.length:Int)
 ·(
 rw[if_pos j]at H
 have c4b0:=zT j
 clear j
 by_cases m:0≤a
 ·(
 rw[if_pos m]at H
 have c5b0:=zT m
 clear m
 by_cases n:a<(l0.length:Int)
 ·(
 rw[if_pos n]at H
 have c6b0:=zT n
 clear n
 by_cases o:a<(l1.length:Int)
 ·(
 rw[if_pos o]at H
 have c7b0:=zT o
 clear o
 by_cases l:(!((((rd_T116 l0 a).f0).toList)==(((rd_T116 l1 a).f0).toList))||((!(((rd_T116 l0 a).f1.f0)==((rd_T116 l1 a).f1.f0))||(!(((rd_T116 l0 a).f1.f1)==((rd_T116 l1 a).f1.f1))||(!((((rd_T116 l0 a).f1.f2).toList)==(((rd_T116 l1 a).f1.f2).toList))||(!(((rd_T116 l0 a).f1.f3)==((rd_T116 l1 a).f1.f3))))))))=true
 ·(
 rw[if_pos l]at H
 have c8b0:(!((((rd_T116 l0 a).f0).toList)==(((rd_T116 l1 a).f0).toList))||((!(((rd_T116 l0 a).f1.f0)==((rd_T116 l1 a).f1.f0))||(!(((rd_T116 l0 a).f1.f1)==((rd_T116 l1 a).f1.f1))||(!((((rd_T116 l0 a).f1.f2).toList)==(((rd_T116 l1 a).f1.f2).toList))||(!(((rd_T116 l0 a).f1.f3)==((rd_T116 l1 a).f1.f3))))))))=true:=l
 clear l
 obtain rfl:=zI H
 have c:0≤(a:Int):=zO (by first|(with_reducible assumption)|assumption)
 have d:a<(l0.length:Int):=zO (by first|(with_reducible assumption)|assumption)
 obtain⟨y,p,z,A,B,D,E⟩:=at_T116 s.out a c d
 cases p
 replace c:=eq_true c
 replace d:=eq_true d
 have g:0≤(a:Int):=zO (by first|(with_reducible assumption)|assumption)
 have i:a<(l1.length:Int):=zO (by first|(with_reducible assumption)|assumption)
 obtain⟨F,q,G,I,J,K,L⟩:=at_T116 u.out a g i
 cases q
 replace g:=eq_true g
 replace i:=eq_true i
 go_wp2
 repeat(go_quiet (fail);try go_wp2)
 go_ret
 exact⟨by first|rfl|(simp;done)|(simp[*];done),by repeat(first|exact Drawn0.refl _|apply Drawn0.step)⟩)
 rw[if_neg l]at H
 have c8b0:(!((((rd_T116 l0 a).f0).toList)==(((rd_T116 l1 a).f0).toList))||((!(((rd_T116 l0 a).f1.f0)==((rd_T116 l1 a).f1.f0))||(!(((rd_T116 l0 a).f1.f1)==((rd_T116 l1 a).f1.f1))||(!((((rd_T116 l0 a).f1.f2).toList)==(((rd_T116 l1 a).f1.f2).toList))||(!(((rd_T116 l0 a).f1.f3)==((rd_T116 l1 a).f1.f3))))))))=false:=by simpa using l
 clear l
 have H':=zM H
 clear H
 have c:0≤(a:Int):=zO (by first|(with_reducible assumption)|assumption)
 have d:a<(l0.length:Int):=zO (by first|(with_reducible assumption)|assumption)
 obtain⟨y,p,z,A,B,D,E⟩:=at_T116 s.out a c d
 cases p
 replace c:=eq_true c
 replace d:=eq_true d
 have g:0≤(a:Int):=zO (by first|(with_reducible assumption)|assumption)
 have i:a<(l1.length:Int):=zO (by first|(with_reducible assumption)|assumption)
 obtain⟨F,q,G,I,J,K,L⟩:=at_T116 u.out a g i
 cases q
 replace g:=eq_true g
 replace i:=eq_true i
 go_wp2
 repeat(go_quiet (fail);try go_wp2)
 go_roundg k1
 case measure=>have:=v.out;omega
 case rel=>exact⟨(wrap64 (a+1)),sr,H',⟨by have:=v.out;omega⟩,by repeat(first|exact Drawn0.refl _|apply Drawn0.step)⟩)
 rw[if_neg o]at H
 exact absurd H (by simp))
 rw[if_neg n]at H
 exact absurd H (by simp))
 rw[if_neg m]at H
 exact absurd H (by simp))
 rw[if_neg j]at H
 have c4b0:=zF j
 clear j
 obtain rfl:=zI H
 go_wp2
 repeat(go_quiet (fail);try go_wp2)
 go_ret
 exact⟨by first|rfl|(simp;done)|(simp[*];done),by repeat(first|exact Drawn0.refl _|apply Drawn0.step)⟩)))
 rw[if_neg b]at H
 have c3b0:((l0.length:Int)==(l1.length:Int))=false:=zN b
 have c3b1:((l0.length:Int) !=(l1.length:Int))=true:=zX b
 have c3b2:(l0.length==l1.length)=false:=by first|simpa using b|(simp at b ⊢;omega)
 obtain rfl:=zI H
 go_enter Try.func67,Try.ntmps67
 go_wp2
 repeat(go_quiet (fail);try go_wp2)
 go_ret
 exact⟨by first|rfl|(simp;done)|(simp[*];done),by repeat(first|exact Drawn0.refl _|apply Drawn0.step)⟩
end
section
attribute [local go_sem high] eqA114 eqA116
def slices_Equal_string_string.l0 : Nat → List ByteArray → List ByteArray → Int → Int → Option (Bool)
 |0,_,_,_,_=>none
 |k+1,x0,x1,x12,x13=>if x13<x12 then(if 0≤x13 then(if x13<(x0.length:Int)then(if x13<(x1.length:Int)then(if(rdOf ByteArray.empty x0 x13).toList=(rdOf ByteArray.empty x1 x13).toList then(slices_Equal_string_string.l0 k x0 x1 x12 (wrap64 (x13+1)))else(some false))else(none))else(none))else(none))else(some true)
def slices_Equal_string_string.f (k:Nat) (l0:List ByteArray) (l1:List ByteArray):Option (Bool):=if(l0.length:Int)=(l1.length:Int)then(slices_Equal_string_string.l0 k l0 l1 (l0.length:Int) 0)else(some false)
set_option maxHeartbeats 8000000 in
set_option maxRecDepth 100000 in
theorem slices_Equal_string_string.calls (k:Nat) (A0:Option Addr) (c0:Nat) (l0:List ByteArray) (A1:Option Addr) (c1:Nat) (l1:List ByteArray) (r:Bool) (w:World) (hr0:Kd.C Kd.string w A0 l0.length l0) (hc0:l0.length≤c0) (hr1:Kd.C Kd.string w A1 l1.length l1) (hc1:l1.length≤c1) (h:slices_Equal_string_string.f k l0 l1=some r):
  Calls Try.prog 45 #[.slice A0 l0.length c0,.slice A1 l1.length c1] w fun e w'=>e= .returned (.bool r)∧Drawn0 w w':=by
 have s:=zM hr0
 have D:=zM hc0
 clear hr0 hc0
 have u:=zM hr1
 have E:=zM hc1
 clear hr1 hc1
 have H:(if(l0.length:Int)=(l1.length:Int)then(slices_Equal_string_string.l0 k l0 l1 (l0.length:Int) 0)else(some false))=some r:=h
 clear h
 by_cases b:(l0.length:Int)=(l1.length:Int)
 ·(
 rw[if_pos b]at H
 have c3b0:((l0.length:Int)==(l1.length:Int))=true:=zE b
 have c3b1:((l0.length:Int) !=(l1.length:Int))=false:=zY b
 have c3b2:(l0.length==l1.length)=true:=by first|simpa using b|(simp at b ⊢;omega)
 clear b
 have H':=zM H
 clear H
 go_enter Try.func45,Try.ntmps45
 go_wp2
 repeat(go_quiet (fail);try go_wp2)
 go_loopg [13] k (fun kq x w'=>∃(a:Int),x= .int .i64 a∧Aside0 (slices_Equal_string_string.l0 kq l0 l1 (l0.length:Int) a=some r)∧Aside0 (kq≤k)∧Drawn0 w w')
 case atStart=>exact⟨(0),sr,H',⟨Nat.le_refl _⟩,by repeat(first|exact Drawn0.refl _|apply Drawn0.step)⟩
 case round=>(
 clear H'
 try clear c1
 try clear b
 try clear c3b0
 try clear c3b1
 try clear c3b2
 obtain⟨a,rfl,HA,v,⟨F,rfl⟩⟩:=hrel
 cases gk with
 |zero=>exact absurd HA.out (by simp[slices_Equal_string_string.l0])
 |succ k1=>(
 have H:=HA.out
 clear HA
 simp only[slices_Equal_string_string.l0]at H
 by_cases l:a<(l0.length:Int)
 ·(
 rw[if_pos l]at H
 have c4b0:=zT l
 clear l
 by_cases m:0≤a
 ·(
 rw[if_pos m]at H
 have c5b0:=zT m
 clear m
 by_cases n:a<(l0.length:Int)
 ·(
 rw[if_pos n]at H
 have c6b0:=zT n
 clear n
 by_cases o:a<(l1.length:Int)
 ·(
 rw[if_pos o]at H
 have c7b0:=zT o
 clear o
 by_cases c:(rdOf ByteArray.empty l0 a).toList=(rdOf ByteArray.empty l1 a).toList
 ·(
 rw[if_pos c]at H
 have c8b0:((rdOf ByteArray.empty l0 a).toList==(rdOf ByteArray.empty l1 a).toList)=true:=zE c
 have c8b1:((rdOf ByteArray.empty l0 a).toList !=(rdOf ByteArray.empty l1 a).toList)=false:=zY c
 clear c
 have H':=zM H
 clear H
 have d:0≤(a:Int):=zO (by first|(with_reducible assumption)|assumption)
 have g:a<(l0.length:Int):=zO (by first|(with_reducible assumption)|assumption)
 obtain⟨y,p,z⟩:=Kd.at_string s.out a d g
 cases p
 replace d:=eq_true d
 replace g:=eq_true g
 have i:0≤(a:Int):=zO (by first|(with_reducible assumption)|assumption)
 have j:a<(l1.length:Int):=zO (by first|(with_reducible assumption)|assumption)
 obtain⟨A,q,B⟩:=Kd.at_string u.out a i j
 cases q
 replace i:=eq_true i
 replace j:=eq_true j
 go_wp2
 repeat(go_quiet (fail);try go_wp2)
 go_roundg k1
 case measure=>have:=v.out;omega
 case rel=>exact⟨(wrap64 (a+1)),sr,H',⟨by have:=v.out;omega⟩,by repeat(first|exact Drawn0.refl _|apply Drawn0.step)⟩)
 rw[if_neg c]at H
 have c8b0:((rdOf ByteArray.empty l0 a).toList==(rdOf ByteArray.empty l1 a).toList)=false:=zN c
 have c8b1:((rdOf ByteArray.empty l0 a).toList !=(rdOf ByteArray.empty l1 a).toList)=true:=zX c
 obtain rfl:=zI H
 have d:0≤(a:Int):=zO (by first|(with_reducible assumption)|assumption)
 have g:a<(l0.length:Int):=zO (by first|(with_reducible assumption)|assumption)
 obtain⟨y,p,z⟩:=Kd.at_string s.out a d g
 cases p
 replace d:=eq_true d
 replace g:=eq_true g
 have i:0≤(a:Int):=zO (by first|(with_reducible assumption)|assumption)
 have j:a<(l1.length:Int):=zO (by first|(with_reducible assumption)|assumption)
 obtain⟨A,q,B⟩:=Kd.at_string u.out a i j
 cases q
 replace i:=eq_true i
 replace j:=eq_true j
 go_wp2
 repeat(go_quiet (fail);try go_wp2)
 go_ret
 exact⟨by first|rfl|(simp;done)|(simp[*];done),by repeat(first|exact Drawn0.refl _|apply Drawn0.step)⟩)
 rw[if_neg o]at H
 exact absurd H (by simp))
 rw[if_neg n]at H
 exact absurd H (by simp))
 rw[if_neg m]at H
 exact absurd H (by simp))
 rw[if_neg l]at H
 have c4b0:=zF l
 clear l
 obtain rfl:=zI H
 go_wp2
 repeat(go_quiet (fail);try go_wp2)
 go_ret
 exact⟨by first|rfl|(simp;done)|(simp[*];done),by repeat(first|exact Drawn0.refl _|apply Drawn0.step)⟩)))
 rw[if_neg b]at H
 have c3b0:((l0.length:Int)==(l1.length:Int))=false:=zN b
 have c3b1:((l0.length:Int) !=(l1.length:Int))=true:=zX b
 have c3b2:(l0.length==l1.length)=false:=by first|simpa using b|(simp at b ⊢;omega)
 obtain rfl:=zI H
 go_enter Try.func45,Try.ntmps45
 go_wp2
 repeat(go_quiet (fail);try go_wp2)
 go_ret
 exact⟨by first|rfl|(simp;done)|(simp[*];done),by repeat(first|exact Drawn0.refl _|apply Drawn0.step)⟩
end
section
attribute [local go_sem high] eqA114 eqA116
def impl_sameFunction.f (k:Nat) (a0_0:ByteArray) (l0_1:List ByteArray) (l0_2:List ByteArray) (a0_3:ByteArray) (a1_0:ByteArray) (l1_1:List ByteArray) (l1_2:List ByteArray) (a1_3:ByteArray):Option (Bool):=if a0_0.toList=a1_0.toList then(if a0_3.toList=a1_3.toList then((slices_Equal_string_string.f k l0_1 l1_1).bind fun t400=>(if t400=true then((slices_Equal_string_string.f k l0_2 l1_2).bind fun t401=>(some t401))else(some false)))else(some false))else(some false)
set_option maxHeartbeats 8000000 in
set_option maxRecDepth 100000 in
theorem impl_sameFunction.calls (k:Nat) (a0_0:ByteArray) (A0_1:Option Addr) (c0_1:Nat) (l0_1:List ByteArray) (A0_2:Option Addr) (c0_2:Nat) (l0_2:List ByteArray) (a0_3:ByteArray) (a1_0:ByteArray) (A1_1:Option Addr) (c1_1:Nat) (l1_1:List ByteArray) (A1_2:Option Addr) (c1_2:Nat) (l1_2:List ByteArray) (a1_3:ByteArray) (r:Bool) (w:World) (hr0_1:Kd.C Kd.string w A0_1 l0_1.length l0_1) (hc0_1:l0_1.length≤c0_1) (hr0_2:Kd.C Kd.string w A0_2 l0_2.length l0_2) (hc0_2:l0_2.length≤c0_2) (hr1_1:Kd.C Kd.string w A1_1 l1_1.length l1_1) (hc1_1:l1_1.length≤c1_1) (hr1_2:Kd.C Kd.string w A1_2 l1_2.length l1_2) (hc1_2:l1_2.length≤c1_2) (h:impl_sameFunction.f k a0_0 l0_1 l0_2 a0_3 a1_0 l1_1 l1_2 a1_3=some r):
  Calls Try.prog 95 #[.agg #[.string a0_0,.slice A0_1 l0_1.length c0_1,.slice A0_2 l0_2.length c0_2,.string a0_3],.agg #[.string a1_0,.slice A1_1 l1_1.length c1_1,.slice A1_2 l1_2.length c1_2,.string a1_3]] w fun e w'=>e= .returned (.bool r)∧Below w.heap.size w w':=by
 have I:=Try.underlying107
 have v:=zM hr0_1
 have x:=zM hc0_1
 clear hr0_1 hc0_1
 have B:=zM hr0_2
 have D:=zM hc0_2
 clear hr0_2 hc0_2
 have y:=zM hr1_1
 have z:=zM hc1_1
 clear hr1_1 hc1_1
 have E:=zM hr1_2
 have F:=zM hc1_2
 clear hr1_2 hc1_2
 have HB:=zM (Below.refl w.heap.size w)
 have H:(if a0_0.toList=a1_0.toList then(if a0_3.toList=a1_3.toList then((slices_Equal_string_string.f k l0_1 l1_1).bind fun n=>(if n=true then((slices_Equal_string_string.f k l0_2 l1_2).bind fun o=>(some o))else(some false)))else(some false))else(some false))=some r:=h
 clear h
 by_cases b:a0_0.toList=a1_0.toList
 ·(
 rw[if_pos b]at H
 have c3b0:(a0_0.toList==a1_0.toList)=true:=zE b
 have c3b1:(a0_0.toList !=a1_0.toList)=false:=zY b
 clear b
 by_cases c:a0_3.toList=a1_3.toList
 ·(
 rw[if_pos c]at H
 have c4b0:(a0_3.toList==a1_3.toList)=true:=zE c
 have c4b1:(a0_3.toList !=a1_3.toList)=false:=zY c
 clear c
 obtain⟨n,A,H⟩:=sO H
 by_cases m:n=true
 ·(
 subst m
 rewrite[if_pos rfl]at H
 obtain⟨o,G,H⟩:=sO H
 obtain rfl:=zI H
 go_enter Try.func95,Try.ntmps95
 go_wp2_with (first|((with_reducible refine gate_dst (N:=2) rfl ?_);refine sV (N:=2) (cs:= #[.string a0_0,.slice A0_1 l0_1.length c0_1,.slice A0_2 l0_2.length c0_2,.string a0_3]) (t:=107) ?_;intro p hg J hbox hb;have a:=zM (hbox);have q:=sG HB hg;have j:=sG HB hg;replace HB:=sB HB hb;clear hb hbox hg)|((with_reducible refine gate_dst (N:=3) rfl ?_);refine sV (N:=3) (cs:= #[.string a1_0,.slice A1_1 l1_1.length c1_1,.slice A1_2 l1_2.length c1_2,.string a1_3]) (t:=107) ?_;intro s hg K hbox hb;have d:=zM (hbox);have u:=sG HB hg;have l:=sG HB hg;replace HB:=sB HB hb;have g:=sN a hg;have i:=sM a hg;replace a:=sK a hb;clear hb hbox hg;have L:=g.out;have M:=i.out;obtain⟨O,P,Q,R,S,T,U,V⟩:=cells4 a.out;obtain⟨W,X,Y,Z,aa,ab,ac,ad⟩:=cells4 d.out)|(go_at_call 45;(with_reducible refine(slices_Equal_string_string.calls k _ _ l0_1 _ _ l1_1 true _ ?side1 ?side2 ?side3 ?side4 A.out).mono ?_);(case side1=>exact sD (zC v.out HB.out));(case side2=>exact x.out);(case side3=>exact sD (zC y.out HB.out));(case side4=>exact z.out);rintro e w' ⟨rfl,⟨nd,rfl⟩⟩)|(go_at_call 45;(with_reducible refine(slices_Equal_string_string.calls k _ _ l0_2 _ _ l1_2 o _ ?side1 ?side2 ?side3 ?side4 G.out).mono ?_);(case side1=>exact sD (zC B.out (by repeat(first|(with_reducible first|exact HB.out|apply below_alloc|apply pw_below_drewN|apply below_drew1|refine below_set ?_ j.out|refine below_set ?_ l.out)|exact HB.out))));(case side2=>exact D.out);(case side3=>exact sD (zC E.out (by repeat(first|(with_reducible first|exact HB.out|apply below_alloc|apply pw_below_drewN|apply below_drew1|refine below_set ?_ j.out|refine below_set ?_ l.out)|exact HB.out))));(case side4=>exact F.out);rintro e w' ⟨rfl,⟨nd,rfl⟩⟩))
 go_ret
 exact⟨sq,sb⟩)
 replace m:=zB m
 subst m
 rewrite[if_neg zQ]at H
 obtain rfl:=zI H
 go_enter Try.func95,Try.ntmps95
 go_wp2_with (first|((with_reducible refine gate_dst (N:=2) rfl ?_);refine sV (N:=2) (cs:= #[.string a0_0,.slice A0_1 l0_1.length c0_1,.slice A0_2 l0_2.length c0_2,.string a0_3]) (t:=107) ?_;intro p hg ae hbox hb;have a:=zM (hbox);have q:=sG HB hg;have j:=sG HB hg;replace HB:=sB HB hb;clear hb hbox hg)|((with_reducible refine gate_dst (N:=3) rfl ?_);refine sV (N:=3) (cs:= #[.string a1_0,.slice A1_1 l1_1.length c1_1,.slice A1_2 l1_2.length c1_2,.string a1_3]) (t:=107) ?_;intro s hg af hbox hb;have d:=zM (hbox);have u:=sG HB hg;have l:=sG HB hg;replace HB:=sB HB hb;have g:=sN a hg;have i:=sM a hg;replace a:=sK a hb;clear hb hbox hg;have ag:=g.out;have ah:=i.out;obtain⟨ai,aj,ak,al,am,an,ao,ap⟩:=cells4 a.out;obtain⟨aq,ar,au,av,aw,ax,ay,az⟩:=cells4 d.out)|(go_at_call 45;(with_reducible refine(slices_Equal_string_string.calls k _ _ l0_1 _ _ l1_1 false _ ?side1 ?side2 ?side3 ?side4 A.out).mono ?_);(case side1=>exact sD (zC v.out HB.out));(case side2=>exact x.out);(case side3=>exact sD (zC y.out HB.out));(case side4=>exact z.out);rintro e w' ⟨rfl,⟨nd,rfl⟩⟩))
 go_ret
 exact⟨sq,sb⟩)
 rw[if_neg c]at H
 have c4b0:(a0_3.toList==a1_3.toList)=false:=zN c
 have c4b1:(a0_3.toList !=a1_3.toList)=true:=zX c
 obtain rfl:=zI H
 go_enter Try.func95,Try.ntmps95
 go_wp2_with (first|((with_reducible refine gate_dst (N:=2) rfl ?_);refine sV (N:=2) (cs:= #[.string a0_0,.slice A0_1 l0_1.length c0_1,.slice A0_2 l0_2.length c0_2,.string a0_3]) (t:=107) ?_;intro p hg aA hbox hb;have a:=zM (hbox);have q:=sG HB hg;have j:=sG HB hg;replace HB:=sB HB hb;clear hb hbox hg)|((with_reducible refine gate_dst (N:=3) rfl ?_);refine sV (N:=3) (cs:= #[.string a1_0,.slice A1_1 l1_1.length c1_1,.slice A1_2 l1_2.length c1_2,.string a1_3]) (t:=107) ?_;intro s hg aB hbox hb;have d:=zM (hbox);have u:=sG HB hg;have l:=sG HB hg;replace HB:=sB HB hb;have g:=sN a hg;have i:=sM a hg;replace a:=sK a hb;clear hb hbox hg;have aC:=g.out;have aD:=i.out;obtain⟨aE,aF,aG,aH,aI,aJ,aK,aL⟩:=cells4 a.out;obtain⟨aM,aN,aO,aP,aQ,aR,aS,aT⟩:=cells4 d.out))
 go_ret
 exact⟨sq,sb⟩)
 rw[if_neg b]at H
 have c3b0:(a0_0.toList==a1_0.toList)=false:=zN b
 have c3b1:(a0_0.toList !=a1_0.toList)=true:=zX b
 obtain rfl:=zI H
 go_enter Try.func95,Try.ntmps95
 go_wp2_with (first|((with_reducible refine gate_dst (N:=2) rfl ?_);refine sV (N:=2) (cs:= #[.string a0_0,.slice A0_1 l0_1.length c0_1,.slice A0_2 l0_2.length c0_2,.string a0_3]) (t:=107) ?_;intro p hg aU hbox hb;have a:=zM (hbox);have q:=sG HB hg;have j:=sG HB hg;replace HB:=sB HB hb;clear hb hbox hg)|((with_reducible refine gate_dst (N:=3) rfl ?_);refine sV (N:=3) (cs:= #[.string a1_0,.slice A1_1 l1_1.length c1_1,.slice A1_2 l1_2.length c1_2,.string a1_3]) (t:=107) ?_;intro s hg aV hbox hb;have d:=zM (hbox);have u:=sG HB hg;have l:=sG HB hg;replace HB:=sB HB hb;have g:=sN a hg;have i:=sM a hg;replace a:=sK a hb;clear hb hbox hg;have aW:=g.out;have aX:=i.out;obtain⟨aY,aZ,a0,a1,a2,a3,a4,a5⟩:=cells4 a.out;obtain⟨a6,a7,a8,a9,ba,bb,bc,bd⟩:=cells4 d.out))
 go_ret
 exact⟨sq,sb⟩
end
def impl_sameType.f (k:Nat) (a0_0:ByteArray) (l0_1:List ByteArray) (a1_0:ByteArray) (l1_1:List ByteArray):Option (Bool):=if a0_0.toList=a1_0.toList then((slices_Equal_string_string.f k l0_1 l1_1).bind fun t409=>(some t409))else(some false)
set_option maxHeartbeats 8000000 in
set_option maxRecDepth 100000 in
theorem impl_sameType.calls (k:Nat) (a0_0:ByteArray) (A0_1:Option Addr) (c0_1:Nat) (l0_1:List ByteArray) (a1_0:ByteArray) (A1_1:Option Addr) (c1_1:Nat) (l1_1:List ByteArray) (r:Bool) (w:World) (hr0_1:Kd.C Kd.string w A0_1 l0_1.length l0_1) (hc0_1:l0_1.length≤c0_1) (hr1_1:Kd.C Kd.string w A1_1 l1_1.length l1_1) (hc1_1:l1_1.length≤c1_1) (h:impl_sameType.f k a0_0 l0_1 a1_0 l1_1=some r):
  Calls Try.prog 97 #[.agg #[.string a0_0,.slice A0_1 l0_1.length c0_1],.agg #[.string a1_0,.slice A1_1 l1_1.length c1_1]] w fun e w'=>e= .returned (.bool r)∧Below w.heap.size w w':=by
 have y:=Try.underlying109
 have j:=zM hr0_1
 have l:=zM hc0_1
 clear hr0_1 hc0_1
 have m:=zM hr1_1
 have n:=zM hc1_1
 clear hr1_1 hc1_1
 have HB:=zM (Below.refl w.heap.size w)
 have H:(if a0_0.toList=a1_0.toList then((slices_Equal_string_string.f k l0_1 l1_1).bind fun c=>(some c))else(some false))=some r:=h
 clear h
 by_cases b:a0_0.toList=a1_0.toList
 ·(
 rw[if_pos b]at H
 have c3b0:(a0_0.toList==a1_0.toList)=true:=zE b
 have c3b1:(a0_0.toList !=a1_0.toList)=false:=zY b
 clear b
 obtain⟨c,o,H⟩:=sO H
 obtain rfl:=zI H
 go_enter Try.func97,Try.ntmps97
 go_wp2_with (first|((with_reducible refine gate_dst (N:=2) rfl ?_);refine sV (N:=2) (cs:= #[.string a0_0,.slice A0_1 l0_1.length c0_1]) (t:=109) ?_;intro p hg z hbox hb;have a:=zM (hbox);have q:=sG HB hg;have s:=sG HB hg;replace HB:=sB HB hb;clear hb hbox hg)|((with_reducible refine gate_dst (N:=3) rfl ?_);refine sV (N:=3) (cs:= #[.string a1_0,.slice A1_1 l1_1.length c1_1]) (t:=109) ?_;intro u hg A hbox hb;have d:=zM (hbox);have v:=sG HB hg;have x:=sG HB hg;replace HB:=sB HB hb;have g:=sN a hg;have i:=sM a hg;replace a:=sK a hb;clear hb hbox hg;have B:=g.out;have D:=i.out;obtain⟨E,F,G,I⟩:=cells2 a.out;obtain⟨J,K,L,M⟩:=cells2 d.out)|(go_at_call 45;(with_reducible refine(slices_Equal_string_string.calls k _ _ l0_1 _ _ l1_1 c _ ?side1 ?side2 ?side3 ?side4 o.out).mono ?_);(case side1=>exact sD (zC j.out HB.out));(case side2=>exact l.out);(case side3=>exact sD (zC m.out HB.out));(case side4=>exact n.out);rintro e w' ⟨rfl,⟨nd,rfl⟩⟩))
 go_ret
 exact⟨sq,sb⟩)
 rw[if_neg b]at H
 have c3b0:(a0_0.toList==a1_0.toList)=false:=zN b
 have c3b1:(a0_0.toList !=a1_0.toList)=true:=zX b
 obtain rfl:=zI H
 go_enter Try.func97,Try.ntmps97
 go_wp2_with (first|((with_reducible refine gate_dst (N:=2) rfl ?_);refine sV (N:=2) (cs:= #[.string a0_0,.slice A0_1 l0_1.length c0_1]) (t:=109) ?_;intro p hg O hbox hb;have a:=zM (hbox);have q:=sG HB hg;have s:=sG HB hg;replace HB:=sB HB hb;clear hb hbox hg)|((with_reducible refine gate_dst (N:=3) rfl ?_);refine sV (N:=3) (cs:= #[.string a1_0,.slice A1_1 l1_1.length c1_1]) (t:=109) ?_;intro u hg P hbox hb;have d:=zM (hbox);have v:=sG HB hg;have x:=sG HB hg;replace HB:=sB HB hb;have g:=sN a hg;have i:=sM a hg;replace a:=sK a hb;clear hb hbox hg;have Q:=g.out;have R:=i.out;obtain⟨S,T,U,V⟩:=cells2 a.out;obtain⟨W,X,Y,Z⟩:=cells2 d.out))
 go_ret
 exact⟨sq,sb⟩
def impl_sameFile.f (k:Nat) (a0_0:ByteArray) (l0_1:List ByteArray) (a0_2:Int) (a0_3:Int) (a1_0:ByteArray) (l1_1:List ByteArray) (a1_2:Int) (a1_3:Int):Option (Bool):=if a0_0.toList=a1_0.toList then(if a0_2=a1_2 then(if a0_3=a1_3 then((slices_Equal_string_string.f k l0_1 l1_1).bind fun t425=>(some t425))else(some false))else(some false))else(some false)
set_option maxHeartbeats 8000000 in
set_option maxRecDepth 100000 in
theorem impl_sameFile.calls (k:Nat) (a0_0:ByteArray) (A0_1:Option Addr) (c0_1:Nat) (l0_1:List ByteArray) (a0_2:Int) (a0_3:Int) (a1_0:ByteArray) (A1_1:Option Addr) (c1_1:Nat) (l1_1:List ByteArray) (a1_2:Int) (a1_3:Int) (r:Bool) (w:World) (hr0_1:Kd.C Kd.string w A0_1 l0_1.length l0_1) (hc0_1:l0_1.length≤c0_1) (hr1_1:Kd.C Kd.string w A1_1 l1_1.length l1_1) (hc1_1:l1_1.length≤c1_1) (h:impl_sameFile.f k a0_0 l0_1 a0_2 a0_3 a1_0 l1_1 a1_2 a1_3=some r):
  Calls Try.prog 47 #[.agg #[.string a0_0,.slice A0_1 l0_1.length c0_1,.int .i64 a0_2,.int .i64 a0_3],.agg #[.string a1_0,.slice A1_1 l1_1.length c1_1,.int .i64 a1_2,.int .i64 a1_3]] w fun e w'=>e= .returned (.bool r)∧Below w.heap.size w w':=by
 have A:=Try.underlying87
 have u:=zM hr0_1
 have v:=zM hc0_1
 clear hr0_1 hc0_1
 have x:=zM hr1_1
 have y:=zM hc1_1
 clear hr1_1 hc1_1
 have HB:=zM (Below.refl w.heap.size w)
 have H:(if a0_0.toList=a1_0.toList then(if a0_2=a1_2 then(if a0_3=a1_3 then((slices_Equal_string_string.f k l0_1 l1_1).bind fun l=>(some l))else(some false))else(some false))else(some false))=some r:=h
 clear h
 by_cases b:a0_0.toList=a1_0.toList
 ·(
 rw[if_pos b]at H
 have c3b0:(a0_0.toList==a1_0.toList)=true:=zE b
 have c3b1:(a0_0.toList !=a1_0.toList)=false:=zY b
 clear b
 by_cases c:a0_2=a1_2
 ·(
 rw[if_pos c]at H
 have c4b0:(a0_2==a1_2)=true:=zE c
 have c4b1:(a0_2 !=a1_2)=false:=zY c
 clear c
 by_cases d:a0_3=a1_3
 ·(
 rw[if_pos d]at H
 have c5b0:(a0_3==a1_3)=true:=zE d
 have c5b1:(a0_3 !=a1_3)=false:=zY d
 clear d
 obtain⟨l,z,H⟩:=sO H
 obtain rfl:=zI H
 go_enter Try.func47,Try.ntmps47
 go_wp2_with (first|((with_reducible refine gate_dst (N:=2) rfl ?_);refine sV (N:=2) (cs:= #[.string a0_0,.slice A0_1 l0_1.length c0_1,.int .i64 a0_2,.int .i64 a0_3]) (t:=87) ?_;intro m hg B hbox hb;have a:=zM (hbox);have n:=sG HB hg;have o:=sG HB hg;replace HB:=sB HB hb;clear hb hbox hg)|((with_reducible refine gate_dst (N:=3) rfl ?_);refine sV (N:=3) (cs:= #[.string a1_0,.slice A1_1 l1_1.length c1_1,.int .i64 a1_2,.int .i64 a1_3]) (t:=87) ?_;intro p hg D hbox hb;have g:=zM (hbox);have q:=sG HB hg;have s:=sG HB hg;replace HB:=sB HB hb;have i:=sN a hg;have j:=sM a hg;replace a:=sK a hb;clear hb hbox hg;have E:=i.out;have F:=j.out;obtain⟨G,I,J,K,L,M,O,P⟩:=cells4 a.out;obtain⟨Q,R,S,T,U,V,W,X⟩:=cells4 g.out)|(go_at_call 45;(with_reducible refine(slices_Equal_string_string.calls k _ _ l0_1 _ _ l1_1 l _ ?side1 ?side2 ?side3 ?side4 z.out).mono ?_);(case side1=>exact sD (zC u.out HB.out));(case side2=>exact v.out);(case side3=>exact sD (zC x.out HB.out));(case side4=>exact y.out);rintro e w' ⟨rfl,⟨nd,rfl⟩⟩))
 go_ret
 exact⟨sq,sb⟩)
 rw[if_neg d]at H
 have c5b0:(a0_3==a1_3)=false:=zN d
 have c5b1:(a0_3 !=a1_3)=true:=zX d
 obtain rfl:=zI H
 go_enter Try.func47,Try.ntmps47
 go_wp2_with (first|((with_reducible refine gate_dst (N:=2) rfl ?_);refine sV (N:=2) (cs:= #[.string a0_0,.slice A0_1 l0_1.length c0_1,.int .i64 a0_2,.int .i64 a0_3]) (t:=87) ?_;intro m hg Y hbox hb;have a:=zM (hbox);have n:=sG HB hg;have o:=sG HB hg;replace HB:=sB HB hb;clear hb hbox hg)|((with_reducible refine gate_dst (N:=3) rfl ?_);refine sV (N:=3) (cs:= #[.string a1_0,.slice A1_1 l1_1.length c1_1,.int .i64 a1_2,.int .i64 a1_3]) (t:=87) ?_;intro p hg Z hbox hb;have g:=zM (hbox);have q:=sG HB hg;have s:=sG HB hg;replace HB:=sB HB hb;have i:=sN a hg;have j:=sM a hg;replace a:=sK a hb;clear hb hbox hg;have aa:=i.out;have ab:=j.out;obtain⟨ac,ad,ae,af,ag,ah,ai,aj⟩:=cells4 a.out;obtain⟨ak,al,am,an,ao,ap,aq,ar⟩:=cells4 g.out))
 go_ret
 exact⟨sq,sb⟩)
 rw[if_neg c]at H
 have c4b0:(a0_2==a1_2)=false:=zN c
 have c4b1:(a0_2 !=a1_2)=true:=zX c
 obtain rfl:=zI H
 go_enter Try.func47,Try.ntmps47
 go_wp2_with (first|((with_reducible refine gate_dst (N:=2) rfl ?_);refine sV (N:=2) (cs:= #[.string a0_0,.slice A0_1 l0_1.length c0_1,.int .i64 a0_2,.int .i64 a0_3]) (t:=87) ?_;intro m hg au hbox hb;have a:=zM (hbox);have n:=sG HB hg;have o:=sG HB hg;replace HB:=sB HB hb;clear hb hbox hg)|((with_reducible refine gate_dst (N:=3) rfl ?_);refine sV (N:=3) (cs:= #[.string a1_0,.slice A1_1 l1_1.length c1_1,.int .i64 a1_2,.int .i64 a1_3]) (t:=87) ?_;intro p hg av hbox hb;have g:=zM (hbox);have q:=sG HB hg;have s:=sG HB hg;replace HB:=sB HB hb;have i:=sN a hg;have j:=sM a hg;replace a:=sK a hb;clear hb hbox hg;have aw:=i.out;have ax:=j.out;obtain⟨ay,az,aA,aB,aC,aD,aE,aF⟩:=cells4 a.out;obtain⟨aG,aH,aI,aJ,aK,aL,aM,aN⟩:=cells4 g.out))
 go_ret
 exact⟨sq,sb⟩)
 rw[if_neg b]at H
 have c3b0:(a0_0.toList==a1_0.toList)=false:=zN b
 have c3b1:(a0_0.toList !=a1_0.toList)=true:=zX b
 obtain rfl:=zI H
 go_enter Try.func47,Try.ntmps47
 go_wp2_with (first|((with_reducible refine gate_dst (N:=2) rfl ?_);refine sV (N:=2) (cs:= #[.string a0_0,.slice A0_1 l0_1.length c0_1,.int .i64 a0_2,.int .i64 a0_3]) (t:=87) ?_;intro m hg aO hbox hb;have a:=zM (hbox);have n:=sG HB hg;have o:=sG HB hg;replace HB:=sB HB hb;clear hb hbox hg)|((with_reducible refine gate_dst (N:=3) rfl ?_);refine sV (N:=3) (cs:= #[.string a1_0,.slice A1_1 l1_1.length c1_1,.int .i64 a1_2,.int .i64 a1_3]) (t:=87) ?_;intro p hg aP hbox hb;have g:=zM (hbox);have q:=sG HB hg;have s:=sG HB hg;replace HB:=sB HB hb;have i:=sN a hg;have j:=sM a hg;replace a:=sK a hb;clear hb hbox hg;have aQ:=i.out;have aR:=j.out;obtain⟨aS,aT,aU,aV,aW,aX,aY,aZ⟩:=cells4 a.out;obtain⟨a0,a1,a2,a3,a4,a5,a6,a7⟩:=cells4 g.out))
 go_ret
 exact⟨sq,sb⟩
end Go.Proofs.Ytnneadpahjkhgaa.PFnExactSameMemory
