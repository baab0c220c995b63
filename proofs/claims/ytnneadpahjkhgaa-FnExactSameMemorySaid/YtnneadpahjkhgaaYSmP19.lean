/- Printed functions: spec_l21SameTexts, spec_l21SameFile. -/
import Derived.Test.YtnneadpahjkhgaaYSmP0
namespace Go.Proofs.Ytnneadpahjkhgaa.PFnExactSameMemory
open Go.RowKit Go.Proofs.YtnneadpahjkhgaaG Go.Proofs.YtnneadpahjkhgaaW.PrintWords Go.Proofs.YtnneadpahjkhgaaW.PrintLast Go.Proofs.YtnneadpahjkhgaaW.PrintMore
attribute [local go_sem] max2_int min2_int max_two min_two max_three min_three max_four min_four
set_option linter.unusedVariables false
set_option linter.unusedSimpArgs false
def spec_l21SameTexts.l0 : Nat → List ByteArray → List ByteArray → Int → Option (Bool)
 |0,_,_,_=>none
 |k+1,x0,x1,x5=>if x5<(x0.length:Int)then(if 0≤x5 then(if x5<(x1.length:Int)then(if(rdOf ByteArray.empty x0 x5).toList=(rdOf ByteArray.empty x1 x5).toList then(spec_l21SameTexts.l0 k x0 x1 (wrap64 (x5+1)))else(some false))else(none))else(none))else(some true)
def spec_l21SameTexts.f (k:Nat) (l0:List ByteArray) (l1:List ByteArray):Option (Bool):=if(l0.length:Int)=(l1.length:Int)then(spec_l21SameTexts.l0 k l0 l1 0)else(some false)
set_option maxHeartbeats 8000000 in
set_option maxRecDepth 100000 in
theorem spec_l21SameTexts.calls (k:Nat) (A0:Option Addr) (c0:Nat) (l0:List ByteArray) (A1:Option Addr) (c1:Nat) (l1:List ByteArray) (r:Bool) (w:World) (hr0:Kd.C Kd.string w A0 l0.length l0) (hc0:l0.length≤c0) (hr1:Kd.C Kd.string w A1 l1.length l1) (hc1:l1.length≤c1) (h:spec_l21SameTexts.f k l0 l1=some r):
  Calls Try.prog 41 #[.slice A0 l0.length c0,.slice A1 l1.length c1] w fun e w'=>e= .returned (.bool r)∧Drawn0 w w':=by
 have q:=zM hr0
 have B:=zM hc0
 clear hr0 hc0
 have s:=zM hr1
 have D:=zM hc1
 clear hr1 hc1
 have H:(if(l0.length:Int)=(l1.length:Int)then(spec_l21SameTexts.l0 k l0 l1 0)else(some false))=some r:=h
 clear h
 by_cases b:(l0.length:Int)=(l1.length:Int)
 ·(
 rw[if_pos b]at H
 have c3b0:((l0.length:Int)==(l1.length:Int))=true:=zE b
 have c3b1:((l0.length:Int) !=(l1.length:Int))=false:=zY b
 have c3b2:(l0.length==l1.length)=true:=by first|simpa using b|(simp at b ⊢;omega)
 clear b
 have H':=zM H
 clear H
 go_enter Try.func41,Try.ntmps41
 go_wp2
 repeat(go_quiet (fail);try go_wp2)
 go_loopg [5] k (fun kq v w'=>∃(a:Int),v= .int .i64 a∧Aside0 (spec_l21SameTexts.l0 kq l0 l1 a=some r)∧Aside0 (kq≤k)∧Drawn0 w w')
 case atStart=>exact⟨(0),sr,H',⟨Nat.le_refl _⟩,by repeat(first|exact Drawn0.refl _|apply Drawn0.step)⟩
 case round=>(
 clear H'
 try clear c1
 try clear b
 try clear c3b0
 try clear c3b1
 try clear c3b2
 obtain⟨a,rfl,HA,u,⟨E,rfl⟩⟩:=hrel
 cases gk with
 |zero=>exact absurd HA.out (by simp[spec_l21SameTexts.l0])
 |succ k1=>(
 have H:=HA.out
 clear HA
 simp only[spec_l21SameTexts.l0]at H
 by_cases l:a<(l0.length:Int)
 ·(
 rw[if_pos l]at H
 have c4b0:=zT l
 clear l
 by_cases m:0≤a
 ·(
 rw[if_pos m]at H
 have c5b0:=zT m
 clear m
 by_cases n:a<(l1.length:Int)
 ·(
 rw[if_pos n]at H
 have c6b0:=zT n
 clear n
 by_cases c:(rdOf ByteArray.empty l0 a).toList=(rdOf ByteArray.empty l1 a).toList
 ·(
 rw[if_pos c]at H
 have c7b0:((rdOf ByteArray.empty l0 a).toList==(rdOf ByteArray.empty l1 a).toList)=true:=zE c
 have c7b1:((rdOf ByteArray.empty l0 a).toList !=(rdOf ByteArray.empty l1 a).toList)=false:=zY c
 clear c
 have H':=zM H
 clear H
 have d:0≤(a:Int):=zO (by first|(with_reducible assumption)|assumption)
 have g:a<(l0.length:Int):=zO (by first|(with_reducible assumption)|assumption)
 obtain⟨x,o,y⟩:=Kd.at_string q.out a d g
 cases o
 replace d:=eq_true d
 replace g:=eq_true g
 have i:0≤(a:Int):=zO (by first|(with_reducible assumption)|assumption)
 have j:a<(l1.length:Int):=zO (by first|(with_reducible assumption)|assumption)
 obtain⟨z,p,A⟩:=Kd.at_string s.out a i j
 cases p
 replace i:=eq_true i
 replace j:=eq_true j
 go_wp2
 repeat(go_quiet (fail);try go_wp2)
 go_roundg k1
 case measure=>have:=u.out;omega
 case rel=>exact⟨(wrap64 (a+1)),sr,H',⟨by have:=u.out;omega⟩,by repeat(first|exact Drawn0.refl _|apply Drawn0.step)⟩)
 rw[if_neg c]at H
 have c7b0:((rdOf ByteArray.empty l0 a).toList==(rdOf ByteArray.empty l1 a).toList)=false:=zN c
 have c7b1:((rdOf ByteArray.empty l0 a).toList !=(rdOf ByteArray.empty l1 a).toList)=true:=zX c
 obtain rfl:=zI H
 have d:0≤(a:Int):=zO (by first|(with_reducible assumption)|assumption)
 have g:a<(l0.length:Int):=zO (by first|(with_reducible assumption)|assumption)
 obtain⟨x,o,y⟩:=Kd.at_string q.out a d g
 cases o
 replace d:=eq_true d
 replace g:=eq_true g
 have i:0≤(a:Int):=zO (by first|(with_reducible assumption)|assumption)
 have j:a<(l1.length:Int):=zO (by first|(with_reducible assumption)|assumption)
 obtain⟨z,p,A⟩:=Kd.at_string s.out a i j
 cases p
 replace i:=eq_true i
 replace j:=eq_true j
 go_wp2
 repeat(go_quiet (fail);try go_wp2)
 go_ret
 exact⟨by first|rfl|(simp;done)|(simp[*];done),by repeat(first|exact Drawn0.refl _|apply Drawn0.step)⟩)
 rw[if_neg n]at H
 exact absurd H (by simp))
 rw[if_neg m]at H
 exact absurd H (by simp))
 rw[if_neg l]at H
 have c4b0:=zF l
 clear l
 obtain rfl:=zI H
 go_wp2
 repeat(go_quiet (fail);try go_wp2)
 go_ret
 exact⟨by first|rfl|(simp;done)|(simp[*];done),by repeat(first|exact Drawn0.refl _|apply Drawn0.step)⟩)))
 rw[if_neg b]at H
 have c3b0:((l0.length:Int)==(l1.length:Int))=false:=zN b
 have c3b1:((l0.length:Int) !=(l1.length:Int))=true:=zX b
 have c3b2:(l0.length==l1.length)=false:=by first|simpa using b|(simp at b ⊢;omega)
 obtain rfl:=zI H
 go_enter Try.func41,Try.ntmps41
 go_wp2
 repeat(go_quiet (fail);try go_wp2)
 go_ret
 exact⟨by first|rfl|(simp;done)|(simp[*];done),by repeat(first|exact Drawn0.refl _|apply Drawn0.step)⟩
def spec_l21SameFile.f (k:Nat) (a0_0:ByteArray) (l0_1:List ByteArray) (a0_2:Int) (a0_3:Int) (a1_0:ByteArray) (l1_1:List ByteArray) (a1_2:Int) (a1_3:Int):Option (Bool):=if a0_0.toList=a1_0.toList then((spec_l21SameTexts.f k l0_1 l1_1).bind fun t366=>(if t366=true then(if a0_2=a1_2 then(some (a0_3==a1_3))else(some false))else(some false)))else(some false)
set_option maxHeartbeats 8000000 in
set_option maxRecDepth 100000 in
theorem spec_l21SameFile.calls (k:Nat) (a0_0:ByteArray) (A0_1:Option Addr) (c0_1:Nat) (l0_1:List ByteArray) (a0_2:Int) (a0_3:Int) (a1_0:ByteArray) (A1_1:Option Addr) (c1_1:Nat) (l1_1:List ByteArray) (a1_2:Int) (a1_3:Int) (r:Bool) (w:World) (hr0_1:Kd.C Kd.string w A0_1 l0_1.length l0_1) (hc0_1:l0_1.length≤c0_1) (hr1_1:Kd.C Kd.string w A1_1 l1_1.length l1_1) (hc1_1:l1_1.length≤c1_1) (h:spec_l21SameFile.f k a0_0 l0_1 a0_2 a0_3 a1_0 l1_1 a1_2 a1_3=some r):
  Calls Try.prog 42 #[.agg #[.string a0_0,.slice A0_1 l0_1.length c0_1,.int .i64 a0_2,.int .i64 a0_3],.agg #[.string a1_0,.slice A1_1 l1_1.length c1_1,.int .i64 a1_2,.int .i64 a1_3]] w fun e w'=>e= .returned (.bool r)∧Below w.heap.size w w':=by
 have A:=Try.underlying87
 have l:=zM hr0_1
 have m:=zM hc0_1
 clear hr0_1 hc0_1
 have n:=zM hr1_1
 have o:=zM hc1_1
 clear hr1_1 hc1_1
 have HB:=zM (Below.refl w.heap.size w)
 have H:(if a0_0.toList=a1_0.toList then((spec_l21SameTexts.f k l0_1 l1_1).bind fun p=>(if p=true then(if a0_2=a1_2 then(some (a0_3==a1_3))else(some false))else(some false)))else(some false))=some r:=h
 clear h
 by_cases b:a0_0.toList=a1_0.toList
 ·(
 rw[if_pos b]at H
 have c3b0:(a0_0.toList==a1_0.toList)=true:=zE b
 have c3b1:(a0_0.toList !=a1_0.toList)=false:=zY b
 clear b
 obtain⟨p,q,H⟩:=sO H
 by_cases j:p=true
 ·(
 subst j
 rewrite[if_pos rfl]at H
 by_cases c:a0_2=a1_2
 ·(
 rw[if_pos c]at H
 have c6b0:(a0_2==a1_2)=true:=zE c
 have c6b1:(a0_2 !=a1_2)=false:=zY c
 clear c
 obtain rfl:=zI H
 go_enter Try.func42,Try.ntmps42
 go_wp2_with (first|((with_reducible refine gate_dst (N:=2) rfl ?_);refine sV (N:=2) (cs:= #[.string a0_0,.slice A0_1 l0_1.length c0_1,.int .i64 a0_2,.int .i64 a0_3]) (t:=87) ?_;intro s hg B hbox hb;have a:=zM (hbox);have u:=sG HB hg;have v:=sG HB hg;replace HB:=sB HB hb;clear hb hbox hg)|((with_reducible refine gate_dst (N:=3) rfl ?_);refine sV (N:=3) (cs:= #[.string a1_0,.slice A1_1 l1_1.length c1_1,.int .i64 a1_2,.int .i64 a1_3]) (t:=87) ?_;intro x hg D hbox hb;have d:=zM (hbox);have y:=sG HB hg;have z:=sG HB hg;replace HB:=sB HB hb;have g:=sN a hg;have i:=sM a hg;replace a:=sK a hb;clear hb hbox hg;have E:=g.out;have F:=i.out;obtain⟨G,I,J,K,L,M,O,P⟩:=cells4 a.out;obtain⟨Q,R,S,T,U,V,W,X⟩:=cells4 d.out)|(go_at_call 41;(with_reducible refine(spec_l21SameTexts.calls k _ _ l0_1 _ _ l1_1 true _ ?side1 ?side2 ?side3 ?side4 q.out).mono ?_);(case side1=>exact sD (zC l.out HB.out));(case side2=>exact m.out);(case side3=>exact sD (zC n.out HB.out));(case side4=>exact o.out);rintro e w' ⟨rfl,⟨nd,rfl⟩⟩))
 go_ret
 exact⟨sq,sb⟩)
 rw[if_neg c]at H
 have c6b0:(a0_2==a1_2)=false:=zN c
 have c6b1:(a0_2 !=a1_2)=true:=zX c
 obtain rfl:=zI H
 go_enter Try.func42,Try.ntmps42
 go_wp2_with (first|((with_reducible refine gate_dst (N:=2) rfl ?_);refine sV (N:=2) (cs:= #[.string a0_0,.slice A0_1 l0_1.length c0_1,.int .i64 a0_2,.int .i64 a0_3]) (t:=87) ?_;intro s hg Y hbox hb;have a:=zM (hbox);have u:=sG HB hg;have v:=sG HB hg;replace HB:=sB HB hb;clear hb hbox hg)|((with_reducible refine gate_dst (N:=3) rfl ?_);refine sV (N:=3) (cs:= #[.string a1_0,.slice A1_1 l1_1.length c1_1,.int .i64 a1_2,.int .i64 a1_3]) (t:=87) ?_;intro x hg Z hbox hb;have d:=zM (hbox);have y:=sG HB hg;have z:=sG HB hg;replace HB:=sB HB hb;have g:=sN a hg;have i:=sM a hg;replace a:=sK a hb;clear hb hbox hg;have aa:=g.out;have ab:=i.out;obtain⟨ac,ad,ae,af,ag,ah,ai,aj⟩:=cells4 a.out;obtain⟨ak,al,am,an,ao,ap,aq,ar⟩:=cells4 d.out)|(go_at_call 41;(with_reducible refine(spec_l21SameTexts.calls k _ _ l0_1 _ _ l1_1 true _ ?side1 ?side2 ?side3 ?side4 q.out).mono ?_);(case side1=>exact sD (zC l.out HB.out));(case side2=>exact m.out);(case side3=>exact sD (zC n.out HB.out));(case side4=>exact o.out);rintro e w' ⟨rfl,⟨nd,rfl⟩⟩))
 go_ret
 exact⟨sq,sb⟩)
 replace j:=zB j
 subst j
 rewrite[if_neg zQ]at H
 obtain rfl:=zI H
 go_enter Try.func42,Try.ntmps42
 go_wp2_with (first|((with_reducible refine gate_dst (N:=2) rfl ?_);refine sV (N:=2) (cs:= #[.string a0_0,.slice A0_1 l0_1.length c0_1,.int .i64 a0_2,.int .i64 a0_3]) (t:=87) ?_;intro s hg au hbox hb;have a:=zM (hbox);have u:=sG HB hg;have v:=sG HB hg;replace HB:=sB HB hb;clear hb hbox hg)|((with_reducible refine gate_dst (N:=3) rfl ?_);refine sV (N:=3) (cs:= #[.string a1_0,.slice A1_1 l1_1.length c1_1,.int .i64 a1_2,.int .i64 a1_3]) (t:=87) ?_;intro x hg av hbox hb;have d:=zM (hbox);have y:=sG HB hg;have z:=sG HB hg;replace HB:=sB HB hb;have g:=sN a hg;have i:=sM a hg;replace a:=sK a hb;clear hb hbox hg;have aw:=g.out;have ax:=i.out;obtain⟨ay,az,aA,aB,aC,aD,aE,aF⟩:=cells4 a.out;obtain⟨aG,aH,aI,aJ,aK,aL,aM,aN⟩:=cells4 d.out)|(go_at_call 41;(with_reducible refine(spec_l21SameTexts.calls k _ _ l0_1 _ _ l1_1 false _ ?side1 ?side2 ?side3 ?side4 q.out).mono ?_);(case side1=>exact sD (zC l.out HB.out));(case side2=>exact m.out);(case side3=>exact sD (zC n.out HB.out));(case side4=>exact o.out);rintro e w' ⟨rfl,⟨nd,rfl⟩⟩))
 go_ret
 exact⟨sq,sb⟩)
 rw[if_neg b]at H
 have c3b0:(a0_0.toList==a1_0.toList)=false:=zN b
 have c3b1:(a0_0.toList !=a1_0.toList)=true:=zX b
 obtain rfl:=zI H
 go_enter Try.func42,Try.ntmps42
 go_wp2_with (first|((with_reducible refine gate_dst (N:=2) rfl ?_);refine sV (N:=2) (cs:= #[.string a0_0,.slice A0_1 l0_1.length c0_1,.int .i64 a0_2,.int .i64 a0_3]) (t:=87) ?_;intro s hg aO hbox hb;have a:=zM (hbox);have u:=sG HB hg;have v:=sG HB hg;replace HB:=sB HB hb;clear hb hbox hg)|((with_reducible refine gate_dst (N:=3) rfl ?_);refine sV (N:=3) (cs:= #[.string a1_0,.slice A1_1 l1_1.length c1_1,.int .i64 a1_2,.int .i64 a1_3]) (t:=87) ?_;intro x hg aP hbox hb;have d:=zM (hbox);have y:=sG HB hg;have z:=sG HB hg;replace HB:=sB HB hb;have g:=sN a hg;have i:=sM a hg;replace a:=sK a hb;clear hb hbox hg;have aQ:=g.out;have aR:=i.out;obtain⟨aS,aT,aU,aV,aW,aX,aY,aZ⟩:=cells4 a.out;obtain⟨a0,a1,a2,a3,a4,a5,a6,a7⟩:=cells4 d.out))
 go_ret
 exact⟨sq,sb⟩
end Go.Proofs.Ytnneadpahjkhgaa.PFnExactSameMemory
