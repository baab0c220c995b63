/- Printed functions: spec_l07SameValues, spec_l07SameObject. -/
import Derived.Test.YtpdljgieaaicpaaYLsP0
import Derived.Test.YtpdljgieaaicpaaYLsPE
namespace Go.Proofs.Ytpdljgieaaicpaa.PFnExactLiveSize
open Go.RowKit Go.Proofs.YtpdljgieaaicpaaG Go.Proofs.YtpdljgieaaicpaaW.PrintWords Go.Proofs.YtpdljgieaaicpaaW.PrintLast Go.Proofs.YtpdljgieaaicpaaW.PrintMore
attribute [local go_sem] max2_int min2_int max_two min_two max_three min_three max_four min_four
set_option linter.unusedVariables false
set_option linter.unusedSimpArgs false
section
attribute [local go_sem high] eqA62
def spec_l07SameValues.l0 : Nat → List (S62) → List (S62) → Int → Option (Bool)
 |0,_,_,_=>none
 |k+1,x0,x1,x5=>if x5<(x0.length:Int)then(if 0≤x5 then(if x5<(x1.length:Int)then(if(!(((rd_T62 x0 x5).f0)==((rd_T62 x1 x5).f0))||(!(((rd_T62 x0 x5).f1)==((rd_T62 x1 x5).f1))||(!((((rd_T62 x0 x5).f2).toList)==(((rd_T62 x1 x5).f2).toList))||(!(((rd_T62 x0 x5).f3)==((rd_T62 x1 x5).f3))))))=true then(some false)else(spec_l07SameValues.l0 k x0 x1 (wrap64 (x5+1))))else(none))else(none))else(some true)
def spec_l07SameValues.f (k:Nat) (l0:List (S62)) (l1:List (S62)):Option (Bool):=if(l0.length:Int)=(l1.length:Int)then(spec_l07SameValues.l0 k l0 l1 0)else(some false)
set_option maxHeartbeats 8000000 in
set_option maxRecDepth 100000 in
theorem spec_l07SameValues.calls (k:Nat) (A0:Option Addr) (c0:Nat) (l0:List (S62)) (A1:Option Addr) (c1:Nat) (l1:List (S62)) (r:Bool) (w:World) (hr0:Kd.C k62 w A0 l0.length l0) (hc0:l0.length≤c0) (hr1:Kd.C k62 w A1 l1.length l1) (hc1:l1.length≤c1) (h:spec_l07SameValues.f k l0 l1=some r):
  Calls Try.prog 62 #[.slice A0 l0.length c0,.slice A1 l1.length c1] w fun e w'=>e= .returned (.bool r)∧Drawn0 w w':=by
 have J:=Try.underlying62
 have q:=zM hr0
 have K:=zM hc0
 clear hr0 hc0
 have s:=zM hr1
 have L:=zM hc1
 clear hr1 hc1
 have H:(if(l0.length:Int)=(l1.length:Int)then(spec_l07SameValues.l0 k l0 l1 0)else(some false))=some r:=h
 clear h
 by_cases b:(l0.length:Int)=(l1.length:Int)
 ·(
 rw[if_pos b]at H
 have c3b0:((l0.length:Int)==(l1.length:Int))=true:=zE b
 have c3b1:((l0.length:Int) !=(l1.length:Int))=false:=zY b
 have c3b2:(l0.length==l1.length)=true:=by first|simpa using b|(simp at b ⊢;omega)
 clear b
 have H':=zM H
 clear H
 go_enter Try.func62,Try.ntmps62
 go_wp2
 repeat(go_quiet (fail);try go_wp2)
 go_loopg [5] k (fun kq v w'=>∃(a:Int),v= .int .i64 a∧Aside0 (spec_l07SameValues.l0 kq l0 l1 a=some r)∧Aside0 (kq≤k)∧Drawn0 w w')
 case atStart=>exact⟨(0),sr,H',⟨Nat.le_refl _⟩,by repeat(first|exact Drawn0.refl _|apply Drawn0.step)⟩
 case round=>(
 clear H'
 try clear c1
 try clear b
 try clear c3b0
 try clear c3b1
 try clear c3b2
 obtain⟨a,rfl,HA,u,⟨M,rfl⟩⟩:=hrel
 cases gk with
 |zero=>exact absurd HA.out (by simp[spec_l07SameValues.l0])
 |succ k1=>(
 have H:=HA.out
 clear HA
 simp only[spec_l07SameValues.l0]at H
 by_cases j:a<(l0.length:Int)
 ·(
 rw[if_pos j]at H
 have c4b0:=zT j
 clear j
 by_cases m:0≤a
 ·(
 rw[if_pos m]at H
 have c5b0:=zT m
 clear m
 by_cases n:a<(l1.length:Int)
 ·(
 rw[if_pos n]at H
 have c6b0:=zT n
 clear n
 by_cases l:(!(((rd_T62 l0 a).f0)==((rd_T62 l1 a).f0))||(!(((rd_T62 l0 a).f1)==((rd_T62 l1 a).f1))||(!((((rd_T62 l0 a).f2).toList)==(((rd_T62 l1 a).f2).toList))||(!(((rd_T62 l0 a).f3)==((rd_T62 l1 a).f3))))))=true
 ·(
 rw[if_pos l]at H
 have c7b0:(!(((rd_T62 l0 a).f0)==((rd_T62 l1 a).f0))||(!(((rd_T62 l0 a).f1)==((rd_T62 l1 a).f1))||(!((((rd_T62 l0 a).f2).toList)==(((rd_T62 l1 a).f2).toList))||(!(((rd_T62 l0 a).f3)==((rd_T62 l1 a).f3))))))=true:=l
 clear l
 obtain rfl:=zI H
 have c:0≤(a:Int):=zzA
 have d:a<(l0.length:Int):=zzA
 obtain⟨x,o,y,z,A,B⟩:=at_T62 q.out a c d
 cases o
 replace c:=eq_true c
 replace d:=eq_true d
 have g:0≤(a:Int):=zzA
 have i:a<(l1.length:Int):=zzA
 obtain⟨D,p,E,F,G,I⟩:=at_T62 s.out a g i
 cases p
 replace g:=eq_true g
 replace i:=eq_true i
 go_wp2
 repeat(go_quiet (fail);try go_wp2)
 go_ret
 exact⟨by first|rfl|(simp;done)|(simp[*];done),by repeat(first|exact Drawn0.refl _|apply Drawn0.step)⟩)
 rw[if_neg l]at H
 have c7b0:(!(((rd_T62 l0 a).f0)==((rd_T62 l1 a).f0))||(!(((rd_T62 l0 a).f1)==((rd_T62 l1 a).f1))||(!((((rd_T62 l0 a).f2).toList)==(((rd_T62 l1 a).f2).toList))||(!(((rd_T62 l0 a).f3)==((rd_T62 l1 a).f3))))))=false:=by simpa using l
 clear l
 have H':=zM H
 clear H
 have c:0≤(a:Int):=zzA
 have d:a<(l0.length:Int):=zzA
 obtain⟨x,o,y,z,A,B⟩:=at_T62 q.out a c d
 cases o
 replace c:=eq_true c
 replace d:=eq_true d
 have g:0≤(a:Int):=zzA
 have i:a<(l1.length:Int):=zzA
 obtain⟨D,p,E,F,G,I⟩:=at_T62 s.out a g i
 cases p
 replace g:=eq_true g
 replace i:=eq_true i
 go_wp2
 repeat(go_quiet (fail);try go_wp2)
 go_roundg k1
 case measure=>have:=u.out;omega
 case rel=>exact⟨(wrap64 (a+1)),sr,H',⟨by have:=u.out;omega⟩,by repeat(first|exact Drawn0.refl _|apply Drawn0.step)⟩)
 rw[if_neg n]at H
 exact absurd H (by simp))
 rw[if_neg m]at H
 exact absurd H (by simp))
 rw[if_neg j]at H
 have c4b0:=zF j
 clear j
 obtain rfl:=zI H
 go_wp2
 repeat(go_quiet (fail);try go_wp2)
 go_ret
 exact⟨by first|rfl|(simp;done)|(simp[*];done),by repeat(first|exact Drawn0.refl _|apply Drawn0.step)⟩)))
 rw[if_neg b]at H
 have c3b0:((l0.length:Int)==(l1.length:Int))=false:=zN b
 have c3b1:((l0.length:Int) !=(l1.length:Int))=true:=zX b
 have c3b2:(l0.length==l1.length)=false:=by first|simpa using b|(simp at b ⊢;omega)
 obtain rfl:=zI H
 go_enter Try.func62,Try.ntmps62
 go_wp2
 repeat(go_quiet (fail);try go_wp2)
 go_ret
 exact⟨by first|rfl|(simp;done)|(simp[*];done),by repeat(first|exact Drawn0.refl _|apply Drawn0.step)⟩
end
section
attribute [local go_sem high] eqA62
def spec_l07SameObject.f (k:Nat) (a0_0:Int) (a0_1:Int) (a0_2:ByteArray) (a0_3:Int) (l0_4:List (S62)) (l0_5:List (S62)) (a0_6:Int) (a0_7:Int) (a0_8:ByteArray) (a0_9:Int) (a1_0:Int) (a1_1:Int) (a1_2:ByteArray) (a1_3:Int) (l1_4:List (S62)) (l1_5:List (S62)) (a1_6:Int) (a1_7:Int) (a1_8:ByteArray) (a1_9:Int):Option (Bool):=if a0_0=a1_0 then(if a0_1=a1_1 then(if a0_2.toList=a1_2.toList then(if a0_3=a1_3 then((spec_l07SameValues.f k l0_4 l1_4).bind fun t551=>(if t551=true then((spec_l07SameValues.f k l0_5 l1_5).bind fun t552=>(if t552=true then(some (a0_6==a1_6&&(a0_7==a1_7&&(a0_8.toList==a1_8.toList&&(a0_9==a1_9)))))else(some false)))else(some false)))else(some false))else(some false))else(some false))else(some false)
set_option maxHeartbeats 8000000 in
set_option maxRecDepth 100000 in
theorem spec_l07SameObject.calls (k:Nat) (a0_0:Int) (a0_1:Int) (a0_2:ByteArray) (a0_3:Int) (A0_4:Option Addr) (c0_4:Nat) (l0_4:List (S62)) (A0_5:Option Addr) (c0_5:Nat) (l0_5:List (S62)) (a0_6:Int) (a0_7:Int) (a0_8:ByteArray) (a0_9:Int) (a1_0:Int) (a1_1:Int) (a1_2:ByteArray) (a1_3:Int) (A1_4:Option Addr) (c1_4:Nat) (l1_4:List (S62)) (A1_5:Option Addr) (c1_5:Nat) (l1_5:List (S62)) (a1_6:Int) (a1_7:Int) (a1_8:ByteArray) (a1_9:Int) (r:Bool) (w:World) (hr0_4:Kd.C k62 w A0_4 l0_4.length l0_4) (hc0_4:l0_4.length≤c0_4) (hr0_5:Kd.C k62 w A0_5 l0_5.length l0_5) (hc0_5:l0_5.length≤c0_5) (hr1_4:Kd.C k62 w A1_4 l1_4.length l1_4) (hc1_4:l1_4.length≤c1_4) (hr1_5:Kd.C k62 w A1_5 l1_5.length l1_5) (hc1_5:l1_5.length≤c1_5) (h:spec_l07SameObject.f k a0_0 a0_1 a0_2 a0_3 l0_4 l0_5 a0_6 a0_7 a0_8 a0_9 a1_0 a1_1 a1_2 a1_3 l1_4 l1_5 a1_6 a1_7 a1_8 a1_9=some r):
  Calls Try.prog 91 #[.agg #[.int .i64 a0_0,.int .i64 a0_1,.string a0_2,.int .i64 a0_3,.slice A0_4 l0_4.length c0_4,.slice A0_5 l0_5.length c0_5,.int .i64 a0_6,.int .i64 a0_7,.string a0_8,.int .i64 a0_9],.agg #[.int .i64 a1_0,.int .i64 a1_1,.string a1_2,.int .i64 a1_3,.slice A1_4 l1_4.length c1_4,.slice A1_5 l1_5.length c1_5,.int .i64 a1_6,.int .i64 a1_7,.string a1_8,.int .i64 a1_9]] w fun e w'=>e= .returned (.bool r)∧Below w.heap.size w w':=by
 have L:=Try.underlying64
 have M:=Try.underlying62
 have x:=zM hr0_4
 have y:=zM hc0_4
 clear hr0_4 hc0_4
 have F:=zM hr0_5
 have G:=zM hc0_5
 clear hr0_5 hc0_5
 have z:=zM hr1_4
 have A:=zM hc1_4
 clear hr1_4 hc1_4
 have I:=zM hr1_5
 have J:=zM hc1_5
 clear hr1_5 hc1_5
 have HB:=zM (Below.refl w.heap.size w)
 have H:(if a0_0=a1_0 then(if a0_1=a1_1 then(if a0_2.toList=a1_2.toList then(if a0_3=a1_3 then((spec_l07SameValues.f k l0_4 l1_4).bind fun B=>(if B=true then((spec_l07SameValues.f k l0_5 l1_5).bind fun D=>(if D=true then(some (a0_6==a1_6&&(a0_7==a1_7&&(a0_8.toList==a1_8.toList&&(a0_9==a1_9)))))else(some false)))else(some false)))else(some false))else(some false))else(some false))else(some false))=some r:=h
 clear h
 by_cases j:a0_0=a1_0
 ·(
 rw[if_pos j]at H
 have c3b0:(a0_0==a1_0)=true:=zE j
 have c3b1:(a0_0 !=a1_0)=false:=zY j
 clear j
 by_cases l:a0_1=a1_1
 ·(
 rw[if_pos l]at H
 have c4b0:(a0_1==a1_1)=true:=zE l
 have c4b1:(a0_1 !=a1_1)=false:=zY l
 clear l
 by_cases m:a0_2.toList=a1_2.toList
 ·(
 rw[if_pos m]at H
 have c5b0:(a0_2.toList==a1_2.toList)=true:=zE m
 have c5b1:(a0_2.toList !=a1_2.toList)=false:=zY m
 clear m
 by_cases n:a0_3=a1_3
 ·(
 rw[if_pos n]at H
 have c6b0:(a0_3==a1_3)=true:=zE n
 have c6b1:(a0_3 !=a1_3)=false:=zY n
 clear n
 obtain⟨B,E,H⟩:=sO H
 by_cases u:B=true
 ·(
 subst u
 rewrite[if_pos rfl]at H
 obtain⟨D,K,H⟩:=sO H
 by_cases v:D=true
 ·(
 subst v
 rewrite[if_pos rfl]at H
 obtain rfl:=zI H
 go_enter Try.func91,Try.ntmps91
 go_wp2_with (first|((with_reducible refine gate_dst (N:=2) rfl ?_);refine sV (N:=2) (cs:= #[.int .i64 a0_0,.int .i64 a0_1,.string a0_2,.int .i64 a0_3,.slice A0_4 l0_4.length c0_4,.slice A0_5 l0_5.length c0_5,.int .i64 a0_6,.int .i64 a0_7,.string a0_8,.int .i64 a0_9]) (t:=64) ?_;intro o hg O hbox hb;have a:=zM (hbox);have p:=sG HB hg;have g:=sG HB hg;replace HB:=sB HB hb;clear hb hbox hg)|((with_reducible refine gate_dst (N:=3) rfl ?_);refine sV (N:=3) (cs:= #[.int .i64 a1_0,.int .i64 a1_1,.string a1_2,.int .i64 a1_3,.slice A1_4 l1_4.length c1_4,.slice A1_5 l1_5.length c1_5,.int .i64 a1_6,.int .i64 a1_7,.string a1_8,.int .i64 a1_9]) (t:=64) ?_;intro q hg P hbox hb;have b:=zM (hbox);have s:=sG HB hg;have i:=sG HB hg;replace HB:=sB HB hb;have c:=sN a hg;have d:=sM a hg;replace a:=sK a hb;clear hb hbox hg;have Q:=c.out;have R:=d.out;obtain⟨S,T,U,V,W,X,Y,Z,aa,ab,ac,ad,ae,af,ag,ah,ai,aj,ak,al⟩:=cells10 a.out;obtain⟨am,an,ao,ap,aq,ar,au,av,aw,ax,ay,az,aA,aB,aC,aD,aE,aF,aG,aH⟩:=cells10 b.out)|(go_at_call 62;(with_reducible refine(spec_l07SameValues.calls k _ _ l0_4 _ _ l1_4 true _ ?side1 ?side2 ?side3 ?side4 E.out).mono ?_);(case side1=>exact sD (zC x.out HB.out));(case side2=>exact y.out);(case side3=>exact sD (zC z.out HB.out));(case side4=>exact A.out);rintro e w' ⟨rfl,⟨nd,rfl⟩⟩)|(go_at_call 62;(with_reducible refine(spec_l07SameValues.calls k _ _ l0_5 _ _ l1_5 true _ ?side1 ?side2 ?side3 ?side4 K.out).mono ?_);(case side1=>exact sD (zC F.out zzR));(case side2=>exact G.out);(case side3=>exact sD (zC I.out zzR));(case side4=>exact J.out);rintro e w' ⟨rfl,⟨nd,rfl⟩⟩))
 go_ret
 exact⟨sq,sb⟩)
 replace v:=zB v
 subst v
 rewrite[if_neg zQ]at H
 obtain rfl:=zI H
 go_enter Try.func91,Try.ntmps91
 go_wp2_with (first|((with_reducible refine gate_dst (N:=2) rfl ?_);refine sV (N:=2) (cs:= #[.int .i64 a0_0,.int .i64 a0_1,.string a0_2,.int .i64 a0_3,.slice A0_4 l0_4.length c0_4,.slice A0_5 l0_5.length c0_5,.int .i64 a0_6,.int .i64 a0_7,.string a0_8,.int .i64 a0_9]) (t:=64) ?_;intro o hg aI hbox hb;have a:=zM (hbox);have p:=sG HB hg;have g:=sG HB hg;replace HB:=sB HB hb;clear hb hbox hg)|((with_reducible refine gate_dst (N:=3) rfl ?_);refine sV (N:=3) (cs:= #[.int .i64 a1_0,.int .i64 a1_1,.string a1_2,.int .i64 a1_3,.slice A1_4 l1_4.length c1_4,.slice A1_5 l1_5.length c1_5,.int .i64 a1_6,.int .i64 a1_7,.string a1_8,.int .i64 a1_9]) (t:=64) ?_;intro q hg aJ hbox hb;have b:=zM (hbox);have s:=sG HB hg;have i:=sG HB hg;replace HB:=sB HB hb;have c:=sN a hg;have d:=sM a hg;replace a:=sK a hb;clear hb hbox hg;have aK:=c.out;have aL:=d.out;obtain⟨aM,aN,aO,aP,aQ,aR,aS,aT,aU,aV,aW,aX,aY,aZ,a0,a1,a2,a3,a4,a5⟩:=cells10 a.out;obtain⟨a6,a7,a8,a9,ba,bb,bc,bd,be,bf,bg,bh,bi,bj,bk,bl,bm,bn,bo,bp⟩:=cells10 b.out)|(go_at_call 62;(with_reducible refine(spec_l07SameValues.calls k _ _ l0_4 _ _ l1_4 true _ ?side1 ?side2 ?side3 ?side4 E.out).mono ?_);(case side1=>exact sD (zC x.out HB.out));(case side2=>exact y.out);(case side3=>exact sD (zC z.out HB.out));(case side4=>exact A.out);rintro e w' ⟨rfl,⟨nd,rfl⟩⟩)|(go_at_call 62;(with_reducible refine(spec_l07SameValues.calls k _ _ l0_5 _ _ l1_5 false _ ?side1 ?side2 ?side3 ?side4 K.out).mono ?_);(case side1=>exact sD (zC F.out zzR));(case side2=>exact G.out);(case side3=>exact sD (zC I.out zzR));(case side4=>exact J.out);rintro e w' ⟨rfl,⟨nd,rfl⟩⟩))
 go_ret
 exact⟨sq,sb⟩)
 replace u:=zB u
 subst u
 rewrite[if_neg zQ]at H
 obtain rfl:=zI H
 go_enter Try.func91,Try.ntmps91
 go_wp2_with (first|((with_reducible refine gate_dst (N:=2) rfl ?_);refine sV (N:=2) (cs:= #[.int .i64 a0_0,.int .i64 a0_1,.string a0_2,.int .i64 a0_3,.slice A0_4 l0_4.length c0_4,.slice A0_5 l0_5.length c0_5,.int .i64 a0_6,.int .i64 a0_7,.string a0_8,.int .i64 a0_9]) (t:=64) ?_;intro o hg bq hbox hb;have a:=zM (hbox);have p:=sG HB hg;have g:=sG HB hg;replace HB:=sB HB hb;clear hb hbox hg)|((with_reducible refine gate_dst (N:=3) rfl ?_);refine sV (N:=3) (cs:= #[.int .i64 a1_0,.int .i64 a1_1,.string a1_2,.int .i64 a1_3,.slice A1_4 l1_4.length c1_4,.slice A1_5 l1_5.length c1_5,.int .i64 a1_6,.int .i64 a1_7,.string a1_8,.int .i64 a1_9]) (t:=64) ?_;intro q hg br hbox hb;have b:=zM (hbox);have s:=sG HB hg;have i:=sG HB hg;replace HB:=sB HB hb;have c:=sN a hg;have d:=sM a hg;replace a:=sK a hb;clear hb hbox hg;have bs:=c.out;have bt:=d.out;obtain⟨bu,bv,bw,bx,bz,bA,bB,bC,bD,bE,bF,bG,bH,bI,bJ,bK,bL,bM,bN,bO⟩:=cells10 a.out;obtain⟨bP,bQ,bR,bS,bT,bU,bV,bW,bX,bY,bZ,b0,b1,b2,b3,b4,b5,b6,b7,b8⟩:=cells10 b.out)|(go_at_call 62;(with_reducible refine(spec_l07SameValues.calls k _ _ l0_4 _ _ l1_4 false _ ?side1 ?side2 ?side3 ?side4 E.out).mono ?_);(case side1=>exact sD (zC x.out HB.out));(case side2=>exact y.out);(case side3=>exact sD (zC z.out HB.out));(case side4=>exact A.out);rintro e w' ⟨rfl,⟨nd,rfl⟩⟩))
 go_ret
 exact⟨sq,sb⟩)
 rw[if_neg n]at H
 have c6b0:(a0_3==a1_3)=false:=zN n
 have c6b1:(a0_3 !=a1_3)=true:=zX n
 obtain rfl:=zI H
 go_enter Try.func91,Try.ntmps91
 go_wp2_with (first|((with_reducible refine gate_dst (N:=2) rfl ?_);refine sV (N:=2) (cs:= #[.int .i64 a0_0,.int .i64 a0_1,.string a0_2,.int .i64 a0_3,.slice A0_4 l0_4.length c0_4,.slice A0_5 l0_5.length c0_5,.int .i64 a0_6,.int .i64 a0_7,.string a0_8,.int .i64 a0_9]) (t:=64) ?_;intro o hg b9 hbox hb;have a:=zM (hbox);have p:=sG HB hg;have g:=sG HB hg;replace HB:=sB HB hb;clear hb hbox hg)|((with_reducible refine gate_dst (N:=3) rfl ?_);refine sV (N:=3) (cs:= #[.int .i64 a1_0,.int .i64 a1_1,.string a1_2,.int .i64 a1_3,.slice A1_4 l1_4.length c1_4,.slice A1_5 l1_5.length c1_5,.int .i64 a1_6,.int .i64 a1_7,.string a1_8,.int .i64 a1_9]) (t:=64) ?_;intro q hg ca hbox hb;have b:=zM (hbox);have s:=sG HB hg;have i:=sG HB hg;replace HB:=sB HB hb;have c:=sN a hg;have d:=sM a hg;replace a:=sK a hb;clear hb hbox hg;have cb:=c.out;have cc:=d.out;obtain⟨cd,ce,cf,cg,ch,ci,cj,ck,cl,cm,cn,co,cp,cq,cr,ct,cu,cv,cw,cx⟩:=cells10 a.out;obtain⟨cy,cz,cA,cB,cC,cD,cE,cF,cG,cH,cI,cJ,cK,cL,cM,cN,cO,cP,cQ,cR⟩:=cells10 b.out))
 go_ret
 exact⟨sq,sb⟩)
 rw[if_neg m]at H
 have c5b0:(a0_2.toList==a1_2.toList)=false:=zN m
 have c5b1:(a0_2.toList !=a1_2.toList)=true:=zX m
 obtain rfl:=zI H
 go_enter Try.func91,Try.ntmps91
 go_wp2_with (first|((with_reducible refine gate_dst (N:=2) rfl ?_);refine sV (N:=2) (cs:= #[.int .i64 a0_0,.int .i64 a0_1,.string a0_2,.int .i64 a0_3,.slice A0_4 l0_4.length c0_4,.slice A0_5 l0_5.length c0_5,.int .i64 a0_6,.int .i64 a0_7,.string a0_8,.int .i64 a0_9]) (t:=64) ?_;intro o hg cS hbox hb;have a:=zM (hbox);have p:=sG HB hg;have g:=sG HB hg;replace HB:=sB HB hb;clear hb hbox hg)|((with_reducible refine gate_dst (N:=3) rfl ?_);refine sV (N:=3) (cs:= #[.int .i64 a1_0,.int .i64 a1_1,.string a1_2,.int .i64 a1_3,.slice A1_4 l1_4.length c1_4,.slice A1_5 l1_5.length c1_5,.int .i64 a1_6,.int .i64 a1_7,.string a1_8,.int .i64 a1_9]) (t:=64) ?_;intro q hg cT hbox hb;have b:=zM (hbox);have s:=sG HB hg;have i:=sG HB hg;replace HB:=sB HB hb;have c:=sN a hg;have d:=sM a hg;replace a:=sK a hb;clear hb hbox hg;have cU:=c.out;have cV:=d.out;obtain⟨cW,cX,cY,cZ,c2,c9,da,db,dc,dd,de,df,dg,dh,di,dj,dk,dl,dm,dn⟩:=cells10 a.out;obtain⟨dp,dq,dr,ds,dt,du,dv,dw,dx,dy,dz,dA,dB,dC,dD,dE,dF,dG,dH,dI⟩:=cells10 b.out))
 go_ret
 exact⟨sq,sb⟩)
 rw[if_neg l]at H
 have c4b0:(a0_1==a1_1)=false:=zN l
 have c4b1:(a0_1 !=a1_1)=true:=zX l
 obtain rfl:=zI H
 go_enter Try.func91,Try.ntmps91
 go_wp2_with (first|((with_reducible refine gate_dst (N:=2) rfl ?_);refine sV (N:=2) (cs:= #[.int .i64 a0_0,.int .i64 a0_1,.string a0_2,.int .i64 a0_3,.slice A0_4 l0_4.length c0_4,.slice A0_5 l0_5.length c0_5,.int .i64 a0_6,.int .i64 a0_7,.string a0_8,.int .i64 a0_9]) (t:=64) ?_;intro o hg dJ hbox hb;have a:=zM (hbox);have p:=sG HB hg;have g:=sG HB hg;replace HB:=sB HB hb;clear hb hbox hg)|((with_reducible refine gate_dst (N:=3) rfl ?_);refine sV (N:=3) (cs:= #[.int .i64 a1_0,.int .i64 a1_1,.string a1_2,.int .i64 a1_3,.slice A1_4 l1_4.length c1_4,.slice A1_5 l1_5.length c1_5,.int .i64 a1_6,.int .i64 a1_7,.string a1_8,.int .i64 a1_9]) (t:=64) ?_;intro q hg dK hbox hb;have b:=zM (hbox);have s:=sG HB hg;have i:=sG HB hg;replace HB:=sB HB hb;have c:=sN a hg;have d:=sM a hg;replace a:=sK a hb;clear hb hbox hg;have dL:=c.out;have dM:=d.out;obtain⟨dN,dO,dP,dQ,dR,dS,dT,dU,dV,dW,dX,dY,dZ,d0,d1,d2,d3,d4,d5,d6⟩:=cells10 a.out;obtain⟨d7,d8,d9,ea,eb,ec,ed,ee,ef,eg,eh,ei,ej,ek,el,em,en,eo,ep,er⟩:=cells10 b.out))
 go_ret
 exact⟨sq,sb⟩)
 rw[if_neg j]at H
 have c3b0:(a0_0==a1_0)=false:=zN j
 have c3b1:(a0_0 !=a1_0)=true:=zX j
 obtain rfl:=zI H
 go_enter Try.func91,Try.ntmps91
 go_wp2_with (first|((with_reducible refine gate_dst (N:=2) rfl ?_);refine sV (N:=2) (cs:= #[.int .i64 a0_0,.int .i64 a0_1,.string a0_2,.int .i64 a0_3,.slice A0_4 l0_4.length c0_4,.slice A0_5 l0_5.length c0_5,.int .i64 a0_6,.int .i64 a0_7,.string a0_8,.int .i64 a0_9]) (t:=64) ?_;intro o hg es hbox hb;have a:=zM (hbox);have p:=sG HB hg;have g:=sG HB hg;replace HB:=sB HB hb;clear hb hbox hg)|((with_reducible refine gate_dst (N:=3) rfl ?_);refine sV (N:=3) (cs:= #[.int .i64 a1_0,.int .i64 a1_1,.string a1_2,.int .i64 a1_3,.slice A1_4 l1_4.length c1_4,.slice A1_5 l1_5.length c1_5,.int .i64 a1_6,.int .i64 a1_7,.string a1_8,.int .i64 a1_9]) (t:=64) ?_;intro q hg et hbox hb;have b:=zM (hbox);have s:=sG HB hg;have i:=sG HB hg;replace HB:=sB HB hb;have c:=sN a hg;have d:=sM a hg;replace a:=sK a hb;clear hb hbox hg;have eu:=c.out;have ev:=d.out;obtain⟨ew,ex,ey,ez,eA,eB,eC,eD,eE,eF,eG,eH,eI,eJ,eK,eL,eM,eN,eO,eP⟩:=cells10 a.out;obtain⟨eQ,eR,eS,eT,eU,eV,eW,eX,eY,eZ,e0,e1,e2,e3,e4,e5,e6,e7,e8,e9⟩:=cells10 b.out))
 go_ret
 exact⟨sq,sb⟩
end
end Go.Proofs.Ytpdljgieaaicpaa.PFnExactLiveSize
