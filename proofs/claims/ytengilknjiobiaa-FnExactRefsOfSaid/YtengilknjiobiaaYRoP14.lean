/- Printed functions: impl_ValidObject. -/
import Derived.Test.YtengilknjiobiaaYRoP0
import Derived.Test.YtengilknjiobiaaYRoPE
import Derived.Test.YtengilknjiobiaaYRoP10
import Derived.Test.YtengilknjiobiaaYRoP11
import Derived.Test.YtengilknjiobiaaYRoP12
import Derived.Test.YtengilknjiobiaaYRoP13
namespace Go.Proofs.Ytengilknjiobiaa.PFnExactRefsOf
open Go.RowKit Go.Proofs.YtengilknjiobiaaG Go.Proofs.YtengilknjiobiaaW.PrintWords Go.Proofs.YtengilknjiobiaaW.PrintLast Go.Proofs.YtengilknjiobiaaW.PrintMore
attribute [local go_sem] max2_int min2_int max_two min_two max_three min_three max_four min_four
set_option linter.unusedVariables false
set_option linter.unusedSimpArgs false
section
attribute [local go_sem high] eqA29
def impl_ValidObject.j0 : Nat → Bool → Int → Int → ByteArray → Int → List (S29) → List (S29) → Int → Int → ByteArray → Int → Option (Bool)
 |0,_,_,_,_,_,_,_,_,_,_,_=>none
 |k+1,x21,x263000,x263001,x263002,x263003,x263004,x263005,x263006,x263007,x263008,x263009=>if x21=true then(some false)else(if x263001=1 then((impl_within.f x263003 (-1000) 1000).bind fun t265=>(if t265=true then(if(x263004.length:Int)=0 then(if(x263006==0&&(x263007==0&&(x263008.toList.isEmpty&&(x263009==0))))=true then(some (x263002.toList.isEmpty))else(some false))else(some false))else(some false)))else(if x263001=2 then(if(x263004.length:Int)=(x263005.length:Int)then((impl_Value__impl_ValidValue.f k x263004).bind fun t266=>(if t266=true then((impl_areDifferent.f k x263004).bind fun t267=>(if x263003=0 then(if t267=true then((impl_ValidValue.f k x263006 x263007 x263008 x263009).bind fun t268=>(if t268=true then(some (x263002.toList.isEmpty))else(some false)))else(some false))else(some false)))else(if x263003=0 then(some false)else(some false))))else(if x263003=0 then(some false)else(some false)))else(if x263001=3 then(if(x263004.length:Int)≥1 then(if(x263004.length:Int)≤6 then(if(x263004.length:Int)=(x263005.length:Int)then((impl_Value__impl_isField.f k x263004).bind fun t269=>(if t269=true then((impl_areDifferent.f k x263004).bind fun t270=>(if x263003=0 then(if t270=true then(if(x263006==0&&(x263007==0&&(x263008.toList.isEmpty&&(x263009==0))))=true then((impl_IsName.f k x263002).bind fun t271=>(some t271))else(some false))else(some false))else(some false)))else(if x263003=0 then(some false)else(some false))))else(if x263003=0 then(some false)else(some false)))else(if x263003=0 then(some false)else(some false)))else(if x263003=0 then(some false)else(some false)))else(some false))))
def impl_ValidObject.f (k:Nat) (a0_0:Int) (a0_1:Int) (a0_2:ByteArray) (a0_3:Int) (l0_4:List (S29)) (l0_5:List (S29)) (a0_6:Int) (a0_7:Int) (a0_8:ByteArray) (a0_9:Int):Option (Bool):=(impl_isObjectId.f a0_0).bind fun t263=>(if t263=true then(if(l0_5.length:Int)>30 then(impl_ValidObject.j0 k true a0_0 a0_1 a0_2 a0_3 l0_4 l0_5 a0_6 a0_7 a0_8 a0_9)else((impl_Value__impl_ValidValue.f k l0_5).bind fun t264=>(impl_ValidObject.j0 k (!t264) a0_0 a0_1 a0_2 a0_3 l0_4 l0_5 a0_6 a0_7 a0_8 a0_9)))else(impl_ValidObject.j0 k true a0_0 a0_1 a0_2 a0_3 l0_4 l0_5 a0_6 a0_7 a0_8 a0_9))
set_option maxHeartbeats 8000000 in
set_option maxRecDepth 100000 in
theorem impl_ValidObject.calls (k:Nat) (a0_0:Int) (a0_1:Int) (a0_2:ByteArray) (a0_3:Int) (A0_4:Option Addr) (c0_4:Nat) (l0_4:List (S29)) (A0_5:Option Addr) (c0_5:Nat) (l0_5:List (S29)) (a0_6:Int) (a0_7:Int) (a0_8:ByteArray) (a0_9:Int) (r:Bool) (w:World) (hr0_4:Kd.C k29 w A0_4 l0_4.length l0_4) (hc0_4:l0_4.length≤c0_4) (hr0_5:Kd.C k29 w A0_5 l0_5.length l0_5) (hc0_5:l0_5.length≤c0_5) (h:impl_ValidObject.f k a0_0 a0_1 a0_2 a0_3 l0_4 l0_5 a0_6 a0_7 a0_8 a0_9=some r):
  Calls Try.prog 64 #[.agg #[.int .i64 a0_0,.int .i64 a0_1,.string a0_2,.int .i64 a0_3,.slice A0_4 l0_4.length c0_4,.slice A0_5 l0_5.length c0_5,.int .i64 a0_6,.int .i64 a0_7,.string a0_8,.int .i64 a0_9]] w fun e w'=>e= .returned (.bool r)∧Below w.heap.size w w':=by
 have am:=Try.underlying56
 have an:=Try.underlying29
 have b:=zM hr0_4
 have c:=zM hc0_4
 clear hr0_4 hc0_4
 have ab:=zM hr0_5
 have ac:=zM hc0_5
 clear hr0_5 hc0_5
 have HB:=zM (Below.refl w.heap.size w)
 have H:((impl_isObjectId.f a0_0).bind fun V=>(if V=true then(if(l0_5.length:Int)>30 then(impl_ValidObject.j0 k true a0_0 a0_1 a0_2 a0_3 l0_4 l0_5 a0_6 a0_7 a0_8 a0_9)else((impl_Value__impl_ValidValue.f k l0_5).bind fun G=>(impl_ValidObject.j0 k (!G) a0_0 a0_1 a0_2 a0_3 l0_4 l0_5 a0_6 a0_7 a0_8 a0_9)))else(impl_ValidObject.j0 k true a0_0 a0_1 a0_2 a0_3 l0_4 l0_5 a0_6 a0_7 a0_8 a0_9)))=some r:=h
 clear h
 have W:=zM H
 clear H
 go_enter Try.func64,Try.ntmps64
 go_upto_region 1 with(first|((with_reducible refine gate_dst (N:=1) rfl ?_);(try(refine gate_guard (by rfl) ?_;dsimp only));refine sV (N:=1) (cs:= #[.int .i64 a0_0,.int .i64 a0_1,.string a0_2,.int .i64 a0_3,.slice A0_4 l0_4.length c0_4,.slice A0_5 l0_5.length c0_5,.int .i64 a0_6,.int .i64 a0_7,.string a0_8,.int .i64 a0_9]) (t:=56) ?_;intro ad hg w3 hbox hb;have a:=zM (hbox);have ao:=sG HB hg;have ae:=sG HB hg;replace HB:=sB HB hb;clear hb hbox hg))
 (try simp only[zP])
 go_cut [21] (fun af wc=>∃(kq:Nat) (I:Bool),af= .bool I∧Aside0 (impl_ValidObject.j0 kq I a0_0 a0_1 a0_2 a0_3 l0_4 l0_5 a0_6 a0_7 a0_8 a0_9=some r)∧Aside0 (kq≤k)∧Aside0 (wc.heap[ad]?=some (.cells #[.int .i64 a0_0,.int .i64 a0_1,.string a0_2,.int .i64 a0_3,(.slice A0_4 l0_4.length c0_4),(.slice A0_5 l0_5.length c0_5),.int .i64 a0_6,.int .i64 a0_7,.string a0_8,.int .i64 a0_9] 56 (0,0)))∧Aside0 (Below w.heap.size w wc))
 case first=>(
 have H:=W.out
 clear W
 obtain⟨V,X,H⟩:=sO H
 by_cases J:V=true
 ·(
 subst J
 rewrite[if_pos rfl]at H
 by_cases A:(l0_5.length:Int)>30
 ·(
 rw[if_pos A]at H
 have c6b0:decide (30<(l0_5.length:Int))=true:=zT A
 have c6b1:decide (30<l0_5.length)=true:=zT (by omega)
 clear A
 (first|rw[c6b0]|(simp only[i64_w,i32_w];rw[c6b0])|rw[c6b2]|skip)
 have H':=zM H
 clear H
 obtain⟨ap,aq,ar,au,av,aw,ax,ay,az,aA,aB,aC,aD,aE,aF,aG,aH,aI,aJ,aK⟩:=cells10 a.out
 go_wp2_with (first|((with_reducible refine gate_callee (f:=88) rfl ?_);refine sC (some 8) Try.func88 #[.int .i64 a0_0] (impl_isObjectId.calls a0_0 true _ X.out) ?_;rintro e w' ⟨rfl,⟨nd,rfl⟩⟩;refine⟨_,rfl,?_⟩))
 go_meet
 case rel=>exact⟨_,(true),sr,H',⟨by first|omega|exact Nat.le_refl _⟩,⟨by exact sT a.out⟩,⟨sb⟩⟩)
 rw[if_neg A]at H
 have c6b0:decide (30<(l0_5.length:Int))=false:=zF A
 have c6b1:decide (30<l0_5.length)=false:=zF (by omega)
 clear A
 (first|rw[c6b0]|(simp only[i64_w,i32_w];rw[c6b0])|rw[c6b2]|skip)
 obtain⟨G,A8,H⟩:=sO H
 have H':=zM H
 clear H
 obtain⟨aL,aM,aN,aO,aP,aQ,aR,aS,aT,aU,aV,aW,aX,aY,aZ,a0,a1,a2,a3,a4⟩:=cells10 a.out
 go_wp2_with (first|((with_reducible refine gate_callee (f:=88) rfl ?_);refine sC (some 8) Try.func88 #[.int .i64 a0_0] (impl_isObjectId.calls a0_0 true _ X.out) ?_;rintro e w' ⟨rfl,⟨nd,rfl⟩⟩;refine⟨_,rfl,?_⟩)|(go_at_call 89;(with_reducible refine(impl_Value__impl_ValidValue.calls k _ _ l0_5 G _ ?side1 ?side2 A8.out).mono ?_);(case side1=>exact sD (zC ab.out zzR));(case side2=>exact ac.out);rintro e a5 ⟨rfl,hb⟩;replace a:=sK a hb;replace HB:=sB HB hb;(try clear hb)))
 go_meet
 case rel=>exact⟨_,(!G),sr,H',⟨by first|omega|exact Nat.le_refl _⟩,⟨by exact sT a.out⟩,⟨sb⟩⟩)
 replace J:=zB J
 subst J
 rewrite[if_neg zQ]at H
 have H':=zM H
 clear H
 obtain⟨a6,a7,a8,a9,ba,bb,bc,bd,be,bf,bg,bh,bi,bj,bk,bl,bm,bn,bo,bp⟩:=cells10 a.out
 go_wp2_with (first|((with_reducible refine gate_callee (f:=88) rfl ?_);refine sC (some 8) Try.func88 #[.int .i64 a0_0] (impl_isObjectId.calls a0_0 false _ X.out) ?_;rintro e w' ⟨rfl,⟨nd,rfl⟩⟩;refine⟨_,rfl,?_⟩))
 go_meet
 case rel=>exact⟨_,(true),sr,H',⟨by first|omega|exact Nat.le_refl _⟩,⟨by exact sT a.out⟩,⟨sb⟩⟩)
 case rest=>(
 clear W
 obtain⟨kq,I,rfl,HA,bq,a,HB⟩:=hcut
 cases kq with
 |zero=>exact absurd HA.out (by simp[impl_ValidObject.j0])
 |succ kj1=>(
 have H:=HA.out
 clear HA
 simp only[impl_ValidObject.j0]at H
 by_cases K:I=true
 ·(
 subst K
 rewrite[if_pos rfl]at H
 obtain rfl:=zI H
 go_wp2
 go_ret
 exact⟨sq,sb⟩)
 replace K:=zB K
 subst K
 rewrite[if_neg zQ]at H
 by_cases m:a0_1=1
 ·(
 rw[if_pos m]at H
 have c13b0:(a0_1==1)=true:=zE m
 have c13b1:(a0_1 !=1)=false:=zY m
 clear m
 obtain⟨ag,L,H⟩:=sO H
 by_cases M:ag=true
 ·(
 subst M
 rewrite[if_pos rfl]at H
 by_cases l:(l0_4.length:Int)=0
 ·(
 rw[if_pos l]at H
 have c16b0:((l0_4.length:Int)==0)=true:=zE l
 have c16b1:((l0_4.length:Int) !=0)=false:=zY l
 clear l
 by_cases d:(a0_6==0&&(a0_7==0&&(a0_8.toList.isEmpty&&(a0_9==0))))=true
 ·(
 rw[if_pos d]at H
 have c17b0:(a0_6==0&&(a0_7==0&&(a0_8.toList.isEmpty&&(a0_9==0))))=true:=d
 (try(have c17b1:decide (a0_6=0&&(a0_7==0&&(a0_8.toList.isEmpty&&(a0_9==0))))=true:=by simpa using d))
 (try(have c17b2:(a0_6==0&&(a0_7==0&&(a0_8.toList.isEmpty&&(a0_9==0))))=true:=by simpa using d))
 clear d
 obtain rfl:=zI H
 obtain⟨br,bs,bt,bu,bv,bw,bx,bz,bA,bB,bC,bD,bE,bF,bG,bH,bI,bJ,bK,bL⟩:=cells10 a.out
 go_wp2_with (first|((with_reducible refine gate_callee (f:=82) rfl ?_);refine sC (some 28) Try.func82 #[.int .i64 a0_3,.int .i64 (-1000),.int .i64 1000] (impl_within.calls a0_3 (-1000) 1000 true _ L.out) ?_;rintro e w' ⟨rfl,⟨nd,rfl⟩⟩;refine⟨_,rfl,?_⟩))
 go_ret
 exact⟨sq,sb⟩)
 rw[if_neg d]at H
 have c17b0:(a0_6==0&&(a0_7==0&&(a0_8.toList.isEmpty&&(a0_9==0))))=false:=by simpa using d
 (try(have c17b1:decide (a0_6=0&&(a0_7==0&&(a0_8.toList.isEmpty&&(a0_9==0))))=false:=by simpa using d))
 (try(have c17b2:(a0_6==0&&(a0_7==0&&(a0_8.toList.isEmpty&&(a0_9==0))))=false:=by simpa using d))
 (try(have c17b3:¬(a0_6=0&&(a0_7==0&&(a0_8.toList.isEmpty&&(a0_9==0)))):=by simpa using d))
 clear d
 obtain rfl:=zI H
 obtain⟨bM,bN,bO,bP,bQ,bR,bS,bT,bU,bV,bW,bX,bY,bZ,b0,b1,b2,b3,b4,b5⟩:=cells10 a.out
 go_wp2_with (first|((with_reducible refine gate_callee (f:=82) rfl ?_);refine sC (some 28) Try.func82 #[.int .i64 a0_3,.int .i64 (-1000),.int .i64 1000] (impl_within.calls a0_3 (-1000) 1000 true _ L.out) ?_;rintro e w' ⟨rfl,⟨nd,rfl⟩⟩;refine⟨_,rfl,?_⟩))
 go_ret
 exact⟨sq,sb⟩)
 rw[if_neg l]at H
 have c16b0:((l0_4.length:Int)==0)=false:=zN l
 have c16b1:((l0_4.length:Int) !=0)=true:=zX l
 have c16b2:¬(l0_4=[]):=fun h_=>l (by rw[h_];rfl)
 obtain rfl:=zI H
 obtain⟨b6,b7,b8,b9,ca,cb,cc,cd,ce,cf,cg,ch,ci,cj,ck,cl,cm,cn,co,cp⟩:=cells10 a.out
 go_wp2_with (first|((with_reducible refine gate_callee (f:=82) rfl ?_);refine sC (some 28) Try.func82 #[.int .i64 a0_3,.int .i64 (-1000),.int .i64 1000] (impl_within.calls a0_3 (-1000) 1000 true _ L.out) ?_;rintro e w' ⟨rfl,⟨nd,rfl⟩⟩;refine⟨_,rfl,?_⟩))
 go_ret
 exact⟨sq,sb⟩)
 replace M:=zB M
 subst M
 rewrite[if_neg zQ]at H
 obtain rfl:=zI H
 obtain⟨cq,cr,ct,cu,cv,cw,cx,cy,cz,cA,cB,cC,cD,cE,cF,cG,cH,cI,cJ,cK⟩:=cells10 a.out
 go_wp2_with (first|((with_reducible refine gate_callee (f:=82) rfl ?_);refine sC (some 28) Try.func82 #[.int .i64 a0_3,.int .i64 (-1000),.int .i64 1000] (impl_within.calls a0_3 (-1000) 1000 false _ L.out) ?_;rintro e w' ⟨rfl,⟨nd,rfl⟩⟩;refine⟨_,rfl,?_⟩))
 go_ret
 exact⟨sq,sb⟩)
 rw[if_neg m]at H
 have c13b0:(a0_1==1)=false:=zN m
 have c13b1:(a0_1 !=1)=true:=zX m
 by_cases n:a0_1=2
 ·(
 rw[if_pos n]at H
 have c22b0:(a0_1==2)=true:=zE n
 have c22b1:(a0_1 !=2)=false:=zY n
 clear n
 by_cases g:(l0_4.length:Int)=(l0_5.length:Int)
 ·(
 rw[if_pos g]at H
 have c23b0:((l0_4.length:Int)==(l0_5.length:Int))=true:=zE g
 have c23b1:((l0_4.length:Int) !=(l0_5.length:Int))=false:=zY g
 have c23b2:(l0_4.length==l0_5.length)=true:=by first|simpa using g|(simp at g ⊢;omega)
 clear g
 obtain⟨ah,B,H⟩:=sO H
 by_cases O:ah=true
 ·(
 subst O
 rewrite[if_pos rfl]at H
 obtain⟨Y,P,H⟩:=sO H
 by_cases o:a0_3=0
 ·(
 rw[if_pos o]at H
 have c27b0:(a0_3==0)=true:=zE o
 have c27b1:(a0_3 !=0)=false:=zY o
 clear o
 by_cases Q:Y=true
 ·(
 subst Q
 rewrite[if_pos rfl]at H
 obtain⟨ai,Z,H⟩:=sO H
 by_cases R:ai=true
 ·(
 subst R
 rewrite[if_pos rfl]at H
 obtain rfl:=zI H
 obtain⟨cL,cM,cN,cO,cP,cQ,cR,cS,cT,cU,cV,cW,cX,cY,cZ,c0,c1,c2,c3,c4⟩:=cells10 a.out
 go_wp2_with (first|(go_at_call 89;(with_reducible refine(impl_Value__impl_ValidValue.calls kj1 _ _ l0_4 true _ ?side1 ?side2 B.out).mono ?_);(case side1=>exact sD (zC b.out HB.out));(case side2=>exact c.out);rintro e c7 ⟨rfl,hb⟩;replace a:=sK a hb;replace HB:=sB HB hb;(try clear hb);obtain⟨c8,c9,da,db,dc,dd,de,df,dg,dh,di,dj,dk,dl,dm,dn,dp,dq,dr,ds⟩:=cells10 a.out)|(go_at_call 91;(with_reducible refine(impl_areDifferent.calls kj1 _ _ l0_4 true _ ?side1 ?side2 P.out).mono ?_);(case side1=>exact sD (zC b.out HB.out));(case side2=>exact c.out);rintro e dt ⟨rfl,hb⟩;replace a:=sK a hb;replace HB:=sB HB hb;(try clear hb);obtain⟨du,dv,dw,dx,dy,dz,dA,dB,dC,dD,dE,dF,dG,dH,dI,dJ,dK,dL,dM,dN⟩:=cells10 a.out)|(go_at_call 90;(with_reducible refine(impl_ValidValue.calls kj1 a0_6 a0_7 a0_8 a0_9 true _ Z.out).mono ?_);rintro e dO ⟨rfl,hb⟩;replace a:=sK a hb;replace HB:=sB HB hb;(try clear hb);obtain⟨dP,dQ,dR,dS,dT,dU,dV,dW,dX,dY,dZ,d0,d1,d2,d3,d4,d5,d6,d7,d8⟩:=cells10 a.out))
 go_ret
 exact⟨sq,sb⟩)
 replace R:=zB R
 subst R
 rewrite[if_neg zQ]at H
 obtain rfl:=zI H
 obtain⟨d9,ea,eb,ec,ed,ee,ef,eg,eh,ei,ej,ek,el,em,en,eo,ep,er,es,et⟩:=cells10 a.out
 go_wp2_with (first|(go_at_call 89;(with_reducible refine(impl_Value__impl_ValidValue.calls kj1 _ _ l0_4 true _ ?side1 ?side2 B.out).mono ?_);(case side1=>exact sD (zC b.out HB.out));(case side2=>exact c.out);rintro e eu ⟨rfl,hb⟩;replace a:=sK a hb;replace HB:=sB HB hb;(try clear hb);obtain⟨ev,ew,ex,ey,ez,eA,eB,eC,eD,eE,eF,eG,eH,eI,eJ,eK,eL,eM,eN,eO⟩:=cells10 a.out)|(go_at_call 91;(with_reducible refine(impl_areDifferent.calls kj1 _ _ l0_4 true _ ?side1 ?side2 P.out).mono ?_);(case side1=>exact sD (zC b.out HB.out));(case side2=>exact c.out);rintro e eP ⟨rfl,hb⟩;replace a:=sK a hb;replace HB:=sB HB hb;(try clear hb);obtain⟨eQ,eR,eS,eT,eU,eV,eW,eX,eY,eZ,e0,e1,e2,e3,e4,e5,e6,e7,e8,e9⟩:=cells10 a.out)|(go_at_call 90;(with_reducible refine(impl_ValidValue.calls kj1 a0_6 a0_7 a0_8 a0_9 false _ Z.out).mono ?_);rintro e fa ⟨rfl,hb⟩;replace a:=sK a hb;replace HB:=sB HB hb;(try clear hb)))
 go_ret
 exact⟨sq,sb⟩)
 replace Q:=zB Q
 subst Q
 rewrite[if_neg zQ]at H
 obtain rfl:=zI H
 obtain⟨fb,fc,fd,fe,ff,fg,fh,fi,fj,fk,fl,fm,fn,fo,fp,fq,fr,fs,ft,fu⟩:=cells10 a.out
 go_wp2_with (first|(go_at_call 89;(with_reducible refine(impl_Value__impl_ValidValue.calls kj1 _ _ l0_4 true _ ?side1 ?side2 B.out).mono ?_);(case side1=>exact sD (zC b.out HB.out));(case side2=>exact c.out);rintro e fv ⟨rfl,hb⟩;replace a:=sK a hb;replace HB:=sB HB hb;(try clear hb);obtain⟨fw,fx,fy,fz,fA,fB,fC,fD,fE,fF,fG,fH,fI,fJ,fK,fL,fM,fN,fO,fP⟩:=cells10 a.out)|(go_at_call 91;(with_reducible refine(impl_areDifferent.calls kj1 _ _ l0_4 false _ ?side1 ?side2 P.out).mono ?_);(case side1=>exact sD (zC b.out HB.out));(case side2=>exact c.out);rintro e fQ ⟨rfl,hb⟩;replace a:=sK a hb;replace HB:=sB HB hb;(try clear hb);obtain⟨fR,fS,fT,fU,fV,fW,fX,fY,fZ,f0,f1,f2,f3,f4,f5,f6,f7,f8,f9,ga⟩:=cells10 a.out))
 go_ret
 exact⟨sq,sb⟩)
 rw[if_neg o]at H
 have c27b0:(a0_3==0)=false:=zN o
 have c27b1:(a0_3 !=0)=true:=zX o
 obtain rfl:=zI H
 obtain⟨gb,gc,gd,gf,gg,gh,gi,gj,gk,gl,gm,gn,go,gp,gq,gr,gs,gu,gv,gw⟩:=cells10 a.out
 go_wp2_with (first|(go_at_call 89;(with_reducible refine(impl_Value__impl_ValidValue.calls kj1 _ _ l0_4 true _ ?side1 ?side2 B.out).mono ?_);(case side1=>exact sD (zC b.out HB.out));(case side2=>exact c.out);rintro e gx ⟨rfl,hb⟩;replace a:=sK a hb;replace HB:=sB HB hb;(try clear hb);obtain⟨gy,gz,gA,gB,gC,gD,gE,gF,gG,gH,gI,gJ,gK,gL,gM,gN,gO,gP,gQ,gR⟩:=cells10 a.out)|(go_at_call 91;(with_reducible refine(impl_areDifferent.calls kj1 _ _ l0_4 Y _ ?side1 ?side2 P.out).mono ?_);(case side1=>exact sD (zC b.out HB.out));(case side2=>exact c.out);rintro e gS ⟨rfl,hb⟩;replace a:=sK a hb;replace HB:=sB HB hb;(try clear hb);obtain⟨gT,gU,gV,gW,gX,gY,gZ,g0,g1,g2,g3,g4,g5,g6,g7,g8,g9,ha,hc,hd⟩:=cells10 a.out))
 go_ret
 exact⟨sq,sb⟩)
 replace O:=zB O
 subst O
 rewrite[if_neg zQ]at H
 by_cases p:a0_3=0
 ·(
 rw[if_pos p]at H
 have c54b0:(a0_3==0)=true:=zE p
 have c54b1:(a0_3 !=0)=false:=zY p
 clear p
 obtain rfl:=zI H
 obtain⟨he,hf,hh,hi,hj,hk,hl,hm,hn,ho,hp,hq,hr,hs,ht,hu,hv,hw,hx,hy⟩:=cells10 a.out
 go_wp2_with (first|(go_at_call 89;(with_reducible refine(impl_Value__impl_ValidValue.calls kj1 _ _ l0_4 false _ ?side1 ?side2 B.out).mono ?_);(case side1=>exact sD (zC b.out HB.out));(case side2=>exact c.out);rintro e hz ⟨rfl,hb⟩;replace a:=sK a hb;replace HB:=sB HB hb;(try clear hb);obtain⟨hA,hB,hC,hD,hE,hF,hG,hH,hI,hJ,hK,hL,hM,hN,hO,hP,hQ,hR,hS,hT⟩:=cells10 a.out))
 go_ret
 exact⟨sq,sb⟩)
 rw[if_neg p]at H
 have c54b0:(a0_3==0)=false:=zN p
 have c54b1:(a0_3 !=0)=true:=zX p
 obtain rfl:=zI H
 obtain⟨hU,hV,hW,hX,hY,hZ,h0,h1,h2,h3,h4,h5,h6,h7,h8,h9,ia,ib,ic,ie⟩:=cells10 a.out
 go_wp2_with (first|(go_at_call 89;(with_reducible refine(impl_Value__impl_ValidValue.calls kj1 _ _ l0_4 false _ ?side1 ?side2 B.out).mono ?_);(case side1=>exact sD (zC b.out HB.out));(case side2=>exact c.out);rintro e ig ⟨rfl,hb⟩;replace a:=sK a hb;replace HB:=sB HB hb;(try clear hb);obtain⟨ih,ii,ij,ik,il,im,ip,iq,ir,it,iu,iv,iw,ix,iy,iz,iA,iB,iC,iD⟩:=cells10 a.out))
 go_ret
 exact⟨sq,sb⟩)
 rw[if_neg g]at H
 have c23b0:((l0_4.length:Int)==(l0_5.length:Int))=false:=zN g
 have c23b1:((l0_4.length:Int) !=(l0_5.length:Int))=true:=zX g
 have c23b2:(l0_4.length==l0_5.length)=false:=by first|simpa using g|(simp at g ⊢;omega)
 by_cases q:a0_3=0
 ·(
 rw[if_pos q]at H
 have c61b0:(a0_3==0)=true:=zE q
 have c61b1:(a0_3 !=0)=false:=zY q
 clear q
 obtain rfl:=zI H
 obtain⟨iE,iF,iG,iH,iI,iJ,iK,iL,iM,iN,iO,iP,iQ,iR,iS,iT,iU,iV,iW,iX⟩:=cells10 a.out
 go_wp2
 go_ret
 exact⟨sq,sb⟩)
 rw[if_neg q]at H
 have c61b0:(a0_3==0)=false:=zN q
 have c61b1:(a0_3 !=0)=true:=zX q
 obtain rfl:=zI H
 obtain⟨iY,iZ,i0,i1,i2,i3,i4,i5,i6,i7,i8,i9,ja,jb,jc,jd,je,jf,jg,jh⟩:=cells10 a.out
 go_wp2
 go_ret
 exact⟨sq,sb⟩)
 rw[if_neg n]at H
 have c22b0:(a0_1==2)=false:=zN n
 have c22b1:(a0_1 !=2)=true:=zX n
 by_cases s:a0_1=3
 ·(
 rw[if_pos s]at H
 have c64b0:(a0_1==3)=true:=zE s
 have c64b1:(a0_1 !=3)=false:=zY s
 clear s
 by_cases D:(l0_4.length:Int)≥1
 ·(
 rw[if_pos D]at H
 have c65b0:decide (1≤(l0_4.length:Int))=true:=zT D
 have c65b1:decide (1≤l0_4.length)=true:=zT (by omega)
 clear D
 by_cases E:(l0_4.length:Int)≤6
 ·(
 rw[if_pos E]at H
 have c66b0:=zT E
 have c66b1:decide (l0_4.length≤6)=true:=zT (by omega)
 clear E
 by_cases i:(l0_4.length:Int)=(l0_5.length:Int)
 ·(
 rw[if_pos i]at H
 have c67b0:((l0_4.length:Int)==(l0_5.length:Int))=true:=zE i
 have c67b1:((l0_4.length:Int) !=(l0_5.length:Int))=false:=zY i
 have c67b2:(l0_4.length==l0_5.length)=true:=by first|simpa using i|(simp at i ⊢;omega)
 clear i
 obtain⟨aj,F,H⟩:=sO H
 by_cases S:aj=true
 ·(
 subst S
 rewrite[if_pos rfl]at H
 obtain⟨aa,T,H⟩:=sO H
 by_cases u:a0_3=0
 ·(
 rw[if_pos u]at H
 have c71b0:(a0_3==0)=true:=zE u
 have c71b1:(a0_3 !=0)=false:=zY u
 clear u
 by_cases U:aa=true
 ·(
 subst U
 rewrite[if_pos rfl]at H
 by_cases j:(a0_6==0&&(a0_7==0&&(a0_8.toList.isEmpty&&(a0_9==0))))=true
 ·(
 rw[if_pos j]at H
 have c73b0:(a0_6==0&&(a0_7==0&&(a0_8.toList.isEmpty&&(a0_9==0))))=true:=j
 (try(have c73b1:decide (a0_6=0&&(a0_7==0&&(a0_8.toList.isEmpty&&(a0_9==0))))=true:=by simpa using j))
 (try(have c73b2:(a0_6==0&&(a0_7==0&&(a0_8.toList.isEmpty&&(a0_9==0))))=true:=by simpa using j))
 clear j
 obtain⟨ak,al,H⟩:=sO H
 obtain rfl:=zI H
 obtain⟨ji,jj,jk,jl,jm,jn,jo,jp,jq,jr,js,jt,ju,jv,jw,jx,jy,jz,jA,jB⟩:=cells10 a.out
 go_wp2_with (first|(go_at_call 89;(with_reducible refine(impl_Value__impl_isField.calls kj1 _ _ l0_4 true _ ?side1 ?side2 F.out).mono ?_);(case side1=>exact sD (zC b.out HB.out));(case side2=>exact c.out);rintro e jC ⟨rfl,hb⟩;replace a:=sK a hb;replace HB:=sB HB hb;(try clear hb);obtain⟨jD,jE,jF,jG,jH,jI,jJ,jK,jL,jM,jN,jO,jP,jQ,jR,jS,jT,jU,jV,jW⟩:=cells10 a.out)|(go_at_call 91;(with_reducible refine(impl_areDifferent.calls kj1 _ _ l0_4 true _ ?side1 ?side2 T.out).mono ?_);(case side1=>exact sD (zC b.out HB.out));(case side2=>exact c.out);rintro e jX ⟨rfl,hb⟩;replace a:=sK a hb;replace HB:=sB HB hb;(try clear hb);obtain⟨jY,jZ,j1,j2,j3,j4,j5,j6,j7,j8,j9,ka,kb,kc,kd,ke,kf,kg,kh,ki⟩:=cells10 a.out)|(go_at_call 93;(with_reducible refine(impl_IsName.calls kj1 a0_2 ak _ al.out).mono ?_);rintro e kj ⟨rfl,hb⟩;replace a:=sK a hb;replace HB:=sB HB hb;(try clear hb)))
 go_ret
 exact⟨sq,sb⟩)
 rw[if_neg j]at H
 have c73b0:(a0_6==0&&(a0_7==0&&(a0_8.toList.isEmpty&&(a0_9==0))))=false:=by simpa using j
 (try(have c73b1:decide (a0_6=0&&(a0_7==0&&(a0_8.toList.isEmpty&&(a0_9==0))))=false:=by simpa using j))
 (try(have c73b2:(a0_6==0&&(a0_7==0&&(a0_8.toList.isEmpty&&(a0_9==0))))=false:=by simpa using j))
 (try(have c73b3:¬(a0_6=0&&(a0_7==0&&(a0_8.toList.isEmpty&&(a0_9==0)))):=by simpa using j))
 clear j
 obtain rfl:=zI H
 obtain⟨kk,kl,km,kn,ko,kp,kr,ks,kt,ku,kv,kw,kx,ky,kz,kA,kB,kC,kD,kE⟩:=cells10 a.out
 go_wp2_with (first|(go_at_call 89;(with_reducible refine(impl_Value__impl_isField.calls kj1 _ _ l0_4 true _ ?side1 ?side2 F.out).mono ?_);(case side1=>exact sD (zC b.out HB.out));(case side2=>exact c.out);rintro e kF ⟨rfl,hb⟩;replace a:=sK a hb;replace HB:=sB HB hb;(try clear hb);obtain⟨kG,kH,kI,kJ,kK,kL,kM,kN,kO,kP,kQ,kR,kS,kT,kU,kV,kW,kX,kY,kZ⟩:=cells10 a.out)|(go_at_call 91;(with_reducible refine(impl_areDifferent.calls kj1 _ _ l0_4 true _ ?side1 ?side2 T.out).mono ?_);(case side1=>exact sD (zC b.out HB.out));(case side2=>exact c.out);rintro e k0 ⟨rfl,hb⟩;replace a:=sK a hb;replace HB:=sB HB hb;(try clear hb);obtain⟨k1,k2,k3,k4,k5,k6,k7,k8,k9,la,lb,lc,ld,lf,lg,lh,li,lj,lk,ll⟩:=cells10 a.out))
 go_ret
 exact⟨sq,sb⟩)
 replace U:=zB U
 subst U
 rewrite[if_neg zQ]at H
 obtain rfl:=zI H
 obtain⟨lm,ln,lo,lp,lq,lr,ls,lu,lv,lw,lx,ly,lz,lA,lB,lC,lD,lE,lF,lG⟩:=cells10 a.out
 go_wp2_with (first|(go_at_call 89;(with_reducible refine(impl_Value__impl_isField.calls kj1 _ _ l0_4 true _ ?side1 ?side2 F.out).mono ?_);(case side1=>exact sD (zC b.out HB.out));(case side2=>exact c.out);rintro e lH ⟨rfl,hb⟩;replace a:=sK a hb;replace HB:=sB HB hb;(try clear hb);obtain⟨lI,lJ,lK,lL,lM,lN,lO,lP,lQ,lR,lS,lT,lU,lV,lW,lX,lY,lZ,l0,l1⟩:=cells10 a.out)|(go_at_call 91;(with_reducible refine(impl_areDifferent.calls kj1 _ _ l0_4 false _ ?side1 ?side2 T.out).mono ?_);(case side1=>exact sD (zC b.out HB.out));(case side2=>exact c.out);rintro e l2 ⟨rfl,hb⟩;replace a:=sK a hb;replace HB:=sB HB hb;(try clear hb);obtain⟨l3,l4,l5,l6,l7,l8,l9,ma,mb,mc,md,me,mf,mg,mh,mi,mj,mk,ml,mm⟩:=cells10 a.out))
 go_ret
 exact⟨sq,sb⟩)
 rw[if_neg u]at H
 have c71b0:(a0_3==0)=false:=zN u
 have c71b1:(a0_3 !=0)=true:=zX u
 obtain rfl:=zI H
 obtain⟨mn,mo,mp,mq,mr,ms,mt,mu,mv,mw,mx,my,mz,mA,mB,mC,mD,mE,mF,mG⟩:=cells10 a.out
 go_wp2_with (first|(go_at_call 89;(with_reducible refine(impl_Value__impl_isField.calls kj1 _ _ l0_4 true _ ?side1 ?side2 F.out).mono ?_);(case side1=>exact sD (zC b.out HB.out));(case side2=>exact c.out);rintro e mH ⟨rfl,hb⟩;replace a:=sK a hb;replace HB:=sB HB hb;(try clear hb);obtain⟨mI,mJ,mK,mL,mM,mN,mO,mP,mQ,mR,mS,mT,mU,mV,mW,mX,mY,mZ,m0,m1⟩:=cells10 a.out)|(go_at_call 91;(with_reducible refine(impl_areDifferent.calls kj1 _ _ l0_4 aa _ ?side1 ?side2 T.out).mono ?_);(case side1=>exact sD (zC b.out HB.out));(case side2=>exact c.out);rintro e m2 ⟨rfl,hb⟩;replace a:=sK a hb;replace HB:=sB HB hb;(try clear hb);obtain⟨m3,m4,m5,m6,m7,m8,m9,na,nb,nc,nf,ng,nh,ni,nj,nk,nl,nm,nn,no⟩:=cells10 a.out))
 go_ret
 exact⟨sq,sb⟩)
 replace S:=zB S
 subst S
 rewrite[if_neg zQ]at H
 by_cases v:a0_3=0
 ·(
 rw[if_pos v]at H
 have c96b0:(a0_3==0)=true:=zE v
 have c96b1:(a0_3 !=0)=false:=zY v
 clear v
 obtain rfl:=zI H
 obtain⟨np,nq,nr,ns,nt,nu,nv,nw,nx,ny,nz,nA,nB,nC,nD,nE,nF,nG,nH,nI⟩:=cells10 a.out
 go_wp2_with (first|(go_at_call 89;(with_reducible refine(impl_Value__impl_isField.calls kj1 _ _ l0_4 false _ ?side1 ?side2 F.out).mono ?_);(case side1=>exact sD (zC b.out HB.out));(case side2=>exact c.out);rintro e nJ ⟨rfl,hb⟩;replace a:=sK a hb;replace HB:=sB HB hb;(try clear hb);obtain⟨nK,nL,nM,nN,nO,nP,nQ,nR,nS,nT,nU,nV,nW,nX,nY,nZ,n0,n1,n2,n3⟩:=cells10 a.out))
 go_ret
 exact⟨sq,sb⟩)
 rw[if_neg v]at H
 have c96b0:(a0_3==0)=false:=zN v
 have c96b1:(a0_3 !=0)=true:=zX v
 obtain rfl:=zI H
 obtain⟨n4,n5,n6,n7,n8,n9,oa,ob,oc,od,oe,og,oh,oi,oj,ok,ol,om,on,oo⟩:=cells10 a.out
 go_wp2_with (first|(go_at_call 89;(with_reducible refine(impl_Value__impl_isField.calls kj1 _ _ l0_4 false _ ?side1 ?side2 F.out).mono ?_);(case side1=>exact sD (zC b.out HB.out));(case side2=>exact c.out);rintro e op ⟨rfl,hb⟩;replace a:=sK a hb;replace HB:=sB HB hb;(try clear hb);obtain⟨oq,os,ot,ou,ov,ow,ox,oy,oz,oA,oB,oC,oD,oE,oF,oG,oH,oI,oJ,oK⟩:=cells10 a.out))
 go_ret
 exact⟨sq,sb⟩)
 rw[if_neg i]at H
 have c67b0:((l0_4.length:Int)==(l0_5.length:Int))=false:=zN i
 have c67b1:((l0_4.length:Int) !=(l0_5.length:Int))=true:=zX i
 have c67b2:(l0_4.length==l0_5.length)=false:=by first|simpa using i|(simp at i ⊢;omega)
 by_cases x:a0_3=0
 ·(
 rw[if_pos x]at H
 have c103b0:(a0_3==0)=true:=zE x
 have c103b1:(a0_3 !=0)=false:=zY x
 clear x
 obtain rfl:=zI H
 obtain⟨oL,oM,oN,oO,oP,oQ,oR,oS,oT,oU,oV,oW,oX,oY,oZ,o0,o1,o2,o3,o4⟩:=cells10 a.out
 go_wp2
 go_ret
 exact⟨sq,sb⟩)
 rw[if_neg x]at H
 have c103b0:(a0_3==0)=false:=zN x
 have c103b1:(a0_3 !=0)=true:=zX x
 obtain rfl:=zI H
 obtain⟨o5,o6,o7,o8,o9,pa,pb,pc,pd,pe,pf,pg,ph,pi,pj,pk,pl,pm,pn,po⟩:=cells10 a.out
 go_wp2
 go_ret
 exact⟨sq,sb⟩)
 rw[if_neg E]at H
 have c66b0:=zF E
 have c66b1:decide (l0_4.length≤6)=false:=zF (by omega)
 clear E
 by_cases y:a0_3=0
 ·(
 rw[if_pos y]at H
 have c106b0:(a0_3==0)=true:=zE y
 have c106b1:(a0_3 !=0)=false:=zY y
 clear y
 obtain rfl:=zI H
 obtain⟨pp,pq,pr,ps,pt,pu,pv,pw,px,py,pz,pA,pB,pC,pD,pE,pF,pG,pH,pI⟩:=cells10 a.out
 go_wp2
 go_ret
 exact⟨sq,sb⟩)
 rw[if_neg y]at H
 have c106b0:(a0_3==0)=false:=zN y
 have c106b1:(a0_3 !=0)=true:=zX y
 obtain rfl:=zI H
 obtain⟨pJ,pK,pL,pM,pN,pO,pP,pQ,pR,pS,pT,pU,pV,pW,pX,pY,pZ,p0,p1,p2⟩:=cells10 a.out
 go_wp2
 go_ret
 exact⟨sq,sb⟩)
 rw[if_neg D]at H
 have c65b0:decide (1≤(l0_4.length:Int))=false:=zF D
 have c65b1:decide (1≤l0_4.length)=false:=zF (by omega)
 clear D
 by_cases z:a0_3=0
 ·(
 rw[if_pos z]at H
 have c109b0:(a0_3==0)=true:=zE z
 have c109b1:(a0_3 !=0)=false:=zY z
 clear z
 obtain rfl:=zI H
 obtain⟨p3,p4,p5,p6,p7,p8,p9,qa,qb,qc,qd,qe,qf,qg,qh,qi,qj,qk,ql,qm⟩:=cells10 a.out
 go_wp2
 go_ret
 exact⟨sq,sb⟩)
 rw[if_neg z]at H
 have c109b0:(a0_3==0)=false:=zN z
 have c109b1:(a0_3 !=0)=true:=zX z
 obtain rfl:=zI H
 obtain⟨qn,qo,qp,qq,qr,qs,qt,qu,qv,qw,qx,qy,qz,qA,qB,qC,qD,qE,qF,qG⟩:=cells10 a.out
 go_wp2
 go_ret
 exact⟨sq,sb⟩)
 rw[if_neg s]at H
 have c64b0:(a0_1==3)=false:=zN s
 have c64b1:(a0_1 !=3)=true:=zX s
 obtain rfl:=zI H
 obtain⟨qH,qI,qJ,qK,qL,qM,qN,qO,qP,qQ,qR,qS,qT,qU,qV,qW,qX,qY,qZ,q0⟩:=cells10 a.out
 go_wp2
 go_ret
 exact⟨sq,sb⟩))
end
end Go.Proofs.Ytengilknjiobiaa.PFnExactRefsOf
