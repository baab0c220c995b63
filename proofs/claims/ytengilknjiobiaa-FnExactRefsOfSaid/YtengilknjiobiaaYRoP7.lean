/- Printed functions: spec_l07Object. -/
import Derived.Test.YtengilknjiobiaaYRoP0
import Derived.Test.YtengilknjiobiaaYRoPE
import Derived.Test.YtengilknjiobiaaYRoP3
import Derived.Test.YtengilknjiobiaaYRoP4
import Derived.Test.YtengilknjiobiaaYRoP5
import Derived.Test.YtengilknjiobiaaYRoP6
namespace Go.Proofs.Ytengilknjiobiaa.PFnExactRefsOf
open Go.RowKit Go.Proofs.YtengilknjiobiaaG Go.Proofs.YtengilknjiobiaaW.PrintWords Go.Proofs.YtengilknjiobiaaW.PrintLast Go.Proofs.YtengilknjiobiaaW.PrintMore
attribute [local go_sem] max2_int min2_int max_two min_two max_three min_three max_four min_four
set_option linter.unusedVariables false
set_option linter.unusedSimpArgs false
section
attribute [local go_sem high] eqA29
def spec_l07Object.j0 : Nat → Bool → Int → Int → ByteArray → Int → List (S29) → List (S29) → Int → Int → ByteArray → Int → Option (Bool)
 |0,_,_,_,_,_,_,_,_,_,_,_=>none
 |k+1,x12,x161000,x161001,x161002,x161003,x161004,x161005,x161006,x161007,x161008,x161009=>if x12=true then(some false)else(if x161001=1 then(if x161002.toList=([]:List UInt8)then((spec_l00In.f x161003 (-1000) 1000).bind fun t163=>(if t163=true then(if(x161004.length:Int)=0 then(some (x161006==0&&(x161007==0&&(x161008.toList.isEmpty&&(x161009==0)))))else(some false))else(some false)))else(some false))else(if x161001=2 then(if x161002.toList=([]:List UInt8)then(if x161003=0 then(if(x161004.length:Int)=(x161005.length:Int)then((spec_l07ValidValues.f k x161004 30).bind fun t164=>(if t164=true then((spec_l07Distinct.f k x161004).bind fun t165=>(if t165=true then((spec_ValidValue.f k x161006 x161007 x161008 x161009).bind fun t166=>(some t166))else(some false)))else(some false)))else(some false))else(some false))else(some false))else(if x161001=3 then((spec_IsName.f k x161002).bind fun t167=>(if t167=true then(if x161003=0 then(if(x161004.length:Int)=(x161005.length:Int)then((spec_l07FieldNames.f k x161004).bind fun t168=>(if t168=true then(some (x161006==0&&(x161007==0&&(x161008.toList.isEmpty&&(x161009==0)))))else(some false)))else(some false))else(some false))else(some false)))else(some false))))
def spec_l07Object.f (k:Nat) (a0_0:Int) (a0_1:Int) (a0_2:ByteArray) (a0_3:Int) (l0_4:List (S29)) (l0_5:List (S29)) (a0_6:Int) (a0_7:Int) (a0_8:ByteArray) (a0_9:Int):Option (Bool):=(spec_l00In.f a0_0 1 1000000).bind fun t161=>(if t161=true then((spec_l07ValidValues.f k l0_5 30).bind fun t162=>(spec_l07Object.j0 k (!t162) a0_0 a0_1 a0_2 a0_3 l0_4 l0_5 a0_6 a0_7 a0_8 a0_9))else(spec_l07Object.j0 k true a0_0 a0_1 a0_2 a0_3 l0_4 l0_5 a0_6 a0_7 a0_8 a0_9))
set_option maxHeartbeats 8000000 in
set_option maxRecDepth 100000 in
theorem spec_l07Object.calls (k:Nat) (a0_0:Int) (a0_1:Int) (a0_2:ByteArray) (a0_3:Int) (A0_4:Option Addr) (c0_4:Nat) (l0_4:List (S29)) (A0_5:Option Addr) (c0_5:Nat) (l0_5:List (S29)) (a0_6:Int) (a0_7:Int) (a0_8:ByteArray) (a0_9:Int) (r:Bool) (w:World) (hr0_4:Kd.C k29 w A0_4 l0_4.length l0_4) (hc0_4:l0_4.length≤c0_4) (hr0_5:Kd.C k29 w A0_5 l0_5.length l0_5) (hc0_5:l0_5.length≤c0_5) (h:spec_l07Object.f k a0_0 a0_1 a0_2 a0_3 l0_4 l0_5 a0_6 a0_7 a0_8 a0_9=some r):
  Calls Try.prog 61 #[.agg #[.int .i64 a0_0,.int .i64 a0_1,.string a0_2,.int .i64 a0_3,.slice A0_4 l0_4.length c0_4,.slice A0_5 l0_5.length c0_5,.int .i64 a0_6,.int .i64 a0_7,.string a0_8,.int .i64 a0_9]] w fun e w'=>e= .returned (.bool r)∧Below w.heap.size w w':=by
 have ac:=Try.underlying56
 have ad:=Try.underlying29
 have j:=zM hr0_4
 have l:=zM hc0_4
 clear hr0_4 hc0_4
 have P:=zM hr0_5
 have Q:=zM hc0_5
 clear hr0_5 hc0_5
 have HB:=zM (Below.refl w.heap.size w)
 have H:((spec_l00In.f a0_0 1 1000000).bind fun F=>(if F=true then((spec_l07ValidValues.f k l0_5 30).bind fun u=>(spec_l07Object.j0 k (!u) a0_0 a0_1 a0_2 a0_3 l0_4 l0_5 a0_6 a0_7 a0_8 a0_9))else(spec_l07Object.j0 k true a0_0 a0_1 a0_2 a0_3 l0_4 l0_5 a0_6 a0_7 a0_8 a0_9)))=some r:=h
 clear h
 have G:=zM H
 clear H
 go_enter Try.func61,Try.ntmps61
 go_upto_region 1 with(first|((with_reducible refine gate_dst (N:=1) rfl ?_);(try(refine gate_guard (by rfl) ?_;dsimp only));refine sV (N:=1) (cs:= #[.int .i64 a0_0,.int .i64 a0_1,.string a0_2,.int .i64 a0_3,.slice A0_4 l0_4.length c0_4,.slice A0_5 l0_5.length c0_5,.int .i64 a0_6,.int .i64 a0_7,.string a0_8,.int .i64 a0_9]) (t:=56) ?_;intro R hg w3 hbox hb;have a:=zM (hbox);have ae:=sG HB hg;have I:=sG HB hg;replace HB:=sB HB hb;clear hb hbox hg))
 (try simp only[zP])
 go_cut [12] (fun S wc=>∃(kq:Nat) (v:Bool),S= .bool v∧Aside0 (spec_l07Object.j0 kq v a0_0 a0_1 a0_2 a0_3 l0_4 l0_5 a0_6 a0_7 a0_8 a0_9=some r)∧Aside0 (kq≤k)∧Aside0 (wc.heap[R]?=some (.cells #[.int .i64 a0_0,.int .i64 a0_1,.string a0_2,.int .i64 a0_3,(.slice A0_4 l0_4.length c0_4),(.slice A0_5 l0_5.length c0_5),.int .i64 a0_6,.int .i64 a0_7,.string a0_8,.int .i64 a0_9] 56 (0,0)))∧Aside0 (Below w.heap.size w wc))
 case first=>(
 have H:=G.out
 clear G
 obtain⟨F,L,H⟩:=sO H
 by_cases x:F=true
 ·(
 subst x
 rewrite[if_pos rfl]at H
 obtain⟨u,T,H⟩:=sO H
 have H':=zM H
 clear H
 obtain⟨af,ag,ah,ai,aj,ak,al,am,an,ao,ap,aq,ar,au,av,aw,ax,ay,az,aA⟩:=cells10 a.out
 go_wp2_with (first|((with_reducible refine gate_callee (f:=77) rfl ?_);refine sC (some 5) Try.func77 #[.int .i64 a0_0,.int .i64 1,.int .i64 1000000] (spec_l00In.calls a0_0 1 1000000 true _ L.out) ?_;rintro e w' ⟨rfl,⟨nd,rfl⟩⟩;refine⟨_,rfl,?_⟩)|(go_at_call 83;(with_reducible refine(spec_l07ValidValues.calls k _ _ l0_5 30 u _ ?side1 ?side2 T.out).mono ?_);(case side1=>exact sD (zC P.out zzR));(case side2=>exact Q.out);rintro e w8 ⟨rfl,hb⟩;replace a:=sK a hb;replace HB:=sB HB hb;(try clear hb)))
 go_meet
 case rel=>exact⟨_,(!u),sr,H',⟨by first|omega|exact Nat.le_refl _⟩,⟨by exact sT a.out⟩,⟨sb⟩⟩)
 replace x:=zB x
 subst x
 rewrite[if_neg zQ]at H
 have H':=zM H
 clear H
 obtain⟨aB,aC,aD,aE,aF,aG,aH,aI,aJ,aK,aL,aM,aN,aO,aP,aQ,aR,aS,aT,aU⟩:=cells10 a.out
 go_wp2_with (first|((with_reducible refine gate_callee (f:=77) rfl ?_);refine sC (some 5) Try.func77 #[.int .i64 a0_0,.int .i64 1,.int .i64 1000000] (spec_l00In.calls a0_0 1 1000000 false _ L.out) ?_;rintro e w' ⟨rfl,⟨nd,rfl⟩⟩;refine⟨_,rfl,?_⟩))
 go_meet
 case rel=>exact⟨_,(true),sr,H',⟨by first|omega|exact Nat.le_refl _⟩,⟨by exact sT a.out⟩,⟨sb⟩⟩)
 case rest=>(
 clear G
 obtain⟨kq,v,rfl,HA,aV,a,HB⟩:=hcut
 cases kq with
 |zero=>exact absurd HA.out (by simp[spec_l07Object.j0])
 |succ kj1=>(
 have H:=HA.out
 clear HA
 simp only[spec_l07Object.j0]at H
 by_cases y:v=true
 ·(
 subst y
 rewrite[if_pos rfl]at H
 obtain rfl:=zI H
 go_wp2
 go_ret
 exact⟨sq,sb⟩)
 replace y:=zB y
 subst y
 rewrite[if_neg zQ]at H
 by_cases m:a0_1=1
 ·(
 rw[if_pos m]at H
 have c11b0:(a0_1==1)=true:=zE m
 have c11b1:(a0_1 !=1)=false:=zY m
 clear m
 by_cases d:a0_2.toList=([]:List UInt8)
 ·(
 rw[if_pos d]at H
 have c12b0:(a0_2.toList==([]:List UInt8))=true:=zE d
 have c12b1:(a0_2.toList !=([]:List UInt8))=false:=zY d
 have c12b2:a0_2.toList.isEmpty=true:=by simpa using d
 clear d
 obtain⟨U,J,H⟩:=sO H
 by_cases z:U=true
 ·(
 subst z
 rewrite[if_pos rfl]at H
 by_cases i:(l0_4.length:Int)=0
 ·(
 rw[if_pos i]at H
 have c15b0:((l0_4.length:Int)==0)=true:=zE i
 have c15b1:((l0_4.length:Int) !=0)=false:=zY i
 clear i
 obtain rfl:=zI H
 obtain⟨aW,aX,aY,aZ,a0,a1,a2,a3,a4,a5,a6,a7,a8,a9,ba,bb,bc,bd,be,bf⟩:=cells10 a.out
 go_wp2_with (first|(go_at_call 77;(with_reducible refine(spec_l00In.calls a0_3 (-1000) 1000 true _ J.out).mono ?_);rintro e w' ⟨rfl,⟨nd,rfl⟩⟩))
 go_ret
 exact⟨sq,sb⟩)
 rw[if_neg i]at H
 have c15b0:((l0_4.length:Int)==0)=false:=zN i
 have c15b1:((l0_4.length:Int) !=0)=true:=zX i
 have c15b2:¬(l0_4=[]):=fun V=>i (by rw[V];rfl)
 obtain rfl:=zI H
 obtain⟨bg,bh,bi,bj,bk,bl,bm,bn,bo,bp,bq,br,bs,bt,bu,bv,bw,bx,bz,bA⟩:=cells10 a.out
 go_wp2_with (first|(go_at_call 77;(with_reducible refine(spec_l00In.calls a0_3 (-1000) 1000 true _ J.out).mono ?_);rintro e w' ⟨rfl,⟨nd,rfl⟩⟩))
 go_ret
 exact⟨sq,sb⟩)
 replace z:=zB z
 subst z
 rewrite[if_neg zQ]at H
 obtain rfl:=zI H
 obtain⟨bB,bC,bD,bE,bF,bG,bH,bI,bJ,bK,bL,bM,bN,bO,bP,bQ,bR,bS,bT,bU⟩:=cells10 a.out
 go_wp2_with (first|(go_at_call 77;(with_reducible refine(spec_l00In.calls a0_3 (-1000) 1000 false _ J.out).mono ?_);rintro e w' ⟨rfl,⟨nd,rfl⟩⟩))
 go_ret
 exact⟨sq,sb⟩)
 rw[if_neg d]at H
 have c12b0:(a0_2.toList==([]:List UInt8))=false:=zN d
 have c12b1:(a0_2.toList !=([]:List UInt8))=true:=zX d
 have c12b2:a0_2.toList.isEmpty=false:=by simpa using d
 obtain rfl:=zI H
 obtain⟨bV,bW,bX,bY,bZ,b0,b1,b2,b3,b4,b5,b6,b7,b8,b9,ca,cb,cc,cd,ce⟩:=cells10 a.out
 go_wp2
 go_ret
 exact⟨sq,sb⟩)
 rw[if_neg m]at H
 have c11b0:(a0_1==1)=false:=zN m
 have c11b1:(a0_1 !=1)=true:=zX m
 by_cases n:a0_1=2
 ·(
 rw[if_pos n]at H
 have c20b0:(a0_1==2)=true:=zE n
 have c20b1:(a0_1 !=2)=false:=zY n
 clear n
 by_cases g:a0_2.toList=([]:List UInt8)
 ·(
 rw[if_pos g]at H
 have c21b0:(a0_2.toList==([]:List UInt8))=true:=zE g
 have c21b1:(a0_2.toList !=([]:List UInt8))=false:=zY g
 have c21b2:a0_2.toList.isEmpty=true:=by simpa using g
 clear g
 by_cases o:a0_3=0
 ·(
 rw[if_pos o]at H
 have c22b0:(a0_3==0)=true:=zE o
 have c22b1:(a0_3 !=0)=false:=zY o
 clear o
 by_cases b:(l0_4.length:Int)=(l0_5.length:Int)
 ·(
 rw[if_pos b]at H
 have c23b0:((l0_4.length:Int)==(l0_5.length:Int))=true:=zE b
 have c23b1:((l0_4.length:Int) !=(l0_5.length:Int))=false:=zY b
 have c23b2:(l0_4.length==l0_5.length)=true:=by first|simpa using b|(simp at b ⊢;omega)
 clear b
 obtain⟨W,K,H⟩:=sO H
 by_cases A:W=true
 ·(
 subst A
 rewrite[if_pos rfl]at H
 obtain⟨X,M,H⟩:=sO H
 by_cases B:X=true
 ·(
 subst B
 rewrite[if_pos rfl]at H
 obtain⟨Y,Z,H⟩:=sO H
 obtain rfl:=zI H
 obtain⟨cf,cg,ch,ci,cj,ck,cl,cm,cn,co,cp,cq,cr,ct,cu,cv,cw,cx,cy,cz⟩:=cells10 a.out
 go_wp2_with (first|(go_at_call 83;(with_reducible refine(spec_l07ValidValues.calls kj1 _ _ l0_4 30 true _ ?side1 ?side2 K.out).mono ?_);(case side1=>exact sD (zC j.out HB.out));(case side2=>exact l.out);rintro e cA ⟨rfl,hb⟩;replace a:=sK a hb;replace HB:=sB HB hb;(try clear hb);obtain⟨cB,cC,cD,cE,cF,cG,cH,cI,cJ,cK,cL,cM,cN,cO,cP,cQ,cR,cS,cT,cU⟩:=cells10 a.out)|(go_at_call 84;(with_reducible refine(spec_l07Distinct.calls kj1 _ _ l0_4 true _ ?side1 ?side2 M.out).mono ?_);(case side1=>exact sD (zC j.out HB.out));(case side2=>exact l.out);rintro e cV ⟨rfl,hb⟩;replace a:=sK a hb;replace HB:=sB HB hb;(try clear hb);obtain⟨cW,cX,cY,cZ,c0,c1,c2,c3,c4,c6,c7,c8,c9,da,db,dc,dd,de,df,dg⟩:=cells10 a.out)|(go_at_call 85;(with_reducible refine(spec_ValidValue.calls kj1 a0_6 a0_7 a0_8 a0_9 Y _ Z.out).mono ?_);rintro e dh ⟨rfl,hb⟩;replace a:=sK a hb;replace HB:=sB HB hb;(try clear hb)))
 go_ret
 exact⟨sq,sb⟩)
 replace B:=zB B
 subst B
 rewrite[if_neg zQ]at H
 obtain rfl:=zI H
 obtain⟨di,dj,dk,dl,dm,dn,dp,dq,dr,ds,dt,du,dv,dw,dx,dy,dz,dA,dB,dC⟩:=cells10 a.out
 go_wp2_with (first|(go_at_call 83;(with_reducible refine(spec_l07ValidValues.calls kj1 _ _ l0_4 30 true _ ?side1 ?side2 K.out).mono ?_);(case side1=>exact sD (zC j.out HB.out));(case side2=>exact l.out);rintro e dD ⟨rfl,hb⟩;replace a:=sK a hb;replace HB:=sB HB hb;(try clear hb);obtain⟨dE,dF,dG,dH,dI,dJ,dK,dL,dM,dN,dO,dP,dQ,dR,dS,dT,dU,dV,dW,dX⟩:=cells10 a.out)|(go_at_call 84;(with_reducible refine(spec_l07Distinct.calls kj1 _ _ l0_4 false _ ?side1 ?side2 M.out).mono ?_);(case side1=>exact sD (zC j.out HB.out));(case side2=>exact l.out);rintro e dY ⟨rfl,hb⟩;replace a:=sK a hb;replace HB:=sB HB hb;(try clear hb)))
 go_ret
 exact⟨sq,sb⟩)
 replace A:=zB A
 subst A
 rewrite[if_neg zQ]at H
 obtain rfl:=zI H
 obtain⟨dZ,d0,d1,d2,d3,d4,d5,d6,d7,d8,d9,ea,eb,ec,ed,ee,ef,eg,eh,ei⟩:=cells10 a.out
 go_wp2_with (first|(go_at_call 83;(with_reducible refine(spec_l07ValidValues.calls kj1 _ _ l0_4 30 false _ ?side1 ?side2 K.out).mono ?_);(case side1=>exact sD (zC j.out HB.out));(case side2=>exact l.out);rintro e ej ⟨rfl,hb⟩;replace a:=sK a hb;replace HB:=sB HB hb;(try clear hb)))
 go_ret
 exact⟨sq,sb⟩)
 rw[if_neg b]at H
 have c23b0:((l0_4.length:Int)==(l0_5.length:Int))=false:=zN b
 have c23b1:((l0_4.length:Int) !=(l0_5.length:Int))=true:=zX b
 have c23b2:(l0_4.length==l0_5.length)=false:=by first|simpa using b|(simp at b ⊢;omega)
 obtain rfl:=zI H
 obtain⟨ek,el,em,en,eo,ep,er,es,et,eu,ev,ew,ex,ey,ez,eA,eB,eC,eD,eE⟩:=cells10 a.out
 go_wp2
 go_ret
 exact⟨sq,sb⟩)
 rw[if_neg o]at H
 have c22b0:(a0_3==0)=false:=zN o
 have c22b1:(a0_3 !=0)=true:=zX o
 obtain rfl:=zI H
 obtain⟨eF,eG,eH,eI,eJ,eK,eL,eM,eN,eO,eP,eQ,eR,eS,eT,eU,eV,eW,eX,eY⟩:=cells10 a.out
 go_wp2
 go_ret
 exact⟨sq,sb⟩)
 rw[if_neg g]at H
 have c21b0:(a0_2.toList==([]:List UInt8))=false:=zN g
 have c21b1:(a0_2.toList !=([]:List UInt8))=true:=zX g
 have c21b2:a0_2.toList.isEmpty=false:=by simpa using g
 obtain rfl:=zI H
 obtain⟨eZ,e0,e1,e2,e3,e4,e5,e6,e7,e8,e9,fa,fb,fc,fd,fe,ff,fg,fh,fi⟩:=cells10 a.out
 go_wp2
 go_ret
 exact⟨sq,sb⟩)
 rw[if_neg n]at H
 have c20b0:(a0_1==2)=false:=zN n
 have c20b1:(a0_1 !=2)=true:=zX n
 by_cases p:a0_1=3
 ·(
 rw[if_pos p]at H
 have c44b0:(a0_1==3)=true:=zE p
 have c44b1:(a0_1 !=3)=false:=zY p
 clear p
 obtain⟨aa,s,H⟩:=sO H
 by_cases D:aa=true
 ·(
 subst D
 rewrite[if_pos rfl]at H
 by_cases q:a0_3=0
 ·(
 rw[if_pos q]at H
 have c47b0:(a0_3==0)=true:=zE q
 have c47b1:(a0_3 !=0)=false:=zY q
 clear q
 by_cases c:(l0_4.length:Int)=(l0_5.length:Int)
 ·(
 rw[if_pos c]at H
 have c48b0:((l0_4.length:Int)==(l0_5.length:Int))=true:=zE c
 have c48b1:((l0_4.length:Int) !=(l0_5.length:Int))=false:=zY c
 have c48b2:(l0_4.length==l0_5.length)=true:=by first|simpa using c|(simp at c ⊢;omega)
 clear c
 obtain⟨ab,O,H⟩:=sO H
 by_cases E:ab=true
 ·(
 subst E
 rewrite[if_pos rfl]at H
 obtain rfl:=zI H
 obtain⟨fj,fk,fl,fm,fn,fo,fp,fq,fr,fs,ft,fu,fv,fw,fx,fy,fz,fA,fB,fC⟩:=cells10 a.out
 go_wp2_with (first|((with_reducible refine gate_callee (f:=86) rfl ?_);refine sC (some 75) Try.func86 #[.string a0_2] (spec_IsName.calls kj1 a0_2 true _ s.out) ?_;rintro e w' ⟨rfl,⟨nd,rfl⟩⟩;refine⟨_,rfl,?_⟩)|(go_at_call 87;(with_reducible refine(spec_l07FieldNames.calls kj1 _ _ l0_4 true _ ?side1 ?side2 O.out).mono ?_);(case side1=>exact sD (zC j.out zzR));(case side2=>exact l.out);rintro e fD ⟨rfl,hb⟩;replace a:=sK a hb;replace HB:=sB HB hb;(try clear hb);obtain⟨fE,fF,fG,fH,fI,fJ,fK,fL,fM,fN,fO,fP,fQ,fR,fS,fT,fU,fV,fW,fX⟩:=cells10 a.out))
 go_ret
 exact⟨sq,sb⟩)
 replace E:=zB E
 subst E
 rewrite[if_neg zQ]at H
 obtain rfl:=zI H
 obtain⟨fY,fZ,f0,f1,f2,f3,f4,f5,f6,f7,f8,f9,ga,gb,gc,gd,gf,gg,gh,gi⟩:=cells10 a.out
 go_wp2_with (first|((with_reducible refine gate_callee (f:=86) rfl ?_);refine sC (some 75) Try.func86 #[.string a0_2] (spec_IsName.calls kj1 a0_2 true _ s.out) ?_;rintro e w' ⟨rfl,⟨nd,rfl⟩⟩;refine⟨_,rfl,?_⟩)|(go_at_call 87;(with_reducible refine(spec_l07FieldNames.calls kj1 _ _ l0_4 false _ ?side1 ?side2 O.out).mono ?_);(case side1=>exact sD (zC j.out zzR));(case side2=>exact l.out);rintro e gj ⟨rfl,hb⟩;replace a:=sK a hb;replace HB:=sB HB hb;(try clear hb)))
 go_ret
 exact⟨sq,sb⟩)
 rw[if_neg c]at H
 have c48b0:((l0_4.length:Int)==(l0_5.length:Int))=false:=zN c
 have c48b1:((l0_4.length:Int) !=(l0_5.length:Int))=true:=zX c
 have c48b2:(l0_4.length==l0_5.length)=false:=by first|simpa using c|(simp at c ⊢;omega)
 obtain rfl:=zI H
 obtain⟨gk,gl,gm,gn,go,gp,gq,gr,gs,gu,gv,gw,gx,gy,gz,gA,gB,gC,gD,gE⟩:=cells10 a.out
 go_wp2_with (first|((with_reducible refine gate_callee (f:=86) rfl ?_);refine sC (some 75) Try.func86 #[.string a0_2] (spec_IsName.calls kj1 a0_2 true _ s.out) ?_;rintro e w' ⟨rfl,⟨nd,rfl⟩⟩;refine⟨_,rfl,?_⟩))
 go_ret
 exact⟨sq,sb⟩)
 rw[if_neg q]at H
 have c47b0:(a0_3==0)=false:=zN q
 have c47b1:(a0_3 !=0)=true:=zX q
 obtain rfl:=zI H
 obtain⟨gF,gG,gH,gI,gJ,gK,gL,gM,gN,gO,gP,gQ,gR,gS,gT,gU,gV,gW,gX,gY⟩:=cells10 a.out
 go_wp2_with (first|((with_reducible refine gate_callee (f:=86) rfl ?_);refine sC (some 75) Try.func86 #[.string a0_2] (spec_IsName.calls kj1 a0_2 true _ s.out) ?_;rintro e w' ⟨rfl,⟨nd,rfl⟩⟩;refine⟨_,rfl,?_⟩))
 go_ret
 exact⟨sq,sb⟩)
 replace D:=zB D
 subst D
 rewrite[if_neg zQ]at H
 obtain rfl:=zI H
 obtain⟨gZ,g0,g1,g2,g3,g4,g5,g6,g7,g8,g9,ha,hc,hd,he,hf,hh,hi,hj,hk⟩:=cells10 a.out
 go_wp2_with (first|((with_reducible refine gate_callee (f:=86) rfl ?_);refine sC (some 75) Try.func86 #[.string a0_2] (spec_IsName.calls kj1 a0_2 false _ s.out) ?_;rintro e w' ⟨rfl,⟨nd,rfl⟩⟩;refine⟨_,rfl,?_⟩))
 go_ret
 exact⟨sq,sb⟩)
 rw[if_neg p]at H
 have c44b0:(a0_1==3)=false:=zN p
 have c44b1:(a0_1 !=3)=true:=zX p
 obtain rfl:=zI H
 obtain⟨hl,hm,hn,ho,hp,hq,hr,hs,ht,hu,hv,hw,hx,hy,hz,hA,hB,hC,hD,hE⟩:=cells10 a.out
 go_wp2
 go_ret
 exact⟨sq,sb⟩))
end
end Go.Proofs.Ytengilknjiobiaa.PFnExactRefsOf
