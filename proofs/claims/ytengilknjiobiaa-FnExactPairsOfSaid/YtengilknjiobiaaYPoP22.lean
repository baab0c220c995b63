/- Printed functions: impl_objectKind, impl_Heap_fits, impl_Value__impl_Heap_fits, impl_ValidHeap_1. -/
import Derived.Test.YtengilknjiobiaaYPoP0
import Derived.Test.YtengilknjiobiaaYPoP14
import Derived.Test.YtengilknjiobiaaYPoP20
import Derived.Test.YtengilknjiobiaaYPoP21
namespace Go.Proofs.Ytengilknjiobiaa.PFnExactPairsOf
open Go.RowKit Go.Proofs.YtengilknjiobiaaG Go.Proofs.YtengilknjiobiaaW.PrintWords Go.Proofs.YtengilknjiobiaaW.PrintLast Go.Proofs.YtengilknjiobiaaW.PrintMore
attribute [local go_sem] max2_int min2_int max_two min_two max_three min_three max_four min_four
set_option linter.unusedVariables false
set_option linter.unusedSimpArgs false
def impl_objectKind.f (a0:Int):Option (Int):=some (wrap64 ((wrap64 (a0- 4))+1))
set_option maxHeartbeats 8000000 in
set_option maxRecDepth 100000 in
theorem impl_objectKind.calls (a0:Int) (r:Int) (w:World) (h:impl_objectKind.f a0=some r):
  Calls Try.prog 109 #[.int .i64 a0] w fun e w'=>e= .returned (.int .i64 r)∧Drawn0 w w':=by
 have H:(some (wrap64 ((wrap64 (a0- 4))+1)))=some r:=h
 clear h
 obtain rfl:=zI H
 go_enter Try.func109,Try.ntmps109
 go_wp2
 go_ret
 exact⟨by first|rfl|(simp;done)|(simp[*];done),by repeat(first|exact Drawn0.refl _|apply Drawn0.step)⟩
def impl_Heap_fits.j0 : Nat → Bool → Int → List (S56) → Int → Int → ByteArray → Int → Option (Bool)
 |0,_,_,_,_,_,_,_=>none
 |k+1,x14,x353000,x353001,x354000,x354001,x354002,x354003=>if x14=true then((impl_ValidValue.f k x354000 x354001 x354002 x354003).bind fun t356=>(some t356))else((impl_Heap_find.f k x353000 x353001 x354003).bind fun t357=>(if t357≥0 then(if 0≤t357 then(if t357<(x353001.length:Int)then((impl_objectKind.f x354000).bind fun t359=>(some (((rd_T56 x353001 t357).f1)==t359)))else(none))else(none))else(some false)))
def impl_Heap_fits.f (k:Nat) (a0_0:Int) (l0_1:List (S56)) (a1_0:Int) (a1_1:Int) (a1_2:ByteArray) (a1_3:Int):Option (Bool):=(impl_ValidValue.f k a1_0 a1_1 a1_2 a1_3).bind fun t354=>(if t354=true then((impl_refers.f a1_0).bind fun t355=>(impl_Heap_fits.j0 k (!t355) a0_0 l0_1 a1_0 a1_1 a1_2 a1_3))else(impl_Heap_fits.j0 k true a0_0 l0_1 a1_0 a1_1 a1_2 a1_3))
set_option maxHeartbeats 8000000 in
set_option maxRecDepth 100000 in
theorem impl_Heap_fits.calls (k:Nat) (a0_0:Int) (A0_1:Option Addr) (c0_1:Nat) (l0_1:List (S56)) (a1_0:Int) (a1_1:Int) (a1_2:ByteArray) (a1_3:Int) (r:Bool) (w:World) (hr0_1:Kd.C k56 w A0_1 l0_1.length l0_1) (hc0_1:l0_1.length≤c0_1) (h:impl_Heap_fits.f k a0_0 l0_1 a1_0 a1_1 a1_2 a1_3=some r):
  Calls Try.prog 81 #[.agg #[.int .i64 a0_0,.slice A0_1 l0_1.length c0_1],.agg #[.int .i64 a1_0,.int .i64 a1_1,.string a1_2,.int .i64 a1_3]] w fun e w'=>e= .returned (.bool r)∧Below w.heap.size w w':=by
 have aV:=Try.underlying34
 have aW:=Try.underlying29
 have l:=zM hr0_1
 have L:=zM hc0_1
 clear hr0_1 hc0_1
 have HB:=zM (Below.refl w.heap.size w)
 have H:((impl_ValidValue.f k a1_0 a1_1 a1_2 a1_3).bind fun Y=>(if Y=true then((impl_refers.f a1_0).bind fun M=>(impl_Heap_fits.j0 k (!M) a0_0 l0_1 a1_0 a1_1 a1_2 a1_3))else(impl_Heap_fits.j0 k true a0_0 l0_1 a1_0 a1_1 a1_2 a1_3)))=some r:=h
 clear h
 have Z:=zM H
 clear H
 go_enter Try.func81,Try.ntmps81
 go_upto_region 1 with(first|((with_reducible refine gate_dst (N:=2) rfl ?_);refine sV (N:=2) (cs:= #[.int .i64 a0_0,.slice A0_1 l0_1.length c0_1]) (t:=34) ?_;intro aa hg w4 hbox hb;have a:=zM (hbox);have ag:=sG HB hg;have ah:=sG HB hg;replace HB:=sB HB hb;clear hb hbox hg)|((with_reducible refine gate_dst (N:=3) rfl ?_);refine sV (N:=3) (cs:= #[.int .i64 a1_0,.int .i64 a1_1,.string a1_2,.int .i64 a1_3]) (t:=29) ?_;intro ab hg w5 hbox hb;have b:=zM (hbox);have ai:=sG HB hg;have aj:=sG HB hg;replace HB:=sB HB hb;have I:=sN a hg;have J:=sM a hg;replace a:=sK a hb;clear hb hbox hg))
 repeat(go_quiet (first|((with_reducible refine gate_dst (N:=2) rfl ?_);refine sV (N:=2) (cs:= #[.int .i64 a0_0,.slice A0_1 l0_1.length c0_1]) (t:=34) ?_;intro aa hg w4 hbox hb;have a:=zM (hbox);have ag:=sG HB hg;have ah:=sG HB hg;replace HB:=sB HB hb;clear hb hbox hg)|((with_reducible refine gate_dst (N:=3) rfl ?_);refine sV (N:=3) (cs:= #[.int .i64 a1_0,.int .i64 a1_1,.string a1_2,.int .i64 a1_3]) (t:=29) ?_;intro ab hg w5 hbox hb;have b:=zM (hbox);have ai:=sG HB hg;have aj:=sG HB hg;replace HB:=sB HB hb;have I:=sN a hg;have J:=sM a hg;replace a:=sK a hb;clear hb hbox hg));go_upto_region 1 with(first|((with_reducible refine gate_dst (N:=2) rfl ?_);refine sV (N:=2) (cs:= #[.int .i64 a0_0,.slice A0_1 l0_1.length c0_1]) (t:=34) ?_;intro aa hg w4 hbox hb;have a:=zM (hbox);have ag:=sG HB hg;have ah:=sG HB hg;replace HB:=sB HB hb;clear hb hbox hg)|((with_reducible refine gate_dst (N:=3) rfl ?_);refine sV (N:=3) (cs:= #[.int .i64 a1_0,.int .i64 a1_1,.string a1_2,.int .i64 a1_3]) (t:=29) ?_;intro ab hg w5 hbox hb;have b:=zM (hbox);have ai:=sG HB hg;have aj:=sG HB hg;replace HB:=sB HB hb;have I:=sN a hg;have J:=sM a hg;replace a:=sK a hb;clear hb hbox hg)))
 (try simp only[zP])
 go_cut [14] (fun aU wc=>∃(kq:Nat) (T:Bool),aU= .bool T∧Aside0 (impl_Heap_fits.j0 kq T a0_0 l0_1 a1_0 a1_1 a1_2 a1_3=some r)∧Aside0 (kq≤k)∧Aside0 (wc.heap[aa]?=some (.cells #[.int .i64 a0_0,(.slice A0_1 l0_1.length c0_1)] 34 (0,0)))∧Aside0 (wc.heap[ab]?=some (.cells #[.int .i64 a1_0,.int .i64 a1_1,.string a1_2,.int .i64 a1_3] 29 (0,0)))∧Aside0 (Below w.heap.size w wc))
 case first=>(
 have H:=Z.out
 clear Z
 obtain⟨Y,O,H⟩:=sO H
 by_cases U:Y=true
 ·(
 subst U
 rewrite[if_pos rfl]at H
 obtain⟨M,A8,H⟩:=sO H
 have H':=zM H
 clear H
 have aX:=J.out
 have aY:=I.out
 obtain⟨aZ,a1,a2,a3,a4,a5,a6,a7⟩:=cells4 b.out
 go_wp2_with (first|(go_at_call 90;(with_reducible refine(impl_ValidValue.calls k a1_0 a1_1 a1_2 a1_3 true _ O.out).mono ?_);rintro e ak ⟨rfl,hb⟩;replace a:=sK a hb;replace b:=sK b hb;replace HB:=sB HB hb;(try clear hb);obtain⟨al,am,an,ao,ap,aq,ar,au⟩:=cells4 b.out)|(go_at_call 57;(with_reducible refine(impl_refers.calls a1_0 M _ A8.out).mono ?_);rintro e w' ⟨rfl,⟨nd,rfl⟩⟩;(try first|exact⟨rfl,_,World.drewN_drewN _ _ _⟩|exact⟨rfl,_,Eq.trans (World.drewN_drewN _ _ _) (congrArg (World.drewN _) (Nat.add_assoc _ _ _))⟩)))
 repeat(go_quiet (first|(go_at_call 90;(with_reducible refine(impl_ValidValue.calls k a1_0 a1_1 a1_2 a1_3 true _ O.out).mono ?_);rintro e ak ⟨rfl,hb⟩;replace a:=sK a hb;replace b:=sK b hb;replace HB:=sB HB hb;(try clear hb);obtain⟨al,am,an,ao,ap,aq,ar,au⟩:=cells4 b.out)|(go_at_call 57;(with_reducible refine(impl_refers.calls a1_0 M _ A8.out).mono ?_);rintro e w' ⟨rfl,⟨nd,rfl⟩⟩;(try first|exact⟨rfl,_,World.drewN_drewN _ _ _⟩|exact⟨rfl,_,Eq.trans (World.drewN_drewN _ _ _) (congrArg (World.drewN _) (Nat.add_assoc _ _ _))⟩)));try go_wp2_with (first|(go_at_call 90;(with_reducible refine(impl_ValidValue.calls k a1_0 a1_1 a1_2 a1_3 true _ O.out).mono ?_);rintro e ak ⟨rfl,hb⟩;replace a:=sK a hb;replace b:=sK b hb;replace HB:=sB HB hb;(try clear hb);obtain⟨al,am,an,ao,ap,aq,ar,au⟩:=cells4 b.out)|(go_at_call 57;(with_reducible refine(impl_refers.calls a1_0 M _ A8.out).mono ?_);rintro e w' ⟨rfl,⟨nd,rfl⟩⟩;(try first|exact⟨rfl,_,World.drewN_drewN _ _ _⟩|exact⟨rfl,_,Eq.trans (World.drewN_drewN _ _ _) (congrArg (World.drewN _) (Nat.add_assoc _ _ _))⟩))))
 go_meet
 case rel=>exact⟨_,(!M),sr,H',⟨by first|omega|exact Nat.le_refl _⟩,⟨by exact sT a.out⟩,⟨by exact sT b.out⟩,⟨sb⟩⟩)
 replace U:=zB U
 subst U
 rewrite[if_neg zQ]at H
 have H':=zM H
 clear H
 have a8:=J.out
 have a9:=I.out
 obtain⟨ba,bb,bc,bd,be,bf,bg,bh⟩:=cells4 b.out
 go_wp2_with (first|(go_at_call 90;(with_reducible refine(impl_ValidValue.calls k a1_0 a1_1 a1_2 a1_3 false _ O.out).mono ?_);rintro e av ⟨rfl,hb⟩;replace a:=sK a hb;replace b:=sK b hb;replace HB:=sB HB hb;(try clear hb)))
 repeat(go_quiet (first|(go_at_call 90;(with_reducible refine(impl_ValidValue.calls k a1_0 a1_1 a1_2 a1_3 false _ O.out).mono ?_);rintro e av ⟨rfl,hb⟩;replace a:=sK a hb;replace b:=sK b hb;replace HB:=sB HB hb;(try clear hb)));try go_wp2_with (first|(go_at_call 90;(with_reducible refine(impl_ValidValue.calls k a1_0 a1_1 a1_2 a1_3 false _ O.out).mono ?_);rintro e av ⟨rfl,hb⟩;replace a:=sK a hb;replace b:=sK b hb;replace HB:=sB HB hb;(try clear hb))))
 go_meet
 case rel=>exact⟨_,(true),sr,H',⟨by first|omega|exact Nat.le_refl _⟩,⟨by exact sT a.out⟩,⟨by exact sT b.out⟩,⟨sb⟩⟩)
 case rest=>(
 clear Z
 obtain⟨kq,T,rfl,HA,bi,a,b,HB⟩:=hcut
 cases kq with
 |zero=>exact absurd HA.out (by simp[impl_Heap_fits.j0])
 |succ kj2=>(
 have H:=HA.out
 clear HA
 simp only[impl_Heap_fits.j0]at H
 by_cases V:T=true
 ·(
 subst V
 rewrite[if_pos rfl]at H
 obtain⟨ac,ad,H⟩:=sO H
 obtain rfl:=zI H
 have bj:=J.out
 have bk:=I.out
 obtain⟨bl,bm,bn,bo,bp,bq,br,bs⟩:=cells4 b.out
 go_wp2_with (first|(go_at_call 90;(with_reducible refine(impl_ValidValue.calls kj2 a1_0 a1_1 a1_2 a1_3 ac _ ad.out).mono ?_);rintro e aw ⟨rfl,hb⟩;replace a:=sK a hb;replace b:=sK b hb;replace HB:=sB HB hb;(try clear hb)))
 repeat(go_quiet (first|(go_at_call 90;(with_reducible refine(impl_ValidValue.calls kj2 a1_0 a1_1 a1_2 a1_3 ac _ ad.out).mono ?_);rintro e aw ⟨rfl,hb⟩;replace a:=sK a hb;replace b:=sK b hb;replace HB:=sB HB hb;(try clear hb)));try go_wp2_with (first|(go_at_call 90;(with_reducible refine(impl_ValidValue.calls kj2 a1_0 a1_1 a1_2 a1_3 ac _ ad.out).mono ?_);rintro e aw ⟨rfl,hb⟩;replace a:=sK a hb;replace b:=sK b hb;replace HB:=sB HB hb;(try clear hb))))
 go_ret
 exact⟨sq,sb⟩)
 replace V:=zB V
 subst V
 rewrite[if_neg zQ]at H
 obtain⟨c,P,H⟩:=sO H
 by_cases Q:c≥0
 ·(
 rw[if_pos Q]at H
 have c22b0:decide (0≤c)=true:=zT Q
 clear Q
 by_cases W:0≤c
 ·(
 rw[if_pos W]at H
 have c23b0:=zT W
 clear W
 by_cases X:c<(l0_1.length:Int)
 ·(
 rw[if_pos X]at H
 have c24b0:=zT X
 clear X
 obtain⟨ae,af,H⟩:=sO H
 obtain rfl:=zI H
 have bt:=I.out
 have bu:=J.out
 obtain⟨bv,bw,bx,bz⟩:=cells2 a.out
 obtain⟨bA,bB,bC,bD,bE,bF,bG,bH⟩:=cells4 b.out
 go_wp2_with (first|(go_at_call 78;(with_reducible refine(impl_Heap_find.calls kj2 a0_0 _ _ l0_1 a1_3 c _ ?side1 ?side2 P.out).mono ?_);(case side1=>exact sD (zC l.out HB.out));(case side2=>exact L.out);rintro e ax ⟨rfl,hb⟩;replace a:=sK a hb;replace b:=sK b hb;replace HB:=sB HB hb;(try clear hb);obtain⟨ay,az,aA,aB⟩:=cells2 a.out;have d:0≤(c:Int):=zzA;have j:c<(l0_1.length:Int):=zzA;obtain⟨aC,aD,aE,aF,aG,R,m,p,q,s,u,x,y,z,A,B,D,E,F,G⟩:=at_T56 l.out c d j;cases R;replace m:=sX HB m;replace p:=sX HB p;replace q:=sX HB q;replace s:=sX HB s;replace u:=sX HB u;replace x:=sX HB x;replace y:=sX HB y;replace z:=sX HB z;replace A:=sX HB A;replace B:=sX HB B;have aH:=zM E;have aI:=zM D;clear E D;have aJ:=zM G;have aK:=zM F;clear G F;replace d:=eq_true d;replace j:=eq_true j;obtain⟨aL,aM,aN,aO,aP,aQ,aR,aS⟩:=cells4 b.out)|(go_at_call 109;(with_reducible refine(impl_objectKind.calls a1_0 ae _ af.out).mono ?_);rintro e w' ⟨rfl,⟨nd,rfl⟩⟩;(try first|exact⟨rfl,_,World.drewN_drewN _ _ _⟩|exact⟨rfl,_,Eq.trans (World.drewN_drewN _ _ _) (congrArg (World.drewN _) (Nat.add_assoc _ _ _))⟩)))
 repeat(go_quiet (first|(go_at_call 78;(with_reducible refine(impl_Heap_find.calls kj2 a0_0 _ _ l0_1 a1_3 c _ ?side1 ?side2 P.out).mono ?_);(case side1=>exact sD (zC l.out HB.out));(case side2=>exact L.out);rintro e ax ⟨rfl,hb⟩;replace a:=sK a hb;replace b:=sK b hb;replace HB:=sB HB hb;(try clear hb);obtain⟨ay,az,aA,aB⟩:=cells2 a.out;have d:0≤(c:Int):=zzA;have j:c<(l0_1.length:Int):=zzA;obtain⟨aC,aD,aE,aF,aG,R,m,p,q,s,u,x,y,z,A,B,D,E,F,G⟩:=at_T56 l.out c d j;cases R;replace m:=sX HB m;replace p:=sX HB p;replace q:=sX HB q;replace s:=sX HB s;replace u:=sX HB u;replace x:=sX HB x;replace y:=sX HB y;replace z:=sX HB z;replace A:=sX HB A;replace B:=sX HB B;have aH:=zM E;have aI:=zM D;clear E D;have aJ:=zM G;have aK:=zM F;clear G F;replace d:=eq_true d;replace j:=eq_true j;obtain⟨aL,aM,aN,aO,aP,aQ,aR,aS⟩:=cells4 b.out)|(go_at_call 109;(with_reducible refine(impl_objectKind.calls a1_0 ae _ af.out).mono ?_);rintro e w' ⟨rfl,⟨nd,rfl⟩⟩;(try first|exact⟨rfl,_,World.drewN_drewN _ _ _⟩|exact⟨rfl,_,Eq.trans (World.drewN_drewN _ _ _) (congrArg (World.drewN _) (Nat.add_assoc _ _ _))⟩)));try go_wp2_with (first|(go_at_call 78;(with_reducible refine(impl_Heap_find.calls kj2 a0_0 _ _ l0_1 a1_3 c _ ?side1 ?side2 P.out).mono ?_);(case side1=>exact sD (zC l.out HB.out));(case side2=>exact L.out);rintro e ax ⟨rfl,hb⟩;replace a:=sK a hb;replace b:=sK b hb;replace HB:=sB HB hb;(try clear hb);obtain⟨ay,az,aA,aB⟩:=cells2 a.out;have d:0≤(c:Int):=zzA;have j:c<(l0_1.length:Int):=zzA;obtain⟨aC,aD,aE,aF,aG,R,m,p,q,s,u,x,y,z,A,B,D,E,F,G⟩:=at_T56 l.out c d j;cases R;replace m:=sX HB m;replace p:=sX HB p;replace q:=sX HB q;replace s:=sX HB s;replace u:=sX HB u;replace x:=sX HB x;replace y:=sX HB y;replace z:=sX HB z;replace A:=sX HB A;replace B:=sX HB B;have aH:=zM E;have aI:=zM D;clear E D;have aJ:=zM G;have aK:=zM F;clear G F;replace d:=eq_true d;replace j:=eq_true j;obtain⟨aL,aM,aN,aO,aP,aQ,aR,aS⟩:=cells4 b.out)|(go_at_call 109;(with_reducible refine(impl_objectKind.calls a1_0 ae _ af.out).mono ?_);rintro e w' ⟨rfl,⟨nd,rfl⟩⟩;(try first|exact⟨rfl,_,World.drewN_drewN _ _ _⟩|exact⟨rfl,_,Eq.trans (World.drewN_drewN _ _ _) (congrArg (World.drewN _) (Nat.add_assoc _ _ _))⟩))))
 go_ret
 exact⟨sq,sb⟩)
 rw[if_neg X]at H
 exact absurd H (by simp))
 rw[if_neg W]at H
 exact absurd H (by simp))
 rw[if_neg Q]at H
 have c22b0:decide (0≤c)=false:=zF Q
 clear Q
 obtain rfl:=zI H
 have bI:=I.out
 have bJ:=J.out
 obtain⟨bK,bL,bM,bN⟩:=cells2 a.out
 obtain⟨bO,bP,bQ,bR,bS,bT,bU,bV⟩:=cells4 b.out
 go_wp2_with (first|(go_at_call 78;(with_reducible refine(impl_Heap_find.calls kj2 a0_0 _ _ l0_1 a1_3 c _ ?side1 ?side2 P.out).mono ?_);(case side1=>exact sD (zC l.out HB.out));(case side2=>exact L.out);rintro e aT ⟨rfl,hb⟩;replace a:=sK a hb;replace b:=sK b hb;replace HB:=sB HB hb;(try clear hb)))
 repeat(go_quiet (first|(go_at_call 78;(with_reducible refine(impl_Heap_find.calls kj2 a0_0 _ _ l0_1 a1_3 c _ ?side1 ?side2 P.out).mono ?_);(case side1=>exact sD (zC l.out HB.out));(case side2=>exact L.out);rintro e aT ⟨rfl,hb⟩;replace a:=sK a hb;replace b:=sK b hb;replace HB:=sB HB hb;(try clear hb)));try go_wp2_with (first|(go_at_call 78;(with_reducible refine(impl_Heap_find.calls kj2 a0_0 _ _ l0_1 a1_3 c _ ?side1 ?side2 P.out).mono ?_);(case side1=>exact sD (zC l.out HB.out));(case side2=>exact L.out);rintro e aT ⟨rfl,hb⟩;replace a:=sK a hb;replace b:=sK b hb;replace HB:=sB HB hb;(try clear hb))))
 go_ret
 exact⟨sq,sb⟩))
def impl_Value__impl_Heap_fits.l0 (a1_0 : Int) (l1_1 : List (S56)) : Nat → List (S29) → Int → Int → Option (Bool)
 |0,_,_,_=>none
 |k+1,x7,x8,x9=>if x9<x8 then(if 0≤x9 then(if x9<(x7.length:Int)then((impl_Heap_fits.f k a1_0 l1_1 ((rd_T29 x7 x9).f0) ((rd_T29 x7 x9).f1) ((rd_T29 x7 x9).f2) ((rd_T29 x7 x9).f3)).bind fun t362=>(if t362=true then(impl_Value__impl_Heap_fits.l0 a1_0 l1_1 k x7 x8 (wrap64 (x9+1)))else(some false)))else(none))else(none))else(some true)
def impl_Value__impl_Heap_fits.f (k:Nat) (l0:List (S29)) (a1_0:Int) (l1_1:List (S56)):Option (Bool):=impl_Value__impl_Heap_fits.l0 a1_0 l1_1 k l0 (l0.length:Int) 0
set_option maxHeartbeats 8000000 in
set_option maxRecDepth 100000 in
theorem impl_Value__impl_Heap_fits.calls (k:Nat) (A0:Option Addr) (c0:Nat) (l0:List (S29)) (a1_0:Int) (A1_1:Option Addr) (c1_1:Nat) (l1_1:List (S56)) (r:Bool) (w:World) (hr0:Kd.C k29 w A0 l0.length l0) (hc0:l0.length≤c0) (hr1_1:Kd.C k56 w A1_1 l1_1.length l1_1) (hc1_1:l1_1.length≤c1_1) (h:impl_Value__impl_Heap_fits.f k l0 a1_0 l1_1=some r):
  Calls Try.prog 89 #[.slice A0 l0.length c0,.func (.func 81) #[.agg #[.int .i64 a1_0,.slice A1_1 l1_1.length c1_1]] #[]] w fun e w'=>e= .returned (.bool r)∧Below w.heap.size w w':=by
 have O:=Try.underlying29
 have B:=zM hr0
 have P:=zM hc0
 clear hr0 hc0
 have D:=zM hr1_1
 have E:=zM hc1_1
 clear hr1_1 hc1_1
 have HB:=zM (Below.refl w.heap.size w)
 have H:(impl_Value__impl_Heap_fits.l0 a1_0 l1_1 k l0 (l0.length:Int) 0)=some r:=h
 clear h
 have H':=zM H
 clear H
 go_enter Try.func89,Try.ntmps89
 go_wp2
 go_loopg [9] k (fun kq I w'=>∃(a:Int),I= .int .i64 a∧Aside0 (impl_Value__impl_Heap_fits.l0 a1_0 l1_1 kq l0 (l0.length:Int) a=some r)∧Aside0 (kq≤k)∧Aside0 (Below w.heap.size w w'))
 case atStart=>exact⟨(0),sr,H',⟨Nat.le_refl _⟩,⟨sb⟩⟩
 case round=>(
 clear H'
 obtain⟨a,rfl,HA,F,HB⟩:=hrel
 cases gk with
 |zero=>exact absurd HA.out (by simp[impl_Value__impl_Heap_fits.l0])
 |succ k1=>(
 have H:=HA.out
 clear HA
 simp only[impl_Value__impl_Heap_fits.l0]at H
 by_cases j:a<(l0.length:Int)
 ·(
 rw[if_pos j]at H
 have c3b0:=zT j
 clear j
 by_cases s:0≤a
 ·(
 rw[if_pos s]at H
 have c4b0:=zT s
 clear s
 by_cases u:a<(l0.length:Int)
 ·(
 rw[if_pos u]at H
 have c5b0:=zT u
 clear u
 obtain⟨J,G,H⟩:=sO H
 by_cases x:J=true
 ·(
 subst x
 rewrite[if_pos rfl]at H
 have H':=zM H
 clear H
 have b:0≤(a:Int):=zzA
 have c:a<(l0.length:Int):=zzA
 obtain⟨L,y,l,m,p,q⟩:=at_T29 B.out a b c
 cases y
 replace l:=sX HB l
 replace m:=sX HB m
 replace p:=sX HB p
 replace q:=sX HB q
 replace b:=eq_true b
 replace c:=eq_true c
 go_wp2_with (first|((with_reducible refine gate_dst (N:=6) rfl ?_);refine sV (N:=6) (cs:= #[.int .i64 0,.int .i64 0,.string (⟨#[]⟩:ByteArray),.int .i64 0]) (t:=29) ?_;intro z hg Q hbox hb;have d:=zM (hbox);have M:=sG HB hg;have A:=sG HB hg;replace HB:=sB HB hb;clear hb hbox hg;obtain⟨R,T,U,V,W,X,Y,Z⟩:=cells4 d.out)|(go_at_call 81;(with_reducible refine(impl_Heap_fits.calls k1 a1_0 _ _ l1_1 ((rd_T29 l0 a).f0) ((rd_T29 l0 a).f1) ((rd_T29 l0 a).f2) ((rd_T29 l0 a).f3) true _ ?side1 ?side2 G.out).mono ?_);(case side1=>exact zC D.out zzR);(case side2=>exact E.out);rintro e aa ⟨rfl,hb⟩;replace d:=zM (blk_below (g:=z) (o:= .cells #[.int .i64 ((rd_T29 l0 a).f0),.int .i64 ((rd_T29 l0 a).f1),.string ((rd_T29 l0 a).f2),.int .i64 ((rd_T29 l0 a).f3)] 29 (0,0)) (by exact sP4 (sT d.out)) hb);replace HB:=sB HB hb;(try clear hb)))
 go_roundg k1
 case measure=>have:=F.out;omega
 case rel=>exact⟨(wrap64 (a+1)),sr,H',⟨by have:=F.out;omega⟩,⟨sb⟩⟩)
 replace x:=zB x
 subst x
 rewrite[if_neg zQ]at H
 obtain rfl:=zI H
 have b:0≤(a:Int):=zzA
 have c:a<(l0.length:Int):=zzA
 obtain⟨L,y,l,m,p,q⟩:=at_T29 B.out a b c
 cases y
 replace l:=sX HB l
 replace m:=sX HB m
 replace p:=sX HB p
 replace q:=sX HB q
 replace b:=eq_true b
 replace c:=eq_true c
 go_wp2_with (first|((with_reducible refine gate_dst (N:=6) rfl ?_);refine sV (N:=6) (cs:= #[.int .i64 0,.int .i64 0,.string (⟨#[]⟩:ByteArray),.int .i64 0]) (t:=29) ?_;intro z hg ab hbox hb;have d:=zM (hbox);have M:=sG HB hg;have A:=sG HB hg;replace HB:=sB HB hb;clear hb hbox hg;obtain⟨ac,ad,ae,af,ag,ah,ai,aj⟩:=cells4 d.out)|(go_at_call 81;(with_reducible refine(impl_Heap_fits.calls k1 a1_0 _ _ l1_1 ((rd_T29 l0 a).f0) ((rd_T29 l0 a).f1) ((rd_T29 l0 a).f2) ((rd_T29 l0 a).f3) false _ ?side1 ?side2 G.out).mono ?_);(case side1=>exact zC D.out zzR);(case side2=>exact E.out);rintro e ak ⟨rfl,hb⟩;replace d:=zM (blk_below (g:=z) (o:= .cells #[.int .i64 ((rd_T29 l0 a).f0),.int .i64 ((rd_T29 l0 a).f1),.string ((rd_T29 l0 a).f2),.int .i64 ((rd_T29 l0 a).f3)] 29 (0,0)) (by exact sP4 (sT d.out)) hb);replace HB:=sB HB hb;(try clear hb)))
 go_ret
 exact⟨sq,sb⟩)
 rw[if_neg u]at H
 exact absurd H (by simp))
 rw[if_neg s]at H
 exact absurd H (by simp))
 rw[if_neg j]at H
 have c3b0:=zF j
 clear j
 obtain rfl:=zI H
 go_wp2
 go_ret
 exact⟨sq,sb⟩))
def impl_ValidHeap_1.f (k:Nat) (a0_0:Int) (a0_1:Int) (a0_2:ByteArray) (a0_3:Int) (l0_4:List (S29)) (l0_5:List (S29)) (a0_6:Int) (a0_7:Int) (a0_8:ByteArray) (a0_9:Int) (l1:List (S34)):Option (Bool):=(impl_Object_values.f k a0_0 a0_1 a0_2 a0_3 l0_4 l0_5 a0_6 a0_7 a0_8 a0_9).bind fun t364=>(if 0<(l1.length:Int)then((impl_Value__impl_Heap_fits.f k t364 ((rd_T34 l1 0).f0) ((rd_T34 l1 0).f1)).bind fun t368=>(some t368))else(none))
set_option maxHeartbeats 8000000 in
set_option maxRecDepth 100000 in
theorem impl_ValidHeap_1.calls (k:Nat) (a0_0:Int) (a0_1:Int) (a0_2:ByteArray) (a0_3:Int) (A0_4:Option Addr) (c0_4:Nat) (l0_4:List (S29)) (A0_5:Option Addr) (c0_5:Nat) (l0_5:List (S29)) (a0_6:Int) (a0_7:Int) (a0_8:ByteArray) (a0_9:Int) (A1:Option Addr) (l1:List (S34)) (r:Bool) (w:World) (hr0_4:Kd.C k29 w A0_4 l0_4.length l0_4) (hc0_4:l0_4.length≤c0_4) (hr0_5:Kd.C k29 w A0_5 l0_5.length l0_5) (hc0_5:l0_5.length≤c0_5) (hr1:Kd.C k34 w A1 l1.length l1) (h:impl_ValidHeap_1.f k a0_0 a0_1 a0_2 a0_3 l0_4 l0_5 a0_6 a0_7 a0_8 a0_9 l1=some r):
  Calls Try.prog 108 #[.agg #[.int .i64 a0_0,.int .i64 a0_1,.string a0_2,.int .i64 a0_3,.slice A0_4 l0_4.length c0_4,.slice A0_5 l0_5.length c0_5,.int .i64 a0_6,.int .i64 a0_7,.string a0_8,.int .i64 a0_9],.pointer A1] w fun e w'=>e= .returned (.bool r)∧Below w.heap.size w w':=by
 have ah:=Try.underlying56
 have ai:=Try.underlying34
 have O:=zM hr0_4
 have P:=zM hc0_4
 clear hr0_4 hc0_4
 have Q:=zM hr0_5
 have R:=zM hc0_5
 clear hr0_5 hc0_5
 have T:=zM hr1
 have aj:=zM (Nat.le_refl l1.length)
 clear hr1
 have HB:=zM (Below.refl w.heap.size w)
 have H:((impl_Object_values.f k a0_0 a0_1 a0_2 a0_3 l0_4 l0_5 a0_6 a0_7 a0_8 a0_9).bind fun j=>(if 0<(l1.length:Int)then((impl_Value__impl_Heap_fits.f k j ((rd_T34 l1 0).f0) ((rd_T34 l1 0).f1)).bind fun u=>(some u))else(none)))=some r:=h
 clear h
 obtain⟨j,U,H⟩:=sO H
 by_cases q:0<(l1.length:Int)
 ·(
 rw[if_pos q]at H
 have c4b0:=zT q
 have c4b1:decide (0<l1.length)=true:=zT (by omega)
 clear q
 obtain⟨u,V,H⟩:=sO H
 obtain rfl:=zI H
 go_enter Try.func108,Try.ntmps108
 try go_wp2_with (first|((with_reducible refine gate_dst (N:=2) rfl ?_);refine sV (N:=2) (cs:= #[.int .i64 a0_0,.int .i64 a0_1,.string a0_2,.int .i64 a0_3,.slice A0_4 l0_4.length c0_4,.slice A0_5 l0_5.length c0_5,.int .i64 a0_6,.int .i64 a0_7,.string a0_8,.int .i64 a0_9]) (t:=56) ?_;intro b hg W hbox hb;have a:=zM (hbox);have ak:=sG HB hg;have x:=sG HB hg;replace HB:=sB HB hb;clear hb hbox hg))
 replace a:=zM (blk_drew a.out)
 replace HB:=zM (below_drew1 HB.out)
 have y:0≤(0:Int):=(by omega)
 have z:0<(l1.length:Int):=zzA
 obtain⟨A,B,D,X,l,m,E,F⟩:=at_T34 T.out 0 y z
 have c:=m
 (try rw[sZ]at c)
 have d:=l
 (try rw[sZ]at d)
 cases X
 have al:(0<l1.length)=True:=eq_true (by omega)
 (try rw[sZ]at l)
 (try rw[sZ]at m)
 replace l:=sX HB l
 replace m:=sX HB m
 have G:=zM F
 have Y:=zM E
 clear F E
 replace y:=eq_true y
 replace z:=eq_true z
 refine start_ (n:=6) (S:=fun w'=>w'.cell? ⟨b,0,none⟩=some (.int .i64 a0_0)∧w'.cell? ⟨b,1,none⟩=some (.int .i64 a0_1)∧w'.cell? ⟨b,2,none⟩=some (.string a0_2)∧w'.cell? ⟨b,3,none⟩=some (.int .i64 a0_3)∧w'.cell? ⟨b,4,none⟩=some (.slice A0_4 l0_4.length c0_4)∧w'.cell? ⟨b,5,none⟩=some (.slice A0_5 l0_5.length c0_5)∧w'.cell? ⟨b,6,none⟩=some (.int .i64 a0_6)∧w'.cell? ⟨b,7,none⟩=some (.int .i64 a0_7)∧w'.cell? ⟨b,8,none⟩=some (.string a0_8)∧w'.cell? ⟨b,9,none⟩=some (.int .i64 a0_9)∧w'.cell? A=some (.int .i64 ((rd_T34 l1 0).f0))∧w'.cell? ⟨A.block,A.off+1,none⟩=some (.slice B ((rd_T34 l1 0).f1).length D)) (ds:=[]) #[false,false,false,false,false,false] (by kernel_rfl) rfl rfl ⟨(blk_cell a.out 0).trans rfl,(blk_cell a.out 1).trans rfl,(blk_cell a.out 2).trans rfl,(blk_cell a.out 3).trans rfl,(blk_cell a.out 4).trans rfl,(blk_cell a.out 5).trans rfl,(blk_cell a.out 6).trans rfl,(blk_cell a.out 7).trans rfl,(blk_cell a.out 8).trans rfl,(blk_cell a.out 9).trans rfl,((HB.out.cell (zL w _ d)).trans d),((HB.out.cell (zL w _ c)).trans c)⟩ (fun hHeld=>?_)
 generalize W.drew=w7 at a HB G l m hHeld ⊢
 refine take_ (i:=0) (N:=some 4) (v:=?_) (a':=?_) #[true,false,false,false,false,false] rfl rfl (by kernel_rfl) (fun _ _ _ h=>h) (Or.inl ⟨by rfl,?_⟩) hHeld ?_ ?_
 rotate_left
 ·(
 rintro w' ⟨Z,s1,s2,s3,s4,s5,s6,s7,s8,s9,aa,ab⟩
 go_simp
 with_reducible rfl)
 rotate_left
 ·(
 simp only[zP,i64_w,i32_w]
 rfl)
 refine take_ (i:=2) (N:=some 6) (v:=?_) (a':=?_) #[true,false,true,false,false,false] rfl rfl (by kernel_rfl) (fun _ _ _ h=>h) (Or.inl ⟨by rfl,?_⟩) hHeld ?_ ?_
 rotate_left
 ·(
 rintro w' ⟨Z,s1,s2,s3,s4,s5,s6,s7,s8,s9,aa,ab⟩
 go_simp
 with_reducible rfl)
 rotate_left
 ·(
 simp only[zP,i64_w,i32_w]
 rfl)
 refine pure_ (i:=3) (N:=some 7) (v:=?_) (a':=?_) #[true,false,true,true,false,false] rfl rfl (by kernel_rfl) (fun _ _ _ h=>h) (Or.inl ⟨by rfl,?_⟩) ?_ ?_
 rotate_left
 ·(
 intro w'
 go_simp
 with_reducible rfl)
 rotate_left
 ·(
 simp only[zP,i64_w,i32_w]
 rfl)
 refine one_ (i:=1) (N:=some 5) #[true,true,true,true,false,false] rfl rfl (by kernel_rfl) (by decide) (fun K hK=>?_)
 refine goes_ Try.func94 (by kernel_rfl) rfl #[.agg #[.int .i64 a0_0,.int .i64 a0_1,.string a0_2,.int .i64 a0_3,.slice A0_4 l0_4.length c0_4,.slice A0_5 l0_5.length c0_5,.int .i64 a0_6,.int .i64 a0_7,.string a0_8,.int .i64 a0_9]] (by rfl) rfl rfl (by(try simp only[List.map_toArray,List.map_cons,List.map_nil]);first|done|rfl|(simp only[List.length_drop,List.length_take];rfl)) ?_
 with_reducible refine(impl_Object_values.calls k a0_0 a0_1 a0_2 a0_3 (fun s=>s<w.heap.size) _ _ l0_4 (fun s=>s<w.heap.size) _ _ l0_5 a0_6 a0_7 a0_8 a0_9 j _ ?side1 ?side2 U.out).mono ?_
 (case side1=>exact Kd.V_mk P.out (Kd.F_below (Kd.C_F k29_heap O.out) zzR))
 (case side2=>exact Kd.V_mk R.out (Kd.F_below (Kd.C_F k29_heap Q.out) zzR))
 rintro e w8 ⟨am,rfl,I,hb⟩
 refine⟨_,rfl,?_⟩
 have p:=zM (Kd.R_lower (Kd.R_mono (ok':=fun s=>True) I (fun _ an=>trivial)) (below_size zzR))
 replace a:=sK a hb
 replace HB:=sB HB hb
 (try clear hb)
 (try clear hb2)
 (try clear hk)
 (try clear hi)
 (try clear I)
 obtain⟨ac,ad,J⟩:=Kd.R_slice p.out
 (first|subst J|(injection J with L ae M;have af:=L.symm;have ag:=M.symm;clear L ae M;subst af;subst ag))
 refine hK.out _ _ ⟨(blk_cell a.out 0).trans rfl,(blk_cell a.out 1).trans rfl,(blk_cell a.out 2).trans rfl,(blk_cell a.out 3).trans rfl,(blk_cell a.out 4).trans rfl,(blk_cell a.out 5).trans rfl,(blk_cell a.out 6).trans rfl,(blk_cell a.out 7).trans rfl,(blk_cell a.out 8).trans rfl,(blk_cell a.out 9).trans rfl,((HB.out.cell (zL w _ d)).trans d),((HB.out.cell (zL w _ c)).trans c)⟩ (fun hHeld=>?_)
 clear hK K
 refine norm_ (a':=?_) ?_ ?_
 rotate_left
 ·(
 show Act.put _ (some 5) _=_
 simp only[zP,i64_w,i32_w]
 rfl)
 refine one_ (i:=4) (N:=some 8) #[true,true,true,true,true,false] rfl rfl (by kernel_rfl) (by decide) (fun K hK=>?_)
 refine goes_ Try.func89 (by kernel_rfl) rfl #[.slice ac j.length ad,.func (.func 81) #[.agg #[.int .i64 ((rd_T34 l1 0).f0),.slice B ((rd_T34 l1 0).f1).length D]] #[]] (by rfl) rfl rfl (by(try simp only[List.map_toArray,List.map_cons,List.map_nil]);first|done|rfl|(simp only[List.length_drop,List.length_take];rfl)) ?_
 with_reducible refine(impl_Value__impl_Heap_fits.calls k _ _ j ((rd_T34 l1 0).f0) _ _ ((rd_T34 l1 0).f1) u _ ?side1 ?side2 ?side3 ?side4 V.out).mono ?_
 (case side1=>exact sD ((Kd.R_reads' p.out).2.2))
 (case side2=>exact(Kd.R_reads' p.out).2.1)
 (case side3=>exact sD (zC G.out HB.out))
 (case side4=>exact Y.out)
 rintro e ao ⟨rfl,hb⟩
 refine⟨_,rfl,?_⟩
 replace p:=zM (Kd.R_below (sE p.out) hb)
 replace a:=sK a hb
 replace HB:=sB HB hb
 (try clear hb)
 (try clear hb2)
 (try clear hk)
 (try clear hi)
 refine hK.out _ _ ⟨(blk_cell a.out 0).trans rfl,(blk_cell a.out 1).trans rfl,(blk_cell a.out 2).trans rfl,(blk_cell a.out 3).trans rfl,(blk_cell a.out 4).trans rfl,(blk_cell a.out 5).trans rfl,(blk_cell a.out 6).trans rfl,(blk_cell a.out 7).trans rfl,(blk_cell a.out 8).trans rfl,(blk_cell a.out 9).trans rfl,((HB.out.cell (zL w _ d)).trans d),((HB.out.cell (zL w _ c)).trans c)⟩ (fun hHeld=>?_)
 clear hK K
 refine norm_ (a':=?_) ?_ ?_
 rotate_left
 ·(
 show Act.put _ (some 8) _=_
 simp only[zP,i64_w,i32_w]
 rfl)
 refine pure_ (i:=5) (N:=some 3) (v:=?_) (a':=?_) #[true,true,true,true,true,true] rfl rfl (by kernel_rfl) (fun _ _ _ h=>h) (Or.inl ⟨by rfl,?_⟩) ?_ ?_
 rotate_left
 ·(
 intro w'
 go_simp
 with_reducible rfl)
 rotate_left
 ·(
 simp only[zP,i64_w,i32_w]
 rfl)
 refine done_ (by kernel_rfl) ?_
 try go_wp2
 go_ret
 exact⟨sq,sb⟩)
 rw[if_neg q]at H
 exact absurd H (by simp)
end Go.Proofs.Ytengilknjiobiaa.PFnExactPairsOf
