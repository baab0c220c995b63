/- Printed functions: impl_objectKind, impl_Heap_fits, impl_Value__impl_Heap_fits, impl_ValidHeap_1. -/
import Derived.Test.YtpdljgieaaicpaaYGbP0
import Derived.Test.YtpdljgieaaicpaaYGbP15
import Derived.Test.YtpdljgieaaicpaaYGbP21
import Derived.Test.YtpdljgieaaicpaaYGbP22
namespace Go.Proofs.Ytpdljgieaaicpaa.PFnExactGarbage
open Go.RowKit Go.Proofs.YtpdljgieaaicpaaG Go.Proofs.YtpdljgieaaicpaaW.PrintWords Go.Proofs.YtpdljgieaaicpaaW.PrintLast Go.Proofs.YtpdljgieaaicpaaW.PrintMore
attribute [local go_sem] max2_int min2_int max_two min_two max_three min_three max_four min_four
set_option linter.unusedVariables false
set_option linter.unusedSimpArgs false
def impl_objectKind.f (a0:Int):Option (Int):=some (wrap64 ((wrap64 (a0- 4))+1))
set_option maxHeartbeats 8000000 in
set_option maxRecDepth 100000 in
theorem impl_objectKind.calls (a0:Int) (r:Int) (w:World) (h:impl_objectKind.f a0=some r):
  Calls Try.prog 100 #[.int .i64 a0] w fun e w'=>e= .returned (.int .i64 r)∧Drawn0 w w':=by
 have H:(some (wrap64 ((wrap64 (a0- 4))+1)))=some r:=h
 clear h
 obtain rfl:=zI H
 go_enter Try.func100,Try.ntmps100
 go_wp2
 go_ret
 exact⟨by first|rfl|(simp;done)|(simp[*];done),by repeat(first|exact Drawn0.refl _|apply Drawn0.step)⟩
def impl_Heap_fits.j0 : Nat → Bool → Int → List (S64) → Int → Int → ByteArray → Int → Option (Bool)
 |0,_,_,_,_,_,_,_=>none
 |k+1,x14,x368000,x368001,x369000,x369001,x369002,x369003=>if x14=true then((impl_ValidValue.f k x369000 x369001 x369002 x369003).bind fun t371=>(some t371))else((impl_Heap_find.f k x368000 x368001 x369003).bind fun t372=>(if t372≥0 then(if 0≤t372 then(if t372<(x368001.length:Int)then((impl_objectKind.f x369000).bind fun t374=>(some (((rd_T64 x368001 t372).f1)==t374)))else(none))else(none))else(some false)))
def impl_Heap_fits.f (k:Nat) (a0_0:Int) (l0_1:List (S64)) (a1_0:Int) (a1_1:Int) (a1_2:ByteArray) (a1_3:Int):Option (Bool):=(impl_ValidValue.f k a1_0 a1_1 a1_2 a1_3).bind fun t369=>(if t369=true then((impl_refers.f a1_0).bind fun t370=>(impl_Heap_fits.j0 k (!t370) a0_0 l0_1 a1_0 a1_1 a1_2 a1_3))else(impl_Heap_fits.j0 k true a0_0 l0_1 a1_0 a1_1 a1_2 a1_3))
set_option maxHeartbeats 8000000 in
set_option maxRecDepth 100000 in
theorem impl_Heap_fits.calls (k:Nat) (a0_0:Int) (A0_1:Option Addr) (c0_1:Nat) (l0_1:List (S64)) (a1_0:Int) (a1_1:Int) (a1_2:ByteArray) (a1_3:Int) (r:Bool) (w:World) (hr0_1:Kd.C k64 w A0_1 l0_1.length l0_1) (hc0_1:l0_1.length≤c0_1) (h:impl_Heap_fits.f k a0_0 l0_1 a1_0 a1_1 a1_2 a1_3=some r):
  Calls Try.prog 72 #[.agg #[.int .i64 a0_0,.slice A0_1 l0_1.length c0_1],.agg #[.int .i64 a1_0,.int .i64 a1_1,.string a1_2,.int .i64 a1_3]] w fun e w'=>e= .returned (.bool r)∧Below w.heap.size w w':=by
 have aV:=Try.underlying32
 have aW:=Try.underlying62
 have l:=zM hr0_1
 have L:=zM hc0_1
 clear hr0_1 hc0_1
 have HB:=zM (Below.refl w.heap.size w)
 have H:((impl_ValidValue.f k a1_0 a1_1 a1_2 a1_3).bind fun Y=>(if Y=true then((impl_refers.f a1_0).bind fun M=>(impl_Heap_fits.j0 k (!M) a0_0 l0_1 a1_0 a1_1 a1_2 a1_3))else(impl_Heap_fits.j0 k true a0_0 l0_1 a1_0 a1_1 a1_2 a1_3)))=some r:=h
 clear h
 have Z:=zM H
 clear H
 go_enter Try.func72,Try.ntmps72
 go_upto_region 1 with(first|((with_reducible refine gate_dst (N:=2) rfl ?_);refine sV (N:=2) (cs:= #[.int .i64 a0_0,.slice A0_1 l0_1.length c0_1]) (t:=32) ?_;intro aa hg w4 hbox hb;have a:=zM (hbox);have ag:=sG HB hg;have ah:=sG HB hg;replace HB:=sB HB hb;clear hb hbox hg)|((with_reducible refine gate_dst (N:=3) rfl ?_);refine sV (N:=3) (cs:= #[.int .i64 a1_0,.int .i64 a1_1,.string a1_2,.int .i64 a1_3]) (t:=62) ?_;intro ab hg w5 hbox hb;have b:=zM (hbox);have ai:=sG HB hg;have aj:=sG HB hg;replace HB:=sB HB hb;have I:=sN a hg;have J:=sM a hg;replace a:=sK a hb;clear hb hbox hg))
 repeat(go_quiet (first|((with_reducible refine gate_dst (N:=2) rfl ?_);refine sV (N:=2) (cs:= #[.int .i64 a0_0,.slice A0_1 l0_1.length c0_1]) (t:=32) ?_;intro aa hg w4 hbox hb;have a:=zM (hbox);have ag:=sG HB hg;have ah:=sG HB hg;replace HB:=sB HB hb;clear hb hbox hg)|((with_reducible refine gate_dst (N:=3) rfl ?_);refine sV (N:=3) (cs:= #[.int .i64 a1_0,.int .i64 a1_1,.string a1_2,.int .i64 a1_3]) (t:=62) ?_;intro ab hg w5 hbox hb;have b:=zM (hbox);have ai:=sG HB hg;have aj:=sG HB hg;replace HB:=sB HB hb;have I:=sN a hg;have J:=sM a hg;replace a:=sK a hb;clear hb hbox hg));go_upto_region 1 with(first|((with_reducible refine gate_dst (N:=2) rfl ?_);refine sV (N:=2) (cs:= #[.int .i64 a0_0,.slice A0_1 l0_1.length c0_1]) (t:=32) ?_;intro aa hg w4 hbox hb;have a:=zM (hbox);have ag:=sG HB hg;have ah:=sG HB hg;replace HB:=sB HB hb;clear hb hbox hg)|((with_reducible refine gate_dst (N:=3) rfl ?_);refine sV (N:=3) (cs:= #[.int .i64 a1_0,.int .i64 a1_1,.string a1_2,.int .i64 a1_3]) (t:=62) ?_;intro ab hg w5 hbox hb;have b:=zM (hbox);have ai:=sG HB hg;have aj:=sG HB hg;replace HB:=sB HB hb;have I:=sN a hg;have J:=sM a hg;replace a:=sK a hb;clear hb hbox hg)))
 (try simp only[zP])
 go_cut [14] (fun aU wc=>∃(kq:Nat) (T:Bool),aU= .bool T∧Aside0 (impl_Heap_fits.j0 kq T a0_0 l0_1 a1_0 a1_1 a1_2 a1_3=some r)∧Aside0 (kq≤k)∧Aside0 (wc.heap[aa]?=some (.cells #[.int .i64 a0_0,(.slice A0_1 l0_1.length c0_1)] 32 (0,0)))∧Aside0 (wc.heap[ab]?=some (.cells #[.int .i64 a1_0,.int .i64 a1_1,.string a1_2,.int .i64 a1_3] 62 (0,0)))∧Aside0 (Below w.heap.size w wc))
 case first=>(
 have H:=Z.out
 clear Z
 obtain⟨Y,O,H⟩:=sO H
 by_cases U:Y=true
 ·(
 subst U
 rewrite[if_pos rfl]at H
 obtain⟨M,A8,H⟩:=sO H
 have H':=zM H
 clear H
 have aX:=J.out
 have aY:=I.out
 obtain⟨aZ,a1,a2,a3,a4,a5,a6,a7⟩:=cells4 b.out
 go_wp2_with (first|(go_at_call 99;(with_reducible refine(impl_ValidValue.calls k a1_0 a1_1 a1_2 a1_3 true _ O.out).mono ?_);rintro e ak ⟨rfl,hb⟩;replace a:=sK a hb;replace b:=sK b hb;replace HB:=sB HB hb;(try clear hb);obtain⟨al,am,an,ao,ap,aq,ar,au⟩:=cells4 b.out)|(go_at_call 74;(with_reducible refine(impl_refers.calls a1_0 M _ A8.out).mono ?_);rintro e w' ⟨rfl,⟨nd,rfl⟩⟩;(try first|exact⟨rfl,_,World.drewN_drewN _ _ _⟩|exact⟨rfl,_,Eq.trans (World.drewN_drewN _ _ _) (congrArg (World.drewN _) (Nat.add_assoc _ _ _))⟩)))
 repeat(go_quiet (first|(go_at_call 99;(with_reducible refine(impl_ValidValue.calls k a1_0 a1_1 a1_2 a1_3 true _ O.out).mono ?_);rintro e ak ⟨rfl,hb⟩;replace a:=sK a hb;replace b:=sK b hb;replace HB:=sB HB hb;(try clear hb);obtain⟨al,am,an,ao,ap,aq,ar,au⟩:=cells4 b.out)|(go_at_call 74;(with_reducible refine(impl_refers.calls a1_0 M _ A8.out).mono ?_);rintro e w' ⟨rfl,⟨nd,rfl⟩⟩;(try first|exact⟨rfl,_,World.drewN_drewN _ _ _⟩|exact⟨rfl,_,Eq.trans (World.drewN_drewN _ _ _) (congrArg (World.drewN _) (Nat.add_assoc _ _ _))⟩)));try go_wp2_with (first|(go_at_call 99;(with_reducible refine(impl_ValidValue.calls k a1_0 a1_1 a1_2 a1_3 true _ O.out).mono ?_);rintro e ak ⟨rfl,hb⟩;replace a:=sK a hb;replace b:=sK b hb;replace HB:=sB HB hb;(try clear hb);obtain⟨al,am,an,ao,ap,aq,ar,au⟩:=cells4 b.out)|(go_at_call 74;(with_reducible refine(impl_refers.calls a1_0 M _ A8.out).mono ?_);rintro e w' ⟨rfl,⟨nd,rfl⟩⟩;(try first|exact⟨rfl,_,World.drewN_drewN _ _ _⟩|exact⟨rfl,_,Eq.trans (World.drewN_drewN _ _ _) (congrArg (World.drewN _) (Nat.add_assoc _ _ _))⟩))))
 go_meet
 case rel=>exact⟨_,(!M),sr,H',⟨by first|omega|exact Nat.le_refl _⟩,⟨by exact sT a.out⟩,⟨by exact sT b.out⟩,⟨sb⟩⟩)
 replace U:=zB U
 subst U
 rewrite[if_neg zQ]at H
 have H':=zM H
 clear H
 have a8:=J.out
 have a9:=I.out
 obtain⟨ba,bb,bc,bd,be,bf,bg,bh⟩:=cells4 b.out
 go_wp2_with (first|(go_at_call 99;(with_reducible refine(impl_ValidValue.calls k a1_0 a1_1 a1_2 a1_3 false _ O.out).mono ?_);rintro e av ⟨rfl,hb⟩;replace a:=sK a hb;replace b:=sK b hb;replace HB:=sB HB hb;(try clear hb)))
 repeat(go_quiet (first|(go_at_call 99;(with_reducible refine(impl_ValidValue.calls k a1_0 a1_1 a1_2 a1_3 false _ O.out).mono ?_);rintro e av ⟨rfl,hb⟩;replace a:=sK a hb;replace b:=sK b hb;replace HB:=sB HB hb;(try clear hb)));try go_wp2_with (first|(go_at_call 99;(with_reducible refine(impl_ValidValue.calls k a1_0 a1_1 a1_2 a1_3 false _ O.out).mono ?_);rintro e av ⟨rfl,hb⟩;replace a:=sK a hb;replace b:=sK b hb;replace HB:=sB HB hb;(try clear hb))))
 go_meet
 case rel=>exact⟨_,(true),sr,H',⟨by first|omega|exact Nat.le_refl _⟩,⟨by exact sT a.out⟩,⟨by exact sT b.out⟩,⟨sb⟩⟩)
 case rest=>(
 clear Z
 obtain⟨kq,T,rfl,HA,bi,a,b,HB⟩:=hcut
 cases kq with
 |zero=>exact absurd HA.out (by simp[impl_Heap_fits.j0])
 |succ kj2=>(
 have H:=HA.out
 clear HA
 simp only[impl_Heap_fits.j0]at H
 by_cases V:T=true
 ·(
 subst V
 rewrite[if_pos rfl]at H
 obtain⟨ac,ad,H⟩:=sO H
 obtain rfl:=zI H
 have bj:=J.out
 have bk:=I.out
 obtain⟨bl,bm,bn,bo,bp,bq,br,bs⟩:=cells4 b.out
 go_wp2_with (first|(go_at_call 99;(with_reducible refine(impl_ValidValue.calls kj2 a1_0 a1_1 a1_2 a1_3 ac _ ad.out).mono ?_);rintro e aw ⟨rfl,hb⟩;replace a:=sK a hb;replace b:=sK b hb;replace HB:=sB HB hb;(try clear hb)))
 repeat(go_quiet (first|(go_at_call 99;(with_reducible refine(impl_ValidValue.calls kj2 a1_0 a1_1 a1_2 a1_3 ac _ ad.out).mono ?_);rintro e aw ⟨rfl,hb⟩;replace a:=sK a hb;replace b:=sK b hb;replace HB:=sB HB hb;(try clear hb)));try go_wp2_with (first|(go_at_call 99;(with_reducible refine(impl_ValidValue.calls kj2 a1_0 a1_1 a1_2 a1_3 ac _ ad.out).mono ?_);rintro e aw ⟨rfl,hb⟩;replace a:=sK a hb;replace b:=sK b hb;replace HB:=sB HB hb;(try clear hb))))
 go_ret
 exact⟨sq,sb⟩)
 replace V:=zB V
 subst V
 rewrite[if_neg zQ]at H
 obtain⟨c,P,H⟩:=sO H
 by_cases Q:c≥0
 ·(
 rw[if_pos Q]at H
 have c22b0:decide (0≤c)=true:=zT Q
 clear Q
 by_cases W:0≤c
 ·(
 rw[if_pos W]at H
 have c23b0:=zT W
 clear W
 by_cases X:c<(l0_1.length:Int)
 ·(
 rw[if_pos X]at H
 have c24b0:=zT X
 clear X
 obtain⟨ae,af,H⟩:=sO H
 obtain rfl:=zI H
 have bt:=I.out
 have bu:=J.out
 obtain⟨bv,bw,bx,bz⟩:=cells2 a.out
 obtain⟨bA,bB,bC,bD,bE,bF,bG,bH⟩:=cells4 b.out
 go_wp2_with (first|(go_at_call 75;(with_reducible refine(impl_Heap_find.calls kj2 a0_0 _ _ l0_1 a1_3 c _ ?side1 ?side2 P.out).mono ?_);(case side1=>exact sD (zC l.out HB.out));(case side2=>exact L.out);rintro e ax ⟨rfl,hb⟩;replace a:=sK a hb;replace b:=sK b hb;replace HB:=sB HB hb;(try clear hb);obtain⟨ay,az,aA,aB⟩:=cells2 a.out;have d:0≤(c:Int):=zzA;have j:c<(l0_1.length:Int):=zzA;obtain⟨aC,aD,aE,aF,aG,R,m,p,q,s,u,x,y,z,A,B,D,E,F,G⟩:=at_T64 l.out c d j;cases R;replace m:=sX HB m;replace p:=sX HB p;replace q:=sX HB q;replace s:=sX HB s;replace u:=sX HB u;replace x:=sX HB x;replace y:=sX HB y;replace z:=sX HB z;replace A:=sX HB A;replace B:=sX HB B;have aH:=zM E;have aI:=zM D;clear E D;have aJ:=zM G;have aK:=zM F;clear G F;replace d:=eq_true d;replace j:=eq_true j;obtain⟨aL,aM,aN,aO,aP,aQ,aR,aS⟩:=cells4 b.out)|(go_at_call 100;(with_reducible refine(impl_objectKind.calls a1_0 ae _ af.out).mono ?_);rintro e w' ⟨rfl,⟨nd,rfl⟩⟩;(try first|exact⟨rfl,_,World.drewN_drewN _ _ _⟩|exact⟨rfl,_,Eq.trans (World.drewN_drewN _ _ _) (congrArg (World.drewN _) (Nat.add_assoc _ _ _))⟩)))
 repeat(go_quiet (first|(go_at_call 75;(with_reducible refine(impl_Heap_find.calls kj2 a0_0 _ _ l0_1 a1_3 c _ ?side1 ?side2 P.out).mono ?_);(case side1=>exact sD (zC l.out HB.out));(case side2=>exact L.out);rintro e ax ⟨rfl,hb⟩;replace a:=sK a hb;replace b:=sK b hb;replace HB:=sB HB hb;(try clear hb);obtain⟨ay,az,aA,aB⟩:=cells2 a.out;have d:0≤(c:Int):=zzA;have j:c<(l0_1.length:Int):=zzA;obtain⟨aC,aD,aE,aF,aG,R,m,p,q,s,u,x,y,z,A,B,D,E,F,G⟩:=at_T64 l.out c d j;cases R;replace m:=sX HB m;replace p:=sX HB p;replace q:=sX HB q;replace s:=sX HB s;replace u:=sX HB u;replace x:=sX HB x;replace y:=sX HB y;replace z:=sX HB z;replace A:=sX HB A;replace B:=sX HB B;have aH:=zM E;have aI:=zM D;clear E D;have aJ:=zM G;have aK:=zM F;clear G F;replace d:=eq_true d;replace j:=eq_true j;obtain⟨aL,aM,aN,aO,aP,aQ,aR,aS⟩:=cells4 b.out)|(go_at_call 100;(with_reducible refine(impl_objectKind.calls a1_0 ae _ af.out).mono ?_);rintro e w' ⟨rfl,⟨nd,rfl⟩⟩;(try first|exact⟨rfl,_,World.drewN_drewN _ _ _⟩|exact⟨rfl,_,Eq.trans (World.drewN_drewN _ _ _) (congrArg (World.drewN _) (Nat.add_assoc _ _ _))⟩)));try go_wp2_with (first|(go_at_call 75;(with_reducible refine(impl_Heap_find.calls kj2 a0_0 _ _ l0_1 a1_3 c _ ?side1 ?side2 P.out).mono ?_);(case side1=>exact sD (zC l.out HB.out));(case side2=>exact L.out);rintro e ax ⟨rfl,hb⟩;replace a:=sK a hb;replace b:=sK b hb;replace HB:=sB HB hb;(try clear hb);obtain⟨ay,az,aA,aB⟩:=cells2 a.out;have d:0≤(c:Int):=zzA;have j:c<(l0_1.length:Int):=zzA;obtain⟨aC,aD,aE,aF,aG,R,m,p,q,s,u,x,y,z,A,B,D,E,F,G⟩:=at_T64 l.out c d j;cases R;replace m:=sX HB m;replace p:=sX HB p;replace q:=sX HB q;replace s:=sX HB s;replace u:=sX HB u;replace x:=sX HB x;replace y:=sX HB y;replace z:=sX HB z;replace A:=sX HB A;replace B:=sX HB B;have aH:=zM E;have aI:=zM D;clear E D;have aJ:=zM G;have aK:=zM F;clear G F;replace d:=eq_true d;replace j:=eq_true j;obtain⟨aL,aM,aN,aO,aP,aQ,aR,aS⟩:=cells4 b.out)|(go_at_call 100;(with_reducible refine(impl_objectKind.calls a1_0 ae _ af.out).mono ?_);rintro e w' ⟨rfl,⟨nd,rfl⟩⟩;(try first|exact⟨rfl,_,World.drewN_drewN _ _ _⟩|exact⟨rfl,_,Eq.trans (World.drewN_drewN _ _ _) (congrArg (World.drewN _) (Nat.add_assoc _ _ _))⟩))))
 go_ret
 exact⟨sq,sb⟩)
 rw[if_neg X]at H
 exact absurd H (by simp))
 rw[if_neg W]at H
 exact absurd H (by simp))
 rw[if_neg Q]at H
 have c22b0:decide (0≤c)=false:=zF Q
 clear Q
 obtain rfl:=zI H
 have bI:=I.out
 have bJ:=J.out
 obtain⟨bK,bL,bM,bN⟩:=cells2 a.out
 obtain⟨bO,bP,bQ,bR,bS,bT,bU,bV⟩:=cells4 b.out
 go_wp2_with (first|(go_at_call 75;(with_reducible refine(impl_Heap_find.calls kj2 a0_0 _ _ l0_1 a1_3 c _ ?side1 ?side2 P.out).mono ?_);(case side1=>exact sD (zC l.out HB.out));(case side2=>exact L.out);rintro e aT ⟨rfl,hb⟩;replace a:=sK a hb;replace b:=sK b hb;replace HB:=sB HB hb;(try clear hb)))
 repeat(go_quiet (first|(go_at_call 75;(with_reducible refine(impl_Heap_find.calls kj2 a0_0 _ _ l0_1 a1_3 c _ ?side1 ?side2 P.out).mono ?_);(case side1=>exact sD (zC l.out HB.out));(case side2=>exact L.out);rintro e aT ⟨rfl,hb⟩;replace a:=sK a hb;replace b:=sK b hb;replace HB:=sB HB hb;(try clear hb)));try go_wp2_with (first|(go_at_call 75;(with_reducible refine(impl_Heap_find.calls kj2 a0_0 _ _ l0_1 a1_3 c _ ?side1 ?side2 P.out).mono ?_);(case side1=>exact sD (zC l.out HB.out));(case side2=>exact L.out);rintro e aT ⟨rfl,hb⟩;replace a:=sK a hb;replace b:=sK b hb;replace HB:=sB HB hb;(try clear hb))))
 go_ret
 exact⟨sq,sb⟩))
def impl_Value__impl_Heap_fits.l0 (a1_0 : Int) (l1_1 : List (S64)) : Nat → List (S62) → Int → Int → Option (Bool)
 |0,_,_,_=>none
 |k+1,x7,x8,x9=>if x9<x8 then(if 0≤x9 then(if x9<(x7.length:Int)then((impl_Heap_fits.f k a1_0 l1_1 ((rd_T62 x7 x9).f0) ((rd_T62 x7 x9).f1) ((rd_T62 x7 x9).f2) ((rd_T62 x7 x9).f3)).bind fun t377=>(if t377=true then(impl_Value__impl_Heap_fits.l0 a1_0 l1_1 k x7 x8 (wrap64 (x9+1)))else(some false)))else(none))else(none))else(some true)
def impl_Value__impl_Heap_fits.f (k:Nat) (l0:List (S62)) (a1_0:Int) (l1_1:List (S64)):Option (Bool):=impl_Value__impl_Heap_fits.l0 a1_0 l1_1 k l0 (l0.length:Int) 0
set_option maxHeartbeats 8000000 in
set_option maxRecDepth 100000 in
theorem impl_Value__impl_Heap_fits.calls (k:Nat) (A0:Option Addr) (c0:Nat) (l0:List (S62)) (a1_0:Int) (A1_1:Option Addr) (c1_1:Nat) (l1_1:List (S64)) (r:Bool) (w:World) (hr0:Kd.C k62 w A0 l0.length l0) (hc0:l0.length≤c0) (hr1_1:Kd.C k64 w A1_1 l1_1.length l1_1) (hc1_1:l1_1.length≤c1_1) (h:impl_Value__impl_Heap_fits.f k l0 a1_0 l1_1=some r):
  Calls Try.prog 71 #[.slice A0 l0.length c0,.func (.func 72) #[.agg #[.int .i64 a1_0,.slice A1_1 l1_1.length c1_1]] #[]] w fun e w'=>e= .returned (.bool r)∧Below w.heap.size w w':=by
 have Q:=Try.underlying62
 have E:=zM hr0
 have R:=zM hc0
 clear hr0 hc0
 have F:=zM hr1_1
 have G:=zM hc1_1
 clear hr1_1 hc1_1
 have HB:=zM (Below.refl w.heap.size w)
 have H:(impl_Value__impl_Heap_fits.l0 a1_0 l1_1 k l0 (l0.length:Int) 0)=some r:=h
 clear h
 have H':=zM H
 clear H
 go_enter Try.func71,Try.ntmps71
 go_wp2
 go_loopg [9] k (fun kq L w'=>∃(a:Int),L= .int .i64 a∧Aside0 (impl_Value__impl_Heap_fits.l0 a1_0 l1_1 kq l0 (l0.length:Int) a=some r)∧Aside0 (kq≤k)∧Aside0 (Below w.heap.size w w'))
 case atStart=>exact⟨(0),sr,H',⟨Nat.le_refl _⟩,⟨sb⟩⟩
 case round=>(
 clear H'
 obtain⟨a,rfl,HA,I,HB⟩:=hrel
 cases gk with
 |zero=>exact absurd HA.out (by simp[impl_Value__impl_Heap_fits.l0])
 |succ k1=>(
 have H:=HA.out
 clear HA
 simp only[impl_Value__impl_Heap_fits.l0]at H
 by_cases j:a<(l0.length:Int)
 ·(
 rw[if_pos j]at H
 have c3b0:=zT j
 clear j
 by_cases x:0≤a
 ·(
 rw[if_pos x]at H
 have c4b0:=zT x
 clear x
 by_cases y:a<(l0.length:Int)
 ·(
 rw[if_pos y]at H
 have c5b0:=zT y
 clear y
 obtain⟨M,J,H⟩:=sO H
 by_cases z:M=true
 ·(
 subst z
 rewrite[if_pos rfl]at H
 have H':=zM H
 clear H
 have c:0≤(a:Int):=zzA
 have d:a<(l0.length:Int):=zzA
 obtain⟨O,A,l,m,p,q⟩:=at_T62 E.out a c d
 cases A
 replace l:=sX HB l
 replace m:=sX HB m
 replace p:=sX HB p
 replace q:=sX HB q
 replace c:=eq_true c
 replace d:=eq_true d
 go_wp2_with (first|((with_reducible refine gate_dst (N:=6) rfl ?_);refine sV (N:=6) (cs:= #[.int .i64 0,.int .i64 0,.string (⟨#[]⟩:ByteArray),.int .i64 0]) (t:=62) ?_;intro B hg T hbox hb;have b:=zM (hbox);have P:=sG HB hg;have D:=sG HB hg;replace HB:=sB HB hb;clear hb hbox hg;obtain⟨U,V,W,X,Y,Z,aa,ab⟩:=cells4 b.out)|(go_at_call 72;(with_reducible refine(impl_Heap_fits.calls k1 a1_0 _ _ l1_1 ((rd_T62 l0 a).f0) ((rd_T62 l0 a).f1) ((rd_T62 l0 a).f2) ((rd_T62 l0 a).f3) true _ ?side1 ?side2 J.out).mono ?_);(case side1=>exact zC F.out zzR);(case side2=>exact G.out);rintro e ac ⟨rfl,hb⟩;have s:=zM (blk_below (g:=B) (o:= .cells #[.int .i64 ((rd_T62 l0 a).f0),.int .i64 ((rd_T62 l0 a).f1),.string ((rd_T62 l0 a).f2),.int .i64 ((rd_T62 l0 a).f3)] 62 (0,0)) (by(try with_reducible refine blk_drewN ?_ _);exact sP4 (sT b.out)) hb);have u:=sB HB hb;clear b;clear HB;have b:=s;have HB:=u;clear s u;(try clear hb)))
 go_roundg k1
 case measure=>have:=I.out;omega
 case rel=>exact⟨(wrap64 (a+1)),sr,H',⟨by have:=I.out;omega⟩,⟨sb⟩⟩)
 replace z:=zB z
 subst z
 rewrite[if_neg zQ]at H
 obtain rfl:=zI H
 have c:0≤(a:Int):=zzA
 have d:a<(l0.length:Int):=zzA
 obtain⟨O,A,l,m,p,q⟩:=at_T62 E.out a c d
 cases A
 replace l:=sX HB l
 replace m:=sX HB m
 replace p:=sX HB p
 replace q:=sX HB q
 replace c:=eq_true c
 replace d:=eq_true d
 go_wp2_with (first|((with_reducible refine gate_dst (N:=6) rfl ?_);refine sV (N:=6) (cs:= #[.int .i64 0,.int .i64 0,.string (⟨#[]⟩:ByteArray),.int .i64 0]) (t:=62) ?_;intro B hg ad hbox hb;have b:=zM (hbox);have P:=sG HB hg;have D:=sG HB hg;replace HB:=sB HB hb;clear hb hbox hg;obtain⟨ae,af,ag,ah,ai,aj,ak,al⟩:=cells4 b.out)|(go_at_call 72;(with_reducible refine(impl_Heap_fits.calls k1 a1_0 _ _ l1_1 ((rd_T62 l0 a).f0) ((rd_T62 l0 a).f1) ((rd_T62 l0 a).f2) ((rd_T62 l0 a).f3) false _ ?side1 ?side2 J.out).mono ?_);(case side1=>exact zC F.out zzR);(case side2=>exact G.out);rintro e am ⟨rfl,hb⟩;have s:=zM (blk_below (g:=B) (o:= .cells #[.int .i64 ((rd_T62 l0 a).f0),.int .i64 ((rd_T62 l0 a).f1),.string ((rd_T62 l0 a).f2),.int .i64 ((rd_T62 l0 a).f3)] 62 (0,0)) (by(try with_reducible refine blk_drewN ?_ _);exact sP4 (sT b.out)) hb);have u:=sB HB hb;clear b;clear HB;have b:=s;have HB:=u;clear s u;(try clear hb)))
 go_ret
 exact⟨sq,sb⟩)
 rw[if_neg y]at H
 exact absurd H (by simp))
 rw[if_neg x]at H
 exact absurd H (by simp))
 rw[if_neg j]at H
 have c3b0:=zF j
 clear j
 obtain rfl:=zI H
 go_wp2
 go_ret
 exact⟨sq,sb⟩))
def impl_ValidHeap_1.f (k:Nat) (a0_0:Int) (a0_1:Int) (a0_2:ByteArray) (a0_3:Int) (l0_4:List (S62)) (l0_5:List (S62)) (a0_6:Int) (a0_7:Int) (a0_8:ByteArray) (a0_9:Int) (l1:List (S32)):Option (Bool):=(impl_Object_values.f k a0_0 a0_1 a0_2 a0_3 l0_4 l0_5 a0_6 a0_7 a0_8 a0_9).bind fun t379=>(if 0<(l1.length:Int)then((impl_Value__impl_Heap_fits.f k t379 ((rd_T32 l1 0).f0) ((rd_T32 l1 0).f1)).bind fun t383=>(some t383))else(none))
set_option maxHeartbeats 8000000 in
set_option maxRecDepth 100000 in
theorem impl_ValidHeap_1.calls (k:Nat) (a0_0:Int) (a0_1:Int) (a0_2:ByteArray) (a0_3:Int) (A0_4:Option Addr) (c0_4:Nat) (l0_4:List (S62)) (A0_5:Option Addr) (c0_5:Nat) (l0_5:List (S62)) (a0_6:Int) (a0_7:Int) (a0_8:ByteArray) (a0_9:Int) (A1:Option Addr) (l1:List (S32)) (r:Bool) (w:World) (hr0_4:Kd.C k62 w A0_4 l0_4.length l0_4) (hc0_4:l0_4.length≤c0_4) (hr0_5:Kd.C k62 w A0_5 l0_5.length l0_5) (hc0_5:l0_5.length≤c0_5) (hr1:Kd.C k32 w A1 l1.length l1) (h:impl_ValidHeap_1.f k a0_0 a0_1 a0_2 a0_3 l0_4 l0_5 a0_6 a0_7 a0_8 a0_9 l1=some r):
  Calls Try.prog 97 #[.agg #[.int .i64 a0_0,.int .i64 a0_1,.string a0_2,.int .i64 a0_3,.slice A0_4 l0_4.length c0_4,.slice A0_5 l0_5.length c0_5,.int .i64 a0_6,.int .i64 a0_7,.string a0_8,.int .i64 a0_9],.pointer A1] w fun e w'=>e= .returned (.bool r)∧Below w.heap.size w w':=by
 have ah:=Try.underlying64
 have ai:=Try.underlying32
 have O:=zM hr0_4
 have P:=zM hc0_4
 clear hr0_4 hc0_4
 have Q:=zM hr0_5
 have R:=zM hc0_5
 clear hr0_5 hc0_5
 have T:=zM hr1
 have aj:=zM (Nat.le_refl l1.length)
 clear hr1
 have HB:=zM (Below.refl w.heap.size w)
 have H:((impl_Object_values.f k a0_0 a0_1 a0_2 a0_3 l0_4 l0_5 a0_6 a0_7 a0_8 a0_9).bind fun j=>(if 0<(l1.length:Int)then((impl_Value__impl_Heap_fits.f k j ((rd_T32 l1 0).f0) ((rd_T32 l1 0).f1)).bind fun u=>(some u))else(none)))=some r:=h
 clear h
 obtain⟨j,U,H⟩:=sO H
 by_cases q:0<(l1.length:Int)
 ·(
 rw[if_pos q]at H
 have c4b0:=zT q
 have c4b1:decide (0<l1.length)=true:=zT (by omega)
 clear q
 obtain⟨u,V,H⟩:=sO H
 obtain rfl:=zI H
 go_enter Try.func97,Try.ntmps97
 try go_wp2_with (first|((with_reducible refine gate_dst (N:=2) rfl ?_);refine sV (N:=2) (cs:= #[.int .i64 a0_0,.int .i64 a0_1,.string a0_2,.int .i64 a0_3,.slice A0_4 l0_4.length c0_4,.slice A0_5 l0_5.length c0_5,.int .i64 a0_6,.int .i64 a0_7,.string a0_8,.int .i64 a0_9]) (t:=64) ?_;intro b hg W hbox hb;have a:=zM (hbox);have ak:=sG HB hg;have x:=sG HB hg;replace HB:=sB HB hb;clear hb hbox hg))
 replace a:=zM (blk_drew a.out)
 replace HB:=zM (below_drew1 HB.out)
 have y:0≤(0:Int):=(by omega)
 have z:0<(l1.length:Int):=zzA
 obtain⟨A,B,D,X,l,m,E,F⟩:=at_T32 T.out 0 y z
 have c:=m
 (try rw[sZ]at c)
 have d:=l
 (try rw[sZ]at d)
 cases X
 have al:(0<l1.length)=True:=eq_true (by omega)
 (try rw[sZ]at l)
 (try rw[sZ]at m)
 replace l:=sX HB l
 replace m:=sX HB m
 have G:=zM F
 have Y:=zM E
 clear F E
 replace y:=eq_true y
 replace z:=eq_true z
 refine start_ (n:=6) (S:=fun w'=>w'.cell? ⟨b,0,none⟩=some (.int .i64 a0_0)∧w'.cell? ⟨b,1,none⟩=some (.int .i64 a0_1)∧w'.cell? ⟨b,2,none⟩=some (.string a0_2)∧w'.cell? ⟨b,3,none⟩=some (.int .i64 a0_3)∧w'.cell? ⟨b,4,none⟩=some (.slice A0_4 l0_4.length c0_4)∧w'.cell? ⟨b,5,none⟩=some (.slice A0_5 l0_5.length c0_5)∧w'.cell? ⟨b,6,none⟩=some (.int .i64 a0_6)∧w'.cell? ⟨b,7,none⟩=some (.int .i64 a0_7)∧w'.cell? ⟨b,8,none⟩=some (.string a0_8)∧w'.cell? ⟨b,9,none⟩=some (.int .i64 a0_9)∧w'.cell? A=some (.int .i64 ((rd_T32 l1 0).f0))∧w'.cell? ⟨A.block,A.off+1,none⟩=some (.slice B ((rd_T32 l1 0).f1).length D)) (ds:=[]) #[false,false,false,false,false,false] (by kernel_rfl) rfl rfl ⟨(blk_cell a.out 0).trans rfl,(blk_cell a.out 1).trans rfl,(blk_cell a.out 2).trans rfl,(blk_cell a.out 3).trans rfl,(blk_cell a.out 4).trans rfl,(blk_cell a.out 5).trans rfl,(blk_cell a.out 6).trans rfl,(blk_cell a.out 7).trans rfl,(blk_cell a.out 8).trans rfl,(blk_cell a.out 9).trans rfl,((HB.out.cell (zL w _ d)).trans d),((HB.out.cell (zL w _ c)).trans c)⟩ (fun hHeld=>?_)
 generalize W.drew=w7 at a HB G l m hHeld ⊢
 refine take_ (i:=0) (N:=some 4) (v:=?_) (a':=?_) #[true,false,false,false,false,false] rfl rfl (by kernel_rfl) (fun _ _ _ h=>h) (Or.inl ⟨by rfl,?_⟩) hHeld ?_ ?_
 rotate_left
 ·(
 rintro w' ⟨Z,s1,s2,s3,s4,s5,s6,s7,s8,s9,aa,ab⟩
 go_simp
 with_reducible rfl)
 rotate_left
 ·(
 simp only[zP,i64_w,i32_w]
 rfl)
 refine take_ (i:=2) (N:=some 6) (v:=?_) (a':=?_) #[true,false,true,false,false,false] rfl rfl (by kernel_rfl) (fun _ _ _ h=>h) (Or.inl ⟨by rfl,?_⟩) hHeld ?_ ?_
 rotate_left
 ·(
 rintro w' ⟨Z,s1,s2,s3,s4,s5,s6,s7,s8,s9,aa,ab⟩
 go_simp
 with_reducible rfl)
 rotate_left
 ·(
 simp only[zP,i64_w,i32_w]
 rfl)
 refine pure_ (i:=3) (N:=some 7) (v:=?_) (a':=?_) #[true,false,true,true,false,false] rfl rfl (by kernel_rfl) (fun _ _ _ h=>h) (Or.inl ⟨by rfl,?_⟩) ?_ ?_
 rotate_left
 ·(
 intro w'
 go_simp
 with_reducible rfl)
 rotate_left
 ·(
 simp only[zP,i64_w,i32_w]
 rfl)
 refine one_ (i:=1) (N:=some 5) #[true,true,true,true,false,false] rfl rfl (by kernel_rfl) (by decide) (fun K hK=>?_)
 refine goes_ Try.func98 (by kernel_rfl) rfl #[.agg #[.int .i64 a0_0,.int .i64 a0_1,.string a0_2,.int .i64 a0_3,.slice A0_4 l0_4.length c0_4,.slice A0_5 l0_5.length c0_5,.int .i64 a0_6,.int .i64 a0_7,.string a0_8,.int .i64 a0_9]] (by rfl) rfl rfl (by(try simp only[List.map_toArray,List.map_cons,List.map_nil]);first|done|rfl|(simp only[List.length_drop,List.length_take];rfl)) ?_
 with_reducible refine(impl_Object_values.calls k a0_0 a0_1 a0_2 a0_3 (fun s=>s<w.heap.size) _ _ l0_4 (fun s=>s<w.heap.size) _ _ l0_5 a0_6 a0_7 a0_8 a0_9 j _ ?side1 ?side2 U.out).mono ?_
 (case side1=>exact Kd.V_mk P.out (Kd.F_below (Kd.C_F k62_heap O.out) zzR))
 (case side2=>exact Kd.V_mk R.out (Kd.F_below (Kd.C_F k62_heap Q.out) zzR))
 rintro e w8 ⟨am,rfl,I,hb⟩
 refine⟨_,rfl,?_⟩
 have p:=zM (Kd.R_lower (Kd.R_mono (ok':=fun s=>True) I (fun _ an=>trivial)) (below_size zzR))
 replace a:=sK a hb
 replace HB:=sB HB hb
 (try clear hb)
 (try clear hb2)
 (try clear hk)
 (try clear hi)
 (try clear I)
 obtain⟨ac,ad,J⟩:=Kd.R_slice p.out
 (first|subst J|(injection J with L ae M;have af:=L.symm;have ag:=M.symm;clear L ae M;subst af;subst ag))
 refine hK.out _ _ ⟨(blk_cell a.out 0).trans rfl,(blk_cell a.out 1).trans rfl,(blk_cell a.out 2).trans rfl,(blk_cell a.out 3).trans rfl,(blk_cell a.out 4).trans rfl,(blk_cell a.out 5).trans rfl,(blk_cell a.out 6).trans rfl,(blk_cell a.out 7).trans rfl,(blk_cell a.out 8).trans rfl,(blk_cell a.out 9).trans rfl,((HB.out.cell (zL w _ d)).trans d),((HB.out.cell (zL w _ c)).trans c)⟩ (fun hHeld=>?_)
 clear hK K
 refine norm_ (a':=?_) ?_ ?_
 rotate_left
 ·(
 show Act.put _ (some 5) _=_
 simp only[zP,i64_w,i32_w]
 rfl)
 refine one_ (i:=4) (N:=some 8) #[true,true,true,true,true,false] rfl rfl (by kernel_rfl) (by decide) (fun K hK=>?_)
 refine goes_ Try.func71 (by kernel_rfl) rfl #[.slice ac j.length ad,.func (.func 72) #[.agg #[.int .i64 ((rd_T32 l1 0).f0),.slice B ((rd_T32 l1 0).f1).length D]] #[]] (by rfl) rfl rfl (by(try simp only[List.map_toArray,List.map_cons,List.map_nil]);first|done|rfl|(simp only[List.length_drop,List.length_take];rfl)) ?_
 with_reducible refine(impl_Value__impl_Heap_fits.calls k _ _ j ((rd_T32 l1 0).f0) _ _ ((rd_T32 l1 0).f1) u _ ?side1 ?side2 ?side3 ?side4 V.out).mono ?_
 (case side1=>exact sD ((Kd.R_reads' p.out).2.2))
 (case side2=>exact(Kd.R_reads' p.out).2.1)
 (case side3=>exact sD (zC G.out HB.out))
 (case side4=>exact Y.out)
 rintro e ao ⟨rfl,hb⟩
 refine⟨_,rfl,?_⟩
 replace p:=zM (Kd.R_below (sE p.out) hb)
 replace a:=sK a hb
 replace HB:=sB HB hb
 (try clear hb)
 (try clear hb2)
 (try clear hk)
 (try clear hi)
 refine hK.out _ _ ⟨(blk_cell a.out 0).trans rfl,(blk_cell a.out 1).trans rfl,(blk_cell a.out 2).trans rfl,(blk_cell a.out 3).trans rfl,(blk_cell a.out 4).trans rfl,(blk_cell a.out 5).trans rfl,(blk_cell a.out 6).trans rfl,(blk_cell a.out 7).trans rfl,(blk_cell a.out 8).trans rfl,(blk_cell a.out 9).trans rfl,((HB.out.cell (zL w _ d)).trans d),((HB.out.cell (zL w _ c)).trans c)⟩ (fun hHeld=>?_)
 clear hK K
 refine norm_ (a':=?_) ?_ ?_
 rotate_left
 ·(
 show Act.put _ (some 8) _=_
 simp only[zP,i64_w,i32_w]
 rfl)
 refine pure_ (i:=5) (N:=some 3) (v:=?_) (a':=?_) #[true,true,true,true,true,true] rfl rfl (by kernel_rfl) (fun _ _ _ h=>h) (Or.inl ⟨by rfl,?_⟩) ?_ ?_
 rotate_left
 ·(
 intro w'
 go_simp
 with_reducible rfl)
 rotate_left
 ·(
 simp only[zP,i64_w,i32_w]
 rfl)
 refine done_ (by kernel_rfl) ?_
 try go_wp2
 go_ret
 exact⟨sq,sb⟩)
 rw[if_neg q]at H
 exact absurd H (by simp)
end Go.Proofs.Ytpdljgieaaicpaa.PFnExactGarbage
