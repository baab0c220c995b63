/- Printed functions: laws_eqPattern. -/
import Derived.Test.YtdihlgkcpooadaaYIpP0
namespace Go.Proofs.Ytdihlgkcpooadaa.PFnExactIsPure
open Go.RowKit Go.Proofs.YtdihlgkcpooadaaG Go.Proofs.YtdihlgkcpooadaaW.PrintWords Go.Proofs.YtdihlgkcpooadaaW.PrintLast Go.Proofs.YtdihlgkcpooadaaW.PrintMore
attribute [local go_sem] max2_int min2_int max_two min_two max_three min_three max_four min_four
set_option linter.unusedVariables false
set_option linter.unusedSimpArgs false
mutual
def laws_eqPattern.f : Nat → Int → Int → ByteArray → List (S36) → Int → Int → ByteArray → List (S36) → Option (Bool)
  |0,_,_,_,_,_,_,_,_=>none
  |k+1,a0_0,a0_1,a0_2,l0_3,a1_0,a1_1,a1_2,l1_3=>if a0_0=a1_0 then(if a0_1=a1_1 then(if a0_2.toList=a1_2.toList then((laws_eqPatternS.f k l0_3 l1_3).bind fun t358=>(if t358=true then(some true)else(some false)))else(some false))else(some false))else(some false)
def laws_eqPatternS.l0 : Nat → List (S36) → List (S36) → Int → Option (Bool)
  |0,_,_,_=>none
  |k+1,x0,x1,x5=>if x5<(x0.length:Int)then(if 0≤x5 then(if x5<(x1.length:Int)then((laws_eqPattern.f k ((rd_T36 x0 x5).f0) ((rd_T36 x0 x5).f1) ((rd_T36 x0 x5).f2) ((rd_T36 x0 x5).f3) ((rd_T36 x1 x5).f0) ((rd_T36 x1 x5).f1) ((rd_T36 x1 x5).f2) ((rd_T36 x1 x5).f3)).bind fun t361=>(if t361=true then(laws_eqPatternS.l0 k x0 x1 (wrap64 (x5+1)))else(some false)))else(none))else(none))else(some true)
def laws_eqPatternS.f : Nat → List (S36) → List (S36) → Option (Bool)
  |0,_,_=>none
  |k+1,l0,l1=>if(l0.length:Int)=(l1.length:Int)then(laws_eqPatternS.l0 k l0 l1 0)else(some false)
end
theorem laws_eqPattern.mono_scc : ∀ k, (∀ a b c l o p q s, LeO (laws_eqPattern.f k a b c l o p q s) (laws_eqPattern.f (k + 1) a b c l o p q s)) ∧ (∀ a b, LeO (laws_eqPatternS.f k a b) (laws_eqPatternS.f (k + 1) a b)) ∧ (∀ a b c, LeO (laws_eqPatternS.l0 k a b c) (laws_eqPatternS.l0 (k + 1) a b c))
  |0=>⟨fun _ _ _ _ _ _ _ _ r h=>by simp[laws_eqPattern.f]at h,fun _ _ r h=>by simp[laws_eqPatternS.f]at h,fun _ _ _ r h=>by simp[laws_eqPatternS.l0]at h⟩
  |k+1=>by
    obtain⟨d,g,j⟩:=laws_eqPattern.mono_scc k
    refine⟨?_,?_,?_⟩
    · intro a b c l o p q s
      unfold laws_eqPattern.f
      repeat' first
      |(with_reducible exact d _ _ _ _ _ _ _ _)
      |(with_reducible exact g _ _)
      |(with_reducible exact j _ _ _)
      |(with_reducible exact LeO.refl _)
      |(with_reducible exact LeO.none _)
      |(with_reducible refine LeO.ite ?_ ?_)
      |(with_reducible refine LeO.bind ?_ (fun _=>?_))
      |exact d _ _ _ _ _ _ _ _
      |exact g _ _
      |exact j _ _ _
      |exact LeO.none _
      |refine LeO.ite ?_ ?_
      |refine LeO.bind ?_ (fun _=>?_)
    · intro a b
      unfold laws_eqPatternS.f
      repeat' first
      |(with_reducible exact d _ _ _ _ _ _ _ _)
      |(with_reducible exact g _ _)
      |(with_reducible exact j _ _ _)
      |(with_reducible exact LeO.refl _)
      |(with_reducible exact LeO.none _)
      |(with_reducible refine LeO.ite ?_ ?_)
      |(with_reducible refine LeO.bind ?_ (fun _=>?_))
      |exact d _ _ _ _ _ _ _ _
      |exact g _ _
      |exact j _ _ _
      |exact LeO.none _
      |refine LeO.ite ?_ ?_
      |refine LeO.bind ?_ (fun _=>?_)
    · intro a b c
      unfold laws_eqPatternS.l0
      repeat' first
      |(with_reducible exact d _ _ _ _ _ _ _ _)
      |(with_reducible exact g _ _)
      |(with_reducible exact j _ _ _)
      |(with_reducible exact LeO.refl _)
      |(with_reducible exact LeO.none _)
      |(with_reducible refine LeO.ite ?_ ?_)
      |(with_reducible refine LeO.bind ?_ (fun _=>?_))
      |exact d _ _ _ _ _ _ _ _
      |exact g _ _
      |exact j _ _ _
      |exact LeO.none _
      |refine LeO.ite ?_ ?_
      |refine LeO.bind ?_ (fun _=>?_)
theorem laws_eqPattern.mono:∀a b c d g j l o k,LeO (laws_eqPattern.f k a b c d g j l o) (laws_eqPattern.f (k+1) a b c d g j l o):=fun a b c d g j l o k=>(laws_eqPattern.mono_scc k).1 a b c d g j l o
theorem laws_eqPatternS.mono:∀a b k,LeO (laws_eqPatternS.f k a b) (laws_eqPatternS.f (k+1) a b):=fun a b k=>(laws_eqPattern.mono_scc k).2.1 a b
set_option maxHeartbeats 8000000 in
set_option maxRecDepth 100000 in
theorem laws_eqPattern.step (k:Nat) (ih_laws_eqPattern:∀m,m<k+1→∀(a0_0:Int) (a0_1:Int) (a0_2:ByteArray) (A0_3:Option Addr) (c0_3:Nat) (l0_3:List (S36)) (a1_0:Int) (a1_1:Int) (a1_2:ByteArray) (A1_3:Option Addr) (c1_3:Nat) (l1_3:List (S36)) (r:Bool) (w:World) (hr0_3:Kd.C k36 w A0_3 l0_3.length l0_3) (hc0_3:l0_3.length≤c0_3) (hr1_3:Kd.C k36 w A1_3 l1_3.length l1_3) (hc1_3:l1_3.length≤c1_3) (h:laws_eqPattern.f m a0_0 a0_1 a0_2 l0_3 a1_0 a1_1 a1_2 l1_3=some r),
    Calls Try.prog 16 #[.agg #[.int .i64 a0_0,.int .i64 a0_1,.string a0_2,.slice A0_3 l0_3.length c0_3],.agg #[.int .i64 a1_0,.int .i64 a1_1,.string a1_2,.slice A1_3 l1_3.length c1_3]] w fun e w'=>e= .returned (.bool r)∧Below w.heap.size w w') (ih_laws_eqPatternS:∀m,m<k+1→∀(A0:Option Addr) (c0:Nat) (l0:List (S36)) (A1:Option Addr) (c1:Nat) (l1:List (S36)) (r:Bool) (w:World) (hr0:Kd.C k36 w A0 l0.length l0) (hc0:l0.length≤c0) (hr1:Kd.C k36 w A1 l1.length l1) (hc1:l1.length≤c1) (h:laws_eqPatternS.f m l0 l1=some r),
    Calls Try.prog 40 #[.slice A0 l0.length c0,.slice A1 l1.length c1] w fun e w'=>e= .returned (.bool r)∧Below w.heap.size w w'):∀(a0_0:Int) (a0_1:Int) (a0_2:ByteArray) (A0_3:Option Addr) (c0_3:Nat) (l0_3:List (S36)) (a1_0:Int) (a1_1:Int) (a1_2:ByteArray) (A1_3:Option Addr) (c1_3:Nat) (l1_3:List (S36)) (r:Bool) (w:World) (hr0_3:Kd.C k36 w A0_3 l0_3.length l0_3) (hc0_3:l0_3.length≤c0_3) (hr1_3:Kd.C k36 w A1_3 l1_3.length l1_3) (hc1_3:l1_3.length≤c1_3) (h:laws_eqPattern.f (k+1) a0_0 a0_1 a0_2 l0_3 a1_0 a1_1 a1_2 l1_3=some r),
    Calls Try.prog 16 #[.agg #[.int .i64 a0_0,.int .i64 a0_1,.string a0_2,.slice A0_3 l0_3.length c0_3],.agg #[.int .i64 a1_0,.int .i64 a1_1,.string a1_2,.slice A1_3 l1_3.length c1_3]] w fun e w'=>e= .returned (.bool r)∧Below w.heap.size w w':=by
 intro a0_0 a0_1 a0_2 A0_3 c0_3 l0_3 a1_0 a1_1 a1_2 A1_3 c1_3 l1_3 r w hr0_3 hc0_3 hr1_3 hc1_3 h
 simp only[laws_eqPattern.f]at h
 have G:=Try.underlying36
 have A:=zM hr0_3
 have B:=zM hc0_3
 clear hr0_3 hc0_3
 have D:=zM hr1_3
 have E:=zM hc1_3
 clear hr1_3 hc1_3
 have HB:=zM (Below.refl w.heap.size w)
 have H:(if a0_0=a1_0 then(if a0_1=a1_1 then(if a0_2.toList=a1_2.toList then((laws_eqPatternS.f k l0_3 l1_3).bind fun z=>(if z=true then(some true)else(some false)))else(some false))else(some false))else(some false))=some r:=h
 clear h
 by_cases g:a0_0=a1_0
 ·(
 rw[if_pos g]at H
 have c3b0:(a0_0==a1_0)=true:=zE g
 have c3b1:(a0_0 !=a1_0)=false:=zY g
 clear g
 by_cases j:a0_1=a1_1
 ·(
 rw[if_pos j]at H
 have c4b0:(a0_1==a1_1)=true:=zE j
 have c4b1:(a0_1 !=a1_1)=false:=zY j
 clear j
 by_cases l:a0_2.toList=a1_2.toList
 ·(
 rw[if_pos l]at H
 have c5b0:(a0_2.toList==a1_2.toList)=true:=zE l
 have c5b1:(a0_2.toList !=a1_2.toList)=false:=zY l
 clear l
 obtain⟨z,F,H⟩:=sO H
 by_cases o:z=true
 ·(
 subst o
 rewrite[if_pos rfl]at H
 obtain rfl:=zI H
 go_enter Try.func16,Try.ntmps16
 go_wp2_with (first|((with_reducible refine gate_dst (N:=2) rfl ?_);refine sV (N:=2) (cs:= #[.int .i64 a0_0,.int .i64 a0_1,.string a0_2,.slice A0_3 l0_3.length c0_3]) (t:=36) ?_;intro p hg I hbox hb;have a:=zM (hbox);have q:=sG HB hg;have s:=sG HB hg;replace HB:=sB HB hb;clear hb hbox hg)|((with_reducible refine gate_dst (N:=3) rfl ?_);refine sV (N:=3) (cs:= #[.int .i64 a1_0,.int .i64 a1_1,.string a1_2,.slice A1_3 l1_3.length c1_3]) (t:=36) ?_;intro u hg J hbox hb;have b:=zM (hbox);have x:=sG HB hg;have y:=sG HB hg;replace HB:=sB HB hb;have c:=sN a hg;have d:=sM a hg;replace a:=sK a hb;clear hb hbox hg;have L:=c.out;have M:=d.out;obtain⟨O,P,Q,R,T,U,V,W⟩:=cells4 a.out;obtain⟨X,Y,Z,aa,ab,ac,ad,ae⟩:=cells4 b.out)|((with_reducible refine gate_callee (f:=40) rfl ?_);refine sC (some 24) Try.func40 #[.slice A0_3 l0_3.length c0_3,.slice A1_3 l1_3.length c1_3] (ih_laws_eqPatternS k (by omega) _ _ l0_3 _ _ l1_3 true _ ?side1 ?side2 ?side3 ?side4 F.out) ?_;(case side1=>exact sD (zC A.out HB.out));(case side2=>exact B.out);(case side3=>exact sD (zC D.out HB.out));(case side4=>exact E.out);rintro e af ⟨rfl,hb⟩;refine⟨_,rfl,?_⟩;replace a:=sK a hb;replace b:=sK b hb;replace HB:=sB HB hb;(try clear hb)))
 go_ret
 exact⟨sq,sb⟩)
 replace o:=zB o
 subst o
 rewrite[if_neg zQ]at H
 obtain rfl:=zI H
 go_enter Try.func16,Try.ntmps16
 go_wp2_with (first|((with_reducible refine gate_dst (N:=2) rfl ?_);refine sV (N:=2) (cs:= #[.int .i64 a0_0,.int .i64 a0_1,.string a0_2,.slice A0_3 l0_3.length c0_3]) (t:=36) ?_;intro p hg ag hbox hb;have a:=zM (hbox);have q:=sG HB hg;have s:=sG HB hg;replace HB:=sB HB hb;clear hb hbox hg)|((with_reducible refine gate_dst (N:=3) rfl ?_);refine sV (N:=3) (cs:= #[.int .i64 a1_0,.int .i64 a1_1,.string a1_2,.slice A1_3 l1_3.length c1_3]) (t:=36) ?_;intro u hg ah hbox hb;have b:=zM (hbox);have x:=sG HB hg;have y:=sG HB hg;replace HB:=sB HB hb;have c:=sN a hg;have d:=sM a hg;replace a:=sK a hb;clear hb hbox hg;have ai:=c.out;have aj:=d.out;obtain⟨ak,al,am,an,ao,ap,aq,ar⟩:=cells4 a.out;obtain⟨au,av,aw,ax,ay,az,aA,aB⟩:=cells4 b.out)|((with_reducible refine gate_callee (f:=40) rfl ?_);refine sC (some 24) Try.func40 #[.slice A0_3 l0_3.length c0_3,.slice A1_3 l1_3.length c1_3] (ih_laws_eqPatternS k (by omega) _ _ l0_3 _ _ l1_3 false _ ?side1 ?side2 ?side3 ?side4 F.out) ?_;(case side1=>exact sD (zC A.out HB.out));(case side2=>exact B.out);(case side3=>exact sD (zC D.out HB.out));(case side4=>exact E.out);rintro e aC ⟨rfl,hb⟩;refine⟨_,rfl,?_⟩;replace a:=sK a hb;replace b:=sK b hb;replace HB:=sB HB hb;(try clear hb)))
 go_ret
 exact⟨sq,sb⟩)
 rw[if_neg l]at H
 have c5b0:(a0_2.toList==a1_2.toList)=false:=zN l
 have c5b1:(a0_2.toList !=a1_2.toList)=true:=zX l
 obtain rfl:=zI H
 go_enter Try.func16,Try.ntmps16
 go_wp2_with (first|((with_reducible refine gate_dst (N:=2) rfl ?_);refine sV (N:=2) (cs:= #[.int .i64 a0_0,.int .i64 a0_1,.string a0_2,.slice A0_3 l0_3.length c0_3]) (t:=36) ?_;intro p hg aD hbox hb;have a:=zM (hbox);have q:=sG HB hg;have s:=sG HB hg;replace HB:=sB HB hb;clear hb hbox hg)|((with_reducible refine gate_dst (N:=3) rfl ?_);refine sV (N:=3) (cs:= #[.int .i64 a1_0,.int .i64 a1_1,.string a1_2,.slice A1_3 l1_3.length c1_3]) (t:=36) ?_;intro u hg aE hbox hb;have b:=zM (hbox);have x:=sG HB hg;have y:=sG HB hg;replace HB:=sB HB hb;have c:=sN a hg;have d:=sM a hg;replace a:=sK a hb;clear hb hbox hg;have aF:=c.out;have aG:=d.out;obtain⟨aH,aI,aJ,aK,aL,aM,aN,aO⟩:=cells4 a.out;obtain⟨aP,aQ,aR,aS,aT,aU,aV,aW⟩:=cells4 b.out))
 go_ret
 exact⟨sq,sb⟩)
 rw[if_neg j]at H
 have c4b0:(a0_1==a1_1)=false:=zN j
 have c4b1:(a0_1 !=a1_1)=true:=zX j
 obtain rfl:=zI H
 go_enter Try.func16,Try.ntmps16
 go_wp2_with (first|((with_reducible refine gate_dst (N:=2) rfl ?_);refine sV (N:=2) (cs:= #[.int .i64 a0_0,.int .i64 a0_1,.string a0_2,.slice A0_3 l0_3.length c0_3]) (t:=36) ?_;intro p hg aX hbox hb;have a:=zM (hbox);have q:=sG HB hg;have s:=sG HB hg;replace HB:=sB HB hb;clear hb hbox hg)|((with_reducible refine gate_dst (N:=3) rfl ?_);refine sV (N:=3) (cs:= #[.int .i64 a1_0,.int .i64 a1_1,.string a1_2,.slice A1_3 l1_3.length c1_3]) (t:=36) ?_;intro u hg aY hbox hb;have b:=zM (hbox);have x:=sG HB hg;have y:=sG HB hg;replace HB:=sB HB hb;have c:=sN a hg;have d:=sM a hg;replace a:=sK a hb;clear hb hbox hg;have aZ:=c.out;have a8:=d.out;obtain⟨a9,ba,bb,bc,bd,be,bf,bg⟩:=cells4 a.out;obtain⟨bh,bi,bj,bk,bl,bm,bn,bo⟩:=cells4 b.out))
 go_ret
 exact⟨sq,sb⟩)
 rw[if_neg g]at H
 have c3b0:(a0_0==a1_0)=false:=zN g
 have c3b1:(a0_0 !=a1_0)=true:=zX g
 obtain rfl:=zI H
 go_enter Try.func16,Try.ntmps16
 go_wp2_with (first|((with_reducible refine gate_dst (N:=2) rfl ?_);refine sV (N:=2) (cs:= #[.int .i64 a0_0,.int .i64 a0_1,.string a0_2,.slice A0_3 l0_3.length c0_3]) (t:=36) ?_;intro p hg bp hbox hb;have a:=zM (hbox);have q:=sG HB hg;have s:=sG HB hg;replace HB:=sB HB hb;clear hb hbox hg)|((with_reducible refine gate_dst (N:=3) rfl ?_);refine sV (N:=3) (cs:= #[.int .i64 a1_0,.int .i64 a1_1,.string a1_2,.slice A1_3 l1_3.length c1_3]) (t:=36) ?_;intro u hg bq hbox hb;have b:=zM (hbox);have x:=sG HB hg;have y:=sG HB hg;replace HB:=sB HB hb;have c:=sN a hg;have d:=sM a hg;replace a:=sK a hb;clear hb hbox hg;have br:=c.out;have bs:=d.out;obtain⟨bt,bu,bv,bw,bx,bz,bA,bB⟩:=cells4 a.out;obtain⟨bC,bD,bE,bF,bG,bH,bI,bJ⟩:=cells4 b.out))
 go_ret
 exact⟨sq,sb⟩
def laws_eqPatternS.T6:Bool×List (List Nat×List Nat):=(true,[([],[]),([],[]),([0,1],[0,1]),([2],[2]),([],[]),([],[]),([4,5],[4,5]),([6],[6]),([3,7],[3,7]),([8],[8])])
def laws_eqPatternS.B6:List Nat:=[0,0,3,7,0,0,48,112,255,511]
theorem laws_eqPatternS.tab6:rtab .any (opsOf Try.f40 6)=laws_eqPatternS.T6:=by kernel_rfl
theorem laws_eqPatternS.bits6:waitsOk laws_eqPatternS.T6.2 laws_eqPatternS.B6=true:=by kernel_rfl
set_option maxHeartbeats 8000000 in
set_option maxRecDepth 100000 in
theorem laws_eqPatternS.step (k:Nat) (ih_laws_eqPattern:∀m,m<k+1→∀(a0_0:Int) (a0_1:Int) (a0_2:ByteArray) (A0_3:Option Addr) (c0_3:Nat) (l0_3:List (S36)) (a1_0:Int) (a1_1:Int) (a1_2:ByteArray) (A1_3:Option Addr) (c1_3:Nat) (l1_3:List (S36)) (r:Bool) (w:World) (hr0_3:Kd.C k36 w A0_3 l0_3.length l0_3) (hc0_3:l0_3.length≤c0_3) (hr1_3:Kd.C k36 w A1_3 l1_3.length l1_3) (hc1_3:l1_3.length≤c1_3) (h:laws_eqPattern.f m a0_0 a0_1 a0_2 l0_3 a1_0 a1_1 a1_2 l1_3=some r),
    Calls Try.prog 16 #[.agg #[.int .i64 a0_0,.int .i64 a0_1,.string a0_2,.slice A0_3 l0_3.length c0_3],.agg #[.int .i64 a1_0,.int .i64 a1_1,.string a1_2,.slice A1_3 l1_3.length c1_3]] w fun e w'=>e= .returned (.bool r)∧Below w.heap.size w w') (ih_laws_eqPatternS:∀m,m<k+1→∀(A0:Option Addr) (c0:Nat) (l0:List (S36)) (A1:Option Addr) (c1:Nat) (l1:List (S36)) (r:Bool) (w:World) (hr0:Kd.C k36 w A0 l0.length l0) (hc0:l0.length≤c0) (hr1:Kd.C k36 w A1 l1.length l1) (hc1:l1.length≤c1) (h:laws_eqPatternS.f m l0 l1=some r),
    Calls Try.prog 40 #[.slice A0 l0.length c0,.slice A1 l1.length c1] w fun e w'=>e= .returned (.bool r)∧Below w.heap.size w w'):∀(A0:Option Addr) (c0:Nat) (l0:List (S36)) (A1:Option Addr) (c1:Nat) (l1:List (S36)) (r:Bool) (w:World) (hr0:Kd.C k36 w A0 l0.length l0) (hc0:l0.length≤c0) (hr1:Kd.C k36 w A1 l1.length l1) (hc1:l1.length≤c1) (h:laws_eqPatternS.f (k+1) l0 l1=some r),
    Calls Try.prog 40 #[.slice A0 l0.length c0,.slice A1 l1.length c1] w fun e w'=>e= .returned (.bool r)∧Below w.heap.size w w':=by
 intro A0 c0 l0 A1 c1 l1 r w hr0 hc0 hr1 hc1 h
 simp only[laws_eqPatternS.f]at h
 have aj:=Try.underlying36
 have ag:=zM hr0
 have ak:=zM hc0
 clear hr0 hc0
 have ah:=zM hr1
 have al:=zM hc1
 clear hr1 hc1
 have HB:=zM (Below.refl w.heap.size w)
 have H:(if(l0.length:Int)=(l1.length:Int)then(laws_eqPatternS.l0 k l0 l1 0)else(some false))=some r:=h
 clear h
 by_cases g:(l0.length:Int)=(l1.length:Int)
 ·(
 rw[if_pos g]at H
 have c3b0:((l0.length:Int)==(l1.length:Int))=true:=zE g
 have c3b1:((l0.length:Int) !=(l1.length:Int))=false:=zY g
 have c3b2:(l0.length==l1.length)=true:=by first|simpa using g|(simp at g ⊢;omega)
 clear g
 have H':=zM H
 clear H
 go_enter Try.func40,Try.ntmps40
 go_wp2
 go_loopg [5] k (fun kq v5 w'=>∃(a:Int),v5= .int .i64 a∧Aside0 (laws_eqPatternS.l0 kq l0 l1 a=some r)∧Aside0 (kq≤k)∧Aside0 (Below w.heap.size w w'))
 case atStart=>exact⟨(0),sr,H',⟨Nat.le_refl _⟩,⟨sb⟩⟩
 case round=>(
 clear H'
 try clear c1
 try clear g
 try clear c3b0
 try clear c3b1
 try clear c3b2
 obtain⟨a,rfl,HA,ab,HB⟩:=hrel
 cases gk with
 |zero=>exact absurd HA.out (by simp[laws_eqPatternS.l0])
 |succ k1=>(
 have H:=HA.out
 clear HA
 simp only[laws_eqPatternS.l0]at H
 by_cases O:a<(l0.length:Int)
 ·(
 rw[if_pos O]at H
 have c4b0:=zT O
 clear O
 by_cases c5:0≤a
 ·(
 rw[if_pos c5]at H
 have c5b0:=zT c5
 clear c5
 by_cases c6:a<(l1.length:Int)
 ·(
 rw[if_pos c6]at H
 have c6b0:=zT c6
 clear c6
 obtain⟨ai,A7,H⟩:=sO H
 by_cases c8:ai=true
 ·(
 subst c8
 rewrite[if_pos rfl]at H
 have H':=zM H
 clear H
 try go_wp2
 replace HB:=zM (below_drew1 HB.out)
 have I:0≤(a:Int):=zzA
 have J:a<(l0.length:Int):=zzA
 obtain⟨c,P,Q,ac,j,l,o,p,R,T⟩:=at_T36 ag.out a I J
 have q:=p
 have s:=o
 have u:=l
 have x:=j
 cases ac
 replace j:=sX HB j
 replace l:=sX HB l
 replace o:=sX HB o
 replace p:=sX HB p
 have U:=zM T
 have ad:=zM R
 clear T R
 replace I:=eq_true I
 replace J:=eq_true J
 have L:0≤(a:Int):=zzA
 have M:a<(l1.length:Int):=zzA
 obtain⟨d,V,W,ae,y,z,A,B,X,Y⟩:=at_T36 ah.out a L M
 have D:=B
 have E:=A
 have F:=z
 have G:=y
 cases ae
 replace y:=sX HB y
 replace z:=sX HB z
 replace A:=sX HB A
 replace B:=sX HB B
 have Z:=zM Y
 have af:=zM X
 clear Y X
 replace L:=eq_true L
 replace M:=eq_true M
 refine start_ (n:=10) (S:=fun w'=>w'.cell? (c.add ((a).toNat*4))=some (.int .i64 ((rd_T36 l0 a).f0))∧w'.cell? ⟨(c.add ((a).toNat*4)).block,(c.add ((a).toNat*4)).off+1,none⟩=some (.int .i64 ((rd_T36 l0 a).f1))∧w'.cell? ⟨(c.add ((a).toNat*4)).block,(c.add ((a).toNat*4)).off+2,none⟩=some (.string ((rd_T36 l0 a).f2))∧w'.cell? ⟨(c.add ((a).toNat*4)).block,(c.add ((a).toNat*4)).off+3,none⟩=some (.slice P ((rd_T36 l0 a).f3).length Q)∧w'.cell? (d.add ((a).toNat*4))=some (.int .i64 ((rd_T36 l1 a).f0))∧w'.cell? ⟨(d.add ((a).toNat*4)).block,(d.add ((a).toNat*4)).off+1,none⟩=some (.int .i64 ((rd_T36 l1 a).f1))∧w'.cell? ⟨(d.add ((a).toNat*4)).block,(d.add ((a).toNat*4)).off+2,none⟩=some (.string ((rd_T36 l1 a).f2))∧w'.cell? ⟨(d.add ((a).toNat*4)).block,(d.add ((a).toNat*4)).off+3,none⟩=some (.slice V ((rd_T36 l1 a).f3).length W)) (ds:=[]) #[false,false,false,false,false,false,false,false,false,false] (by kernel_rfl) rfl rfl ⟨((HB.out.cell (zL w _ x)).trans x),((HB.out.cell (zL w _ u)).trans u),((HB.out.cell (zL w _ s)).trans s),((HB.out.cell (zL w _ q)).trans q),((HB.out.cell (zL w _ G)).trans G),((HB.out.cell (zL w _ F)).trans F),((HB.out.cell (zL w _ E)).trans E),((HB.out.cell (zL w _ D)).trans D)⟩ (fun hHeld=>?_);refine with_tabW laws_eqPatternS.tab6 laws_eqPatternS.bits6 (fun b aa=>?_)
 generalize wr.drew=w9 at HB U Z j l o p y z A B hHeld ⊢
 refine pure_ (i:=0) (N:=some 17) (v:=?_) (a':=?_) (bN 10 1) rfl rfl (any_of b.out (by kernel_rfl)) (fun _ _ _ h=>h) (Or.inl ⟨by rfl,?_⟩) ?_ ?_
 rotate_left
 ·(
 intro w'
 go_simp
 with_reducible rfl)
 rotate_left
 ·(
 simp only[zP,i64_w,i32_w]
 rfl)
 refine pure_ (i:=1) (N:=some 18) (v:=?_) (a':=?_) (bN 10 3) rfl rfl (any_of b.out (by kernel_rfl)) (fun _ _ _ h=>h) (Or.inl ⟨by rfl,?_⟩) ?_ ?_
 rotate_left
 ·(
 intro w'
 go_simp
 with_reducible rfl)
 rotate_left
 ·(
 simp only[zP,i64_w,i32_w]
 rfl)
 refine pure_ (i:=2) (N:=some 19) (v:=?_) (a':=?_) (bN 10 7) rfl rfl (any_of b.out (by kernel_rfl)) (fun _ _ _ h=>h) (Or.inl ⟨by rfl,?_⟩) ?_ ?_
 rotate_left
 ·(
 intro w'
 go_simp
 with_reducible rfl)
 rotate_left
 ·(
 simp only[zP,i64_w,i32_w]
 rfl)
 refine pure_ (i:=4) (N:=some 21) (v:=?_) (a':=?_) (bN 10 23) rfl rfl (any_of b.out (by kernel_rfl)) (fun _ _ _ h=>h) (Or.inl ⟨by rfl,?_⟩) ?_ ?_
 rotate_left
 ·(
 intro w'
 go_simp
 with_reducible rfl)
 rotate_left
 ·(
 simp only[zP,i64_w,i32_w]
 rfl)
 refine pure_ (i:=5) (N:=some 22) (v:=?_) (a':=?_) (bN 10 55) rfl rfl (any_of b.out (by kernel_rfl)) (fun _ _ _ h=>h) (Or.inl ⟨by rfl,?_⟩) ?_ ?_
 rotate_left
 ·(
 intro w'
 go_simp
 with_reducible rfl)
 rotate_left
 ·(
 simp only[zP,i64_w,i32_w]
 rfl)
 refine pure_ (i:=6) (N:=some 23) (v:=?_) (a':=?_) (bN 10 119) rfl rfl (any_of b.out (by kernel_rfl)) (fun _ _ _ h=>h) (Or.inl ⟨by rfl,?_⟩) ?_ ?_
 rotate_left
 ·(
 intro w'
 go_simp
 with_reducible rfl)
 rotate_left
 ·(
 simp only[zP,i64_w,i32_w]
 rfl)
 refine take_ (i:=3) (N:=some 20) (v:=?_) (a':=?_) (bN 10 127) rfl rfl (take_ofW b.out aa.out (by kernel_rfl)) (fun _ _ _ h=>h) (Or.inl ⟨by rfl,?_⟩) hHeld ?_ ?_
 rotate_left
 ·(
 rintro w' ⟨s0,s1,s2,s3,s4,s5,s6,s7⟩
 go_simp
 with_reducible rfl)
 rotate_left
 ·(
 simp only[zP,i64_w,i32_w]
 rfl)
 refine take_ (i:=7) (N:=some 24) (v:=?_) (a':=?_) (bN 10 255) rfl rfl (take_ofW b.out aa.out (by kernel_rfl)) (fun _ _ _ h=>h) (Or.inl ⟨by rfl,?_⟩) hHeld ?_ ?_
 rotate_left
 ·(
 rintro w' ⟨s0,s1,s2,s3,s4,s5,s6,s7⟩
 go_simp
 with_reducible rfl)
 rotate_left
 ·(
 simp only[zP,i64_w,i32_w]
 rfl)
 refine one_ (i:=8) (N:=some 25) (bN 10 511) rfl rfl (one_of b.out (by kernel_rfl)) (by decide) (fun K hK=>?_)
 refine goes_ Try.func16 (by kernel_rfl) rfl #[.agg #[.int .i64 ((rd_T36 l0 a).f0),.int .i64 ((rd_T36 l0 a).f1),.string ((rd_T36 l0 a).f2),.slice P ((rd_T36 l0 a).f3).length Q],.agg #[.int .i64 ((rd_T36 l1 a).f0),.int .i64 ((rd_T36 l1 a).f1),.string ((rd_T36 l1 a).f2),.slice V ((rd_T36 l1 a).f3).length W]] (by rfl) rfl rfl (by(try simp only[List.map_toArray,List.map_cons,List.map_nil]);first|done|rfl|(simp only[List.length_drop,List.length_take];rfl)) ?_
 with_reducible refine(ih_laws_eqPattern k1 (by have:=ab.out;omega) ((rd_T36 l0 a).f0) ((rd_T36 l0 a).f1) ((rd_T36 l0 a).f2) _ _ ((rd_T36 l0 a).f3) ((rd_T36 l1 a).f0) ((rd_T36 l1 a).f1) ((rd_T36 l1 a).f2) _ _ ((rd_T36 l1 a).f3) true _ ?side1 ?side2 ?side3 ?side4 A7.out).mono ?_
 (case side1=>exact sD (zC U.out HB.out))
 (case side2=>exact ad.out)
 (case side3=>exact sD (zC Z.out HB.out))
 (case side4=>exact af.out)
 rintro e am ⟨rfl,hb⟩
 refine⟨_,rfl,?_⟩
 replace HB:=sB HB hb
 (try clear hb)
 (try clear hb2)
 (try clear hk)
 (try clear hi)
 refine hK.out _ _ ⟨((HB.out.cell (zL w _ x)).trans x),((HB.out.cell (zL w _ u)).trans u),((HB.out.cell (zL w _ s)).trans s),((HB.out.cell (zL w _ q)).trans q),((HB.out.cell (zL w _ G)).trans G),((HB.out.cell (zL w _ F)).trans F),((HB.out.cell (zL w _ E)).trans E),((HB.out.cell (zL w _ D)).trans D)⟩ (fun hHeld=>?_)
 clear hK K
 refine norm_ (a':=?_) ?_ ?_
 rotate_left
 ·(
 show Act.put _ (some 25) _=_
 simp only[zP,i64_w,i32_w]
 rfl)
 refine pure_ (i:=9) (N:=some 26) (v:=?_) (a':=?_) (bN 10 1023) rfl rfl (any_of b.out (by kernel_rfl)) (fun _ _ _ h=>h) (Or.inl ⟨by rfl,?_⟩) ?_ ?_
 rotate_left
 ·(
 intro w'
 go_simp
 with_reducible rfl)
 rotate_left
 ·(
 simp only[zP,i64_w,i32_w]
 rfl)
 refine done_ (done_of b.out (by kernel_rfl)) ?_
 try go_wp2
 go_roundg k1
 case measure=>have:=ab.out;omega
 case rel=>exact⟨(wrap64 (a+1)),sr,H',⟨by have:=ab.out;omega⟩,⟨sb⟩⟩)
 replace c8:=zB c8
 subst c8
 rewrite[if_neg zQ]at H
 obtain rfl:=zI H
 try go_wp2
 replace HB:=zM (below_drew1 HB.out)
 have I:0≤(a:Int):=zzA
 have J:a<(l0.length:Int):=zzA
 obtain⟨c,P,Q,ac,j,l,o,p,R,T⟩:=at_T36 ag.out a I J
 have q:=p
 have s:=o
 have u:=l
 have x:=j
 cases ac
 replace j:=sX HB j
 replace l:=sX HB l
 replace o:=sX HB o
 replace p:=sX HB p
 have U:=zM T
 have ad:=zM R
 clear T R
 replace I:=eq_true I
 replace J:=eq_true J
 have L:0≤(a:Int):=zzA
 have M:a<(l1.length:Int):=zzA
 obtain⟨d,V,W,ae,y,z,A,B,X,Y⟩:=at_T36 ah.out a L M
 have D:=B
 have E:=A
 have F:=z
 have G:=y
 cases ae
 replace y:=sX HB y
 replace z:=sX HB z
 replace A:=sX HB A
 replace B:=sX HB B
 have Z:=zM Y
 have af:=zM X
 clear Y X
 replace L:=eq_true L
 replace M:=eq_true M
 refine start_ (n:=10) (S:=fun w'=>w'.cell? (c.add ((a).toNat*4))=some (.int .i64 ((rd_T36 l0 a).f0))∧w'.cell? ⟨(c.add ((a).toNat*4)).block,(c.add ((a).toNat*4)).off+1,none⟩=some (.int .i64 ((rd_T36 l0 a).f1))∧w'.cell? ⟨(c.add ((a).toNat*4)).block,(c.add ((a).toNat*4)).off+2,none⟩=some (.string ((rd_T36 l0 a).f2))∧w'.cell? ⟨(c.add ((a).toNat*4)).block,(c.add ((a).toNat*4)).off+3,none⟩=some (.slice P ((rd_T36 l0 a).f3).length Q)∧w'.cell? (d.add ((a).toNat*4))=some (.int .i64 ((rd_T36 l1 a).f0))∧w'.cell? ⟨(d.add ((a).toNat*4)).block,(d.add ((a).toNat*4)).off+1,none⟩=some (.int .i64 ((rd_T36 l1 a).f1))∧w'.cell? ⟨(d.add ((a).toNat*4)).block,(d.add ((a).toNat*4)).off+2,none⟩=some (.string ((rd_T36 l1 a).f2))∧w'.cell? ⟨(d.add ((a).toNat*4)).block,(d.add ((a).toNat*4)).off+3,none⟩=some (.slice V ((rd_T36 l1 a).f3).length W)) (ds:=[]) #[false,false,false,false,false,false,false,false,false,false] (by kernel_rfl) rfl rfl ⟨((HB.out.cell (zL w _ x)).trans x),((HB.out.cell (zL w _ u)).trans u),((HB.out.cell (zL w _ s)).trans s),((HB.out.cell (zL w _ q)).trans q),((HB.out.cell (zL w _ G)).trans G),((HB.out.cell (zL w _ F)).trans F),((HB.out.cell (zL w _ E)).trans E),((HB.out.cell (zL w _ D)).trans D)⟩ (fun hHeld=>?_);refine with_tabW laws_eqPatternS.tab6 laws_eqPatternS.bits6 (fun b aa=>?_)
 generalize wr.drew=w11 at HB U Z j l o p y z A B hHeld ⊢
 refine pure_ (i:=0) (N:=some 17) (v:=?_) (a':=?_) (bN 10 1) rfl rfl (any_of b.out (by kernel_rfl)) (fun _ _ _ h=>h) (Or.inl ⟨by rfl,?_⟩) ?_ ?_
 rotate_left
 ·(
 intro w'
 go_simp
 with_reducible rfl)
 rotate_left
 ·(
 simp only[zP,i64_w,i32_w]
 rfl)
 refine pure_ (i:=1) (N:=some 18) (v:=?_) (a':=?_) (bN 10 3) rfl rfl (any_of b.out (by kernel_rfl)) (fun _ _ _ h=>h) (Or.inl ⟨by rfl,?_⟩) ?_ ?_
 rotate_left
 ·(
 intro w'
 go_simp
 with_reducible rfl)
 rotate_left
 ·(
 simp only[zP,i64_w,i32_w]
 rfl)
 refine pure_ (i:=2) (N:=some 19) (v:=?_) (a':=?_) (bN 10 7) rfl rfl (any_of b.out (by kernel_rfl)) (fun _ _ _ h=>h) (Or.inl ⟨by rfl,?_⟩) ?_ ?_
 rotate_left
 ·(
 intro w'
 go_simp
 with_reducible rfl)
 rotate_left
 ·(
 simp only[zP,i64_w,i32_w]
 rfl)
 refine pure_ (i:=4) (N:=some 21) (v:=?_) (a':=?_) (bN 10 23) rfl rfl (any_of b.out (by kernel_rfl)) (fun _ _ _ h=>h) (Or.inl ⟨by rfl,?_⟩) ?_ ?_
 rotate_left
 ·(
 intro w'
 go_simp
 with_reducible rfl)
 rotate_left
 ·(
 simp only[zP,i64_w,i32_w]
 rfl)
 refine pure_ (i:=5) (N:=some 22) (v:=?_) (a':=?_) (bN 10 55) rfl rfl (any_of b.out (by kernel_rfl)) (fun _ _ _ h=>h) (Or.inl ⟨by rfl,?_⟩) ?_ ?_
 rotate_left
 ·(
 intro w'
 go_simp
 with_reducible rfl)
 rotate_left
 ·(
 simp only[zP,i64_w,i32_w]
 rfl)
 refine pure_ (i:=6) (N:=some 23) (v:=?_) (a':=?_) (bN 10 119) rfl rfl (any_of b.out (by kernel_rfl)) (fun _ _ _ h=>h) (Or.inl ⟨by rfl,?_⟩) ?_ ?_
 rotate_left
 ·(
 intro w'
 go_simp
 with_reducible rfl)
 rotate_left
 ·(
 simp only[zP,i64_w,i32_w]
 rfl)
 refine take_ (i:=3) (N:=some 20) (v:=?_) (a':=?_) (bN 10 127) rfl rfl (take_ofW b.out aa.out (by kernel_rfl)) (fun _ _ _ h=>h) (Or.inl ⟨by rfl,?_⟩) hHeld ?_ ?_
 rotate_left
 ·(
 rintro w' ⟨s0,s1,s2,s3,s4,s5,s6,s7⟩
 go_simp
 with_reducible rfl)
 rotate_left
 ·(
 simp only[zP,i64_w,i32_w]
 rfl)
 refine take_ (i:=7) (N:=some 24) (v:=?_) (a':=?_) (bN 10 255) rfl rfl (take_ofW b.out aa.out (by kernel_rfl)) (fun _ _ _ h=>h) (Or.inl ⟨by rfl,?_⟩) hHeld ?_ ?_
 rotate_left
 ·(
 rintro w' ⟨s0,s1,s2,s3,s4,s5,s6,s7⟩
 go_simp
 with_reducible rfl)
 rotate_left
 ·(
 simp only[zP,i64_w,i32_w]
 rfl)
 refine one_ (i:=8) (N:=some 25) (bN 10 511) rfl rfl (one_of b.out (by kernel_rfl)) (by decide) (fun K hK=>?_)
 refine goes_ Try.func16 (by kernel_rfl) rfl #[.agg #[.int .i64 ((rd_T36 l0 a).f0),.int .i64 ((rd_T36 l0 a).f1),.string ((rd_T36 l0 a).f2),.slice P ((rd_T36 l0 a).f3).length Q],.agg #[.int .i64 ((rd_T36 l1 a).f0),.int .i64 ((rd_T36 l1 a).f1),.string ((rd_T36 l1 a).f2),.slice V ((rd_T36 l1 a).f3).length W]] (by rfl) rfl rfl (by(try simp only[List.map_toArray,List.map_cons,List.map_nil]);first|done|rfl|(simp only[List.length_drop,List.length_take];rfl)) ?_
 with_reducible refine(ih_laws_eqPattern k1 (by have:=ab.out;omega) ((rd_T36 l0 a).f0) ((rd_T36 l0 a).f1) ((rd_T36 l0 a).f2) _ _ ((rd_T36 l0 a).f3) ((rd_T36 l1 a).f0) ((rd_T36 l1 a).f1) ((rd_T36 l1 a).f2) _ _ ((rd_T36 l1 a).f3) false _ ?side1 ?side2 ?side3 ?side4 A7.out).mono ?_
 (case side1=>exact sD (zC U.out HB.out))
 (case side2=>exact ad.out)
 (case side3=>exact sD (zC Z.out HB.out))
 (case side4=>exact af.out)
 rintro e an ⟨rfl,hb⟩
 refine⟨_,rfl,?_⟩
 replace HB:=sB HB hb
 (try clear hb)
 (try clear hb2)
 (try clear hk)
 (try clear hi)
 refine hK.out _ _ ⟨((HB.out.cell (zL w _ x)).trans x),((HB.out.cell (zL w _ u)).trans u),((HB.out.cell (zL w _ s)).trans s),((HB.out.cell (zL w _ q)).trans q),((HB.out.cell (zL w _ G)).trans G),((HB.out.cell (zL w _ F)).trans F),((HB.out.cell (zL w _ E)).trans E),((HB.out.cell (zL w _ D)).trans D)⟩ (fun hHeld=>?_)
 clear hK K
 refine norm_ (a':=?_) ?_ ?_
 rotate_left
 ·(
 show Act.put _ (some 25) _=_
 simp only[zP,i64_w,i32_w]
 rfl)
 refine pure_ (i:=9) (N:=some 26) (v:=?_) (a':=?_) (bN 10 1023) rfl rfl (any_of b.out (by kernel_rfl)) (fun _ _ _ h=>h) (Or.inl ⟨by rfl,?_⟩) ?_ ?_
 rotate_left
 ·(
 intro w'
 go_simp
 with_reducible rfl)
 rotate_left
 ·(
 simp only[zP,i64_w,i32_w]
 rfl)
 refine done_ (done_of b.out (by kernel_rfl)) ?_
 try go_wp2
 go_ret
 exact⟨sq,sb⟩)
 rw[if_neg c6]at H
 exact absurd H (by simp))
 rw[if_neg c5]at H
 exact absurd H (by simp))
 rw[if_neg O]at H
 have c4b0:=zF O
 clear O
 obtain rfl:=zI H
 go_wp2
 go_ret
 exact⟨sq,sb⟩)))
 rw[if_neg g]at H
 have c3b0:((l0.length:Int)==(l1.length:Int))=false:=zN g
 have c3b1:((l0.length:Int) !=(l1.length:Int))=true:=zX g
 have c3b2:(l0.length==l1.length)=false:=by first|simpa using g|(simp at g ⊢;omega)
 obtain rfl:=zI H
 go_enter Try.func40,Try.ntmps40
 go_wp2
 go_ret
 exact⟨sq,sb⟩
theorem laws_eqPattern.calls_scc (k:Nat):(∀(a0_0:Int) (a0_1:Int) (a0_2:ByteArray) (A0_3:Option Addr) (c0_3:Nat) (l0_3:List (S36)) (a1_0:Int) (a1_1:Int) (a1_2:ByteArray) (A1_3:Option Addr) (c1_3:Nat) (l1_3:List (S36)) (r:Bool) (w:World) (hr0_3:Kd.C k36 w A0_3 l0_3.length l0_3) (hc0_3:l0_3.length≤c0_3) (hr1_3:Kd.C k36 w A1_3 l1_3.length l1_3) (hc1_3:l1_3.length≤c1_3) (h:laws_eqPattern.f k a0_0 a0_1 a0_2 l0_3 a1_0 a1_1 a1_2 l1_3=some r),
    Calls Try.prog 16 #[.agg #[.int .i64 a0_0,.int .i64 a0_1,.string a0_2,.slice A0_3 l0_3.length c0_3],.agg #[.int .i64 a1_0,.int .i64 a1_1,.string a1_2,.slice A1_3 l1_3.length c1_3]] w fun e w'=>e= .returned (.bool r)∧Below w.heap.size w w')∧
    (∀(A0:Option Addr) (c0:Nat) (l0:List (S36)) (A1:Option Addr) (c1:Nat) (l1:List (S36)) (r:Bool) (w:World) (hr0:Kd.C k36 w A0 l0.length l0) (hc0:l0.length≤c0) (hr1:Kd.C k36 w A1 l1.length l1) (hc1:l1.length≤c1) (h:laws_eqPatternS.f k l0 l1=some r),
    Calls Try.prog 40 #[.slice A0 l0.length c0,.slice A1 l1.length c1] w fun e w'=>e= .returned (.bool r)∧Below w.heap.size w w'):=by
 induction k using Nat.strongRecOn with
 |_ k ih=>
 cases k with
 |zero=>exact⟨by intros;rename_i h_;exact absurd h_ (by simp[laws_eqPattern.f]),by intros;rename_i h_;exact absurd h_ (by simp[laws_eqPatternS.f])⟩
 |succ k=>exact⟨laws_eqPattern.step k (fun m hm=>(ih m hm).1) (fun m hm=>(ih m hm).2),laws_eqPatternS.step k (fun m hm=>(ih m hm).1) (fun m hm=>(ih m hm).2)⟩
theorem laws_eqPattern.calls (k:Nat):∀(a:Int) (a0_1:Int) (a0_2:ByteArray) (A0_3:Option Addr) (c0_3:Nat) (l0_3:List (S36)) (a1_0:Int) (a1_1:Int) (a1_2:ByteArray) (A1_3:Option Addr) (c1_3:Nat) (l1_3:List (S36)) (r:Bool) (w:World) (hr0_3:Kd.C k36 w A0_3 l0_3.length l0_3) (hc0_3:l0_3.length≤c0_3) (hr1_3:Kd.C k36 w A1_3 l1_3.length l1_3) (hc1_3:l1_3.length≤c1_3) (h:laws_eqPattern.f k a a0_1 a0_2 l0_3 a1_0 a1_1 a1_2 l1_3=some r),
    Calls Try.prog 16 #[.agg #[.int .i64 a,.int .i64 a0_1,.string a0_2,.slice A0_3 l0_3.length c0_3],.agg #[.int .i64 a1_0,.int .i64 a1_1,.string a1_2,.slice A1_3 l1_3.length c1_3]] w fun e w'=>e= .returned (.bool r)∧Below w.heap.size w w':=(laws_eqPattern.calls_scc k).1
theorem laws_eqPatternS.calls (k:Nat):∀(a:Option Addr) (c0:Nat) (l0:List (S36)) (A1:Option Addr) (c1:Nat) (l1:List (S36)) (r:Bool) (w:World) (hr0:Kd.C k36 w a l0.length l0) (hc0:l0.length≤c0) (hr1:Kd.C k36 w A1 l1.length l1) (hc1:l1.length≤c1) (h:laws_eqPatternS.f k l0 l1=some r),
    Calls Try.prog 40 #[.slice a l0.length c0,.slice A1 l1.length c1] w fun e w'=>e= .returned (.bool r)∧Below w.heap.size w w':=(laws_eqPattern.calls_scc k).2
end Go.Proofs.Ytdihlgkcpooadaa.PFnExactIsPure
