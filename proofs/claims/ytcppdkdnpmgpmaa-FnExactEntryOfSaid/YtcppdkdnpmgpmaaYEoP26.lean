/- Printed functions: laws_eqPatternCode. -/
import Derived.Test.YtcppdkdnpmgpmaaYEoP0
import Derived.Test.YtcppdkdnpmgpmaaYEoP24
import Derived.Test.YtcppdkdnpmgpmaaYEoP25
namespace Go.Proofs.Ytcppdkdnpmgpmaa.PFnExactEntryOf
open Go.RowKit Go.Proofs.YtcppdkdnpmgpmaaG Go.Proofs.YtcppdkdnpmgpmaaW.PrintWords Go.Proofs.YtcppdkdnpmgpmaaW.PrintLast Go.Proofs.YtcppdkdnpmgpmaaW.PrintMore
attribute [local go_sem] max2_int min2_int max_two min_two max_three min_three max_four min_four
set_option linter.unusedVariables false
set_option linter.unusedSimpArgs false
def laws_eqPatternCode.f (k:Nat) (l0_0:List (S55)) (l0_1:List (S51)) (l1_0:List (S55)) (l1_1:List (S51)):Option (Bool):=(laws_eqPatternInsS.f k l0_0 l1_0).bind fun t403=>(if t403=true then((laws_eqPatternEntryS.f k l0_1 l1_1).bind fun t404=>(if t404=true then(some true)else(some false)))else(some false))
set_option maxHeartbeats 8000000 in
set_option maxRecDepth 100000 in
theorem laws_eqPatternCode.calls (k:Nat) (A0_0:Option Addr) (c0_0:Nat) (l0_0:List (S55)) (A0_1:Option Addr) (c0_1:Nat) (l0_1:List (S51)) (A1_0:Option Addr) (c1_0:Nat) (l1_0:List (S55)) (A1_1:Option Addr) (c1_1:Nat) (l1_1:List (S51)) (r:Bool) (w:World) (hr0_0:Kd.C k55 w A0_0 l0_0.length l0_0) (hc0_0:l0_0.length≤c0_0) (hr0_1:Kd.C k51 w A0_1 l0_1.length l0_1) (hc0_1:l0_1.length≤c0_1) (hr1_0:Kd.C k55 w A1_0 l1_0.length l1_0) (hc1_0:l1_0.length≤c1_0) (hr1_1:Kd.C k51 w A1_1 l1_1.length l1_1) (hc1_1:l1_1.length≤c1_1) (h:laws_eqPatternCode.f k l0_0 l0_1 l1_0 l1_1=some r):
  Calls Try.prog 8 #[.agg #[.slice A0_0 l0_0.length c0_0,.slice A0_1 l0_1.length c0_1],.agg #[.slice A1_0 l1_0.length c1_0,.slice A1_1 l1_1.length c1_1]] w fun e w'=>e= .returned (.bool r)∧Below w.heap.size w w':=by
 have G:=Try.underlying32
 have j:=zM hr0_0
 have l:=zM hc0_0
 clear hr0_0 hc0_0
 have s:=zM hr0_1
 have u:=zM hc0_1
 clear hr0_1 hc0_1
 have m:=zM hr1_0
 have n:=zM hc1_0
 clear hr1_0 hc1_0
 have v:=zM hr1_1
 have x:=zM hc1_1
 clear hr1_1 hc1_1
 have HB:=zM (Below.refl w.heap.size w)
 have H:((laws_eqPatternInsS.f k l0_0 l1_0).bind fun o=>(if o=true then((laws_eqPatternEntryS.f k l0_1 l1_1).bind fun p=>(if p=true then(some true)else(some false)))else(some false)))=some r:=h
 clear h
 obtain⟨o,q,H⟩:=sO H
 by_cases g:o=true
 ·(
 subst g
 rewrite[if_pos rfl]at H
 obtain⟨p,y,H⟩:=sO H
 by_cases i:p=true
 ·(
 subst i
 rewrite[if_pos rfl]at H
 obtain rfl:=zI H
 go_enter Try.func8,Try.ntmps8
 go_wp2_with (first|((with_reducible refine gate_dst (N:=2) rfl ?_);refine sV (N:=2) (cs:= #[.slice A0_0 l0_0.length c0_0,.slice A0_1 l0_1.length c0_1]) (t:=32) ?_;intro z hg I hbox hb;have a:=zM (hbox);have A:=sG HB hg;have B:=sG HB hg;replace HB:=sB HB hb;clear hb hbox hg)|((with_reducible refine gate_dst (N:=3) rfl ?_);refine sV (N:=3) (cs:= #[.slice A1_0 l1_0.length c1_0,.slice A1_1 l1_1.length c1_1]) (t:=32) ?_;intro D hg J hbox hb;have b:=zM (hbox);have E:=sG HB hg;have F:=sG HB hg;replace HB:=sB HB hb;have c:=sN a hg;have d:=sM a hg;replace a:=sK a hb;clear hb hbox hg;have K:=c.out;have L:=d.out;obtain⟨M,O,P,Q⟩:=cells2 a.out;obtain⟨R,S,T,U⟩:=cells2 b.out)|((with_reducible refine gate_callee (f:=17) rfl ?_);refine sC (some 9) Try.func17 #[.slice A0_0 l0_0.length c0_0,.slice A1_0 l1_0.length c1_0] (laws_eqPatternInsS.calls k _ _ l0_0 _ _ l1_0 true _ ?side1 ?side2 ?side3 ?side4 q.out) ?_;(case side1=>exact sD (zC j.out HB.out));(case side2=>exact l.out);(case side3=>exact sD (zC m.out HB.out));(case side4=>exact n.out);rintro e V ⟨rfl,hb⟩;refine⟨_,rfl,?_⟩;replace a:=sK a hb;replace b:=sK b hb;replace HB:=sB HB hb;(try clear hb);obtain⟨W,X,Y,Z⟩:=cells2 a.out;obtain⟨aa,ab,ac,ad⟩:=cells2 b.out)|((with_reducible refine gate_callee (f:=18) rfl ?_);refine sC (some 15) Try.func18 #[.slice A0_1 l0_1.length c0_1,.slice A1_1 l1_1.length c1_1] (laws_eqPatternEntryS.calls k _ _ l0_1 _ _ l1_1 true _ ?side1 ?side2 ?side3 ?side4 y.out) ?_;(case side1=>exact sD (zC s.out HB.out));(case side2=>exact u.out);(case side3=>exact sD (zC v.out HB.out));(case side4=>exact x.out);rintro e ae ⟨rfl,hb⟩;refine⟨_,rfl,?_⟩;replace a:=sK a hb;replace b:=sK b hb;replace HB:=sB HB hb;(try clear hb)))
 go_ret
 exact⟨sq,sb⟩)
 replace i:=zB i
 subst i
 rewrite[if_neg zQ]at H
 obtain rfl:=zI H
 go_enter Try.func8,Try.ntmps8
 go_wp2_with (first|((with_reducible refine gate_dst (N:=2) rfl ?_);refine sV (N:=2) (cs:= #[.slice A0_0 l0_0.length c0_0,.slice A0_1 l0_1.length c0_1]) (t:=32) ?_;intro z hg af hbox hb;have a:=zM (hbox);have A:=sG HB hg;have B:=sG HB hg;replace HB:=sB HB hb;clear hb hbox hg)|((with_reducible refine gate_dst (N:=3) rfl ?_);refine sV (N:=3) (cs:= #[.slice A1_0 l1_0.length c1_0,.slice A1_1 l1_1.length c1_1]) (t:=32) ?_;intro D hg ag hbox hb;have b:=zM (hbox);have E:=sG HB hg;have F:=sG HB hg;replace HB:=sB HB hb;have c:=sN a hg;have d:=sM a hg;replace a:=sK a hb;clear hb hbox hg;have ah:=c.out;have ai:=d.out;obtain⟨aj,ak,al,am⟩:=cells2 a.out;obtain⟨an,ao,ap,aq⟩:=cells2 b.out)|((with_reducible refine gate_callee (f:=17) rfl ?_);refine sC (some 9) Try.func17 #[.slice A0_0 l0_0.length c0_0,.slice A1_0 l1_0.length c1_0] (laws_eqPatternInsS.calls k _ _ l0_0 _ _ l1_0 true _ ?side1 ?side2 ?side3 ?side4 q.out) ?_;(case side1=>exact sD (zC j.out HB.out));(case side2=>exact l.out);(case side3=>exact sD (zC m.out HB.out));(case side4=>exact n.out);rintro e ar ⟨rfl,hb⟩;refine⟨_,rfl,?_⟩;replace a:=sK a hb;replace b:=sK b hb;replace HB:=sB HB hb;(try clear hb);obtain⟨au,av,aw,ax⟩:=cells2 a.out;obtain⟨ay,az,aA,aB⟩:=cells2 b.out)|((with_reducible refine gate_callee (f:=18) rfl ?_);refine sC (some 15) Try.func18 #[.slice A0_1 l0_1.length c0_1,.slice A1_1 l1_1.length c1_1] (laws_eqPatternEntryS.calls k _ _ l0_1 _ _ l1_1 false _ ?side1 ?side2 ?side3 ?side4 y.out) ?_;(case side1=>exact sD (zC s.out HB.out));(case side2=>exact u.out);(case side3=>exact sD (zC v.out HB.out));(case side4=>exact x.out);rintro e aC ⟨rfl,hb⟩;refine⟨_,rfl,?_⟩;replace a:=sK a hb;replace b:=sK b hb;replace HB:=sB HB hb;(try clear hb)))
 go_ret
 exact⟨sq,sb⟩)
 replace g:=zB g
 subst g
 rewrite[if_neg zQ]at H
 obtain rfl:=zI H
 go_enter Try.func8,Try.ntmps8
 go_wp2_with (first|((with_reducible refine gate_dst (N:=2) rfl ?_);refine sV (N:=2) (cs:= #[.slice A0_0 l0_0.length c0_0,.slice A0_1 l0_1.length c0_1]) (t:=32) ?_;intro z hg aD hbox hb;have a:=zM (hbox);have A:=sG HB hg;have B:=sG HB hg;replace HB:=sB HB hb;clear hb hbox hg)|((with_reducible refine gate_dst (N:=3) rfl ?_);refine sV (N:=3) (cs:= #[.slice A1_0 l1_0.length c1_0,.slice A1_1 l1_1.length c1_1]) (t:=32) ?_;intro D hg aE hbox hb;have b:=zM (hbox);have E:=sG HB hg;have F:=sG HB hg;replace HB:=sB HB hb;have c:=sN a hg;have d:=sM a hg;replace a:=sK a hb;clear hb hbox hg;have aF:=c.out;have aG:=d.out;obtain⟨aH,aI,aJ,aK⟩:=cells2 a.out;obtain⟨aL,aM,aN,aO⟩:=cells2 b.out)|((with_reducible refine gate_callee (f:=17) rfl ?_);refine sC (some 9) Try.func17 #[.slice A0_0 l0_0.length c0_0,.slice A1_0 l1_0.length c1_0] (laws_eqPatternInsS.calls k _ _ l0_0 _ _ l1_0 false _ ?side1 ?side2 ?side3 ?side4 q.out) ?_;(case side1=>exact sD (zC j.out HB.out));(case side2=>exact l.out);(case side3=>exact sD (zC m.out HB.out));(case side4=>exact n.out);rintro e aP ⟨rfl,hb⟩;refine⟨_,rfl,?_⟩;replace a:=sK a hb;replace b:=sK b hb;replace HB:=sB HB hb;(try clear hb)))
 go_ret
 exact⟨sq,sb⟩
end Go.Proofs.Ytcppdkdnpmgpmaa.PFnExactEntryOf
