/- Printed functions: impl_sameDefinitions, impl_SameScope. -/
import Derived.Test.YtnneadpahjkhgaaYSmP0
import Derived.Test.YtnneadpahjkhgaaYSmP24
import Derived.Test.YtnneadpahjkhgaaYSmP25
import Derived.Test.YtnneadpahjkhgaaYSmP26
namespace Go.Proofs.Ytnneadpahjkhgaa.PFnExactSameMemory
open Go.RowKit Go.Proofs.YtnneadpahjkhgaaG Go.Proofs.YtnneadpahjkhgaaW.PrintWords Go.Proofs.YtnneadpahjkhgaaW.PrintLast Go.Proofs.YtnneadpahjkhgaaW.PrintMore
attribute [local go_sem] max2_int min2_int max_two min_two max_three min_three max_four min_four
set_option linter.unusedVariables false
set_option linter.unusedSimpArgs false
def impl_sameDefinitions.f (k:Nat) (l0_0:List (S116)) (l0_1:List (S107)) (l0_2:List (S109)) (l1_0:List (S116)) (l1_1:List (S107)) (l1_2:List (S109)):Option (Bool):=(impl_Function__impl_sameFunction.f k l0_1 l1_1).bind fun t417=>(if t417=true then((impl_RecordType__impl_sameType.f k l0_2 l1_2).bind fun t418=>(some t418))else(some false))
set_option maxHeartbeats 8000000 in
set_option maxRecDepth 100000 in
theorem impl_sameDefinitions.calls (k:Nat) (A0_0:Option Addr) (c0_0:Nat) (l0_0:List (S116)) (A0_1:Option Addr) (c0_1:Nat) (l0_1:List (S107)) (A0_2:Option Addr) (c0_2:Nat) (l0_2:List (S109)) (A1_0:Option Addr) (c1_0:Nat) (l1_0:List (S116)) (A1_1:Option Addr) (c1_1:Nat) (l1_1:List (S107)) (A1_2:Option Addr) (c1_2:Nat) (l1_2:List (S109)) (r:Bool) (w:World) (hr0_0:Kd.C k116 w A0_0 l0_0.length l0_0) (hc0_0:l0_0.length≤c0_0) (hr0_1:Kd.C k107 w A0_1 l0_1.length l0_1) (hc0_1:l0_1.length≤c0_1) (hr0_2:Kd.C k109 w A0_2 l0_2.length l0_2) (hc0_2:l0_2.length≤c0_2) (hr1_0:Kd.C k116 w A1_0 l1_0.length l1_0) (hc1_0:l1_0.length≤c1_0) (hr1_1:Kd.C k107 w A1_1 l1_1.length l1_1) (hc1_1:l1_1.length≤c1_1) (hr1_2:Kd.C k109 w A1_2 l1_2.length l1_2) (hc1_2:l1_2.length≤c1_2) (h:impl_sameDefinitions.f k l0_0 l0_1 l0_2 l1_0 l1_1 l1_2=some r):
  Calls Try.prog 68 #[.agg #[.slice A0_0 l0_0.length c0_0,.slice A0_1 l0_1.length c0_1,.slice A0_2 l0_2.length c0_2],.agg #[.slice A1_0 l1_0.length c1_0,.slice A1_1 l1_1.length c1_1,.slice A1_2 l1_2.length c1_2]] w fun e w'=>e= .returned (.bool r)∧Below w.heap.size w w':=by
 have F:=Try.underlying57
 have G:=zM hr0_0
 have I:=zM hc0_0
 clear hr0_0 hc0_0
 have l:=zM hr0_1
 have m:=zM hc0_1
 clear hr0_1 hc0_1
 have q:=zM hr0_2
 have s:=zM hc0_2
 clear hr0_2 hc0_2
 have J:=zM hr1_0
 have K:=zM hc1_0
 clear hr1_0 hc1_0
 have n:=zM hr1_1
 have o:=zM hc1_1
 clear hr1_1 hc1_1
 have u:=zM hr1_2
 have v:=zM hc1_2
 clear hr1_2 hc1_2
 have HB:=zM (Below.refl w.heap.size w)
 have H:((impl_Function__impl_sameFunction.f k l0_1 l1_1).bind fun d=>(if d=true then((impl_RecordType__impl_sameType.f k l0_2 l1_2).bind fun g=>(some g))else(some false)))=some r:=h
 clear h
 obtain⟨d,p,H⟩:=sO H
 by_cases c:d=true
 ·(
 subst c
 rewrite[if_pos rfl]at H
 obtain⟨g,x,H⟩:=sO H
 obtain rfl:=zI H
 go_enter Try.func68,Try.ntmps68
 go_wp2_with (first|((with_reducible refine gate_dst (N:=2) rfl ?_);refine sV (N:=2) (cs:= #[.slice A0_0 l0_0.length c0_0,.slice A0_1 l0_1.length c0_1,.slice A0_2 l0_2.length c0_2]) (t:=57) ?_;intro y hg L hbox hb;have a:=zM (hbox);have z:=sG HB hg;have A:=sG HB hg;replace HB:=sB HB hb;clear hb hbox hg)|((with_reducible refine gate_dst (N:=3) rfl ?_);refine sV (N:=3) (cs:= #[.slice A1_0 l1_0.length c1_0,.slice A1_1 l1_1.length c1_1,.slice A1_2 l1_2.length c1_2]) (t:=57) ?_;intro B hg M hbox hb;have b:=zM (hbox);have D:=sG HB hg;have E:=sG HB hg;replace HB:=sB HB hb;have i:=sN a hg;have j:=sM a hg;replace a:=sK a hb;clear hb hbox hg;have O:=i.out;have P:=j.out;obtain⟨Q,R,S,T,U,V⟩:=cells3 a.out;obtain⟨W,X,Y,Z,aa,ab⟩:=cells3 b.out)|((with_reducible refine gate_callee (f:=94) rfl ?_);refine sC (some 9) Try.func94 #[.slice A0_1 l0_1.length c0_1,.slice A1_1 l1_1.length c1_1,.func (.func 95) #[] #[]] (impl_Function__impl_sameFunction.calls k _ _ l0_1 _ _ l1_1 true _ ?side1 ?side2 ?side3 ?side4 p.out) ?_;(case side1=>exact sD (zC l.out HB.out));(case side2=>exact m.out);(case side3=>exact sD (zC n.out HB.out));(case side4=>exact o.out);rintro e ac ⟨rfl,hb⟩;refine⟨_,rfl,?_⟩;replace a:=sK a hb;replace b:=sK b hb;replace HB:=sB HB hb;(try clear hb);obtain⟨ad,ae,af,ag,ah,ai⟩:=cells3 a.out;obtain⟨aj,ak,al,am,an,ao⟩:=cells3 b.out)|(go_at_call 96;(with_reducible refine(impl_RecordType__impl_sameType.calls k _ _ l0_2 _ _ l1_2 g _ ?side1 ?side2 ?side3 ?side4 x.out).mono ?_);(case side1=>exact sD (zC q.out HB.out));(case side2=>exact s.out);(case side3=>exact sD (zC u.out HB.out));(case side4=>exact v.out);rintro e ap ⟨rfl,hb⟩;replace a:=sK a hb;replace b:=sK b hb;replace HB:=sB HB hb;(try clear hb)))
 go_ret
 exact⟨sq,sb⟩)
 replace c:=zB c
 subst c
 rewrite[if_neg zQ]at H
 obtain rfl:=zI H
 go_enter Try.func68,Try.ntmps68
 go_wp2_with (first|((with_reducible refine gate_dst (N:=2) rfl ?_);refine sV (N:=2) (cs:= #[.slice A0_0 l0_0.length c0_0,.slice A0_1 l0_1.length c0_1,.slice A0_2 l0_2.length c0_2]) (t:=57) ?_;intro y hg aq hbox hb;have a:=zM (hbox);have z:=sG HB hg;have A:=sG HB hg;replace HB:=sB HB hb;clear hb hbox hg)|((with_reducible refine gate_dst (N:=3) rfl ?_);refine sV (N:=3) (cs:= #[.slice A1_0 l1_0.length c1_0,.slice A1_1 l1_1.length c1_1,.slice A1_2 l1_2.length c1_2]) (t:=57) ?_;intro B hg ar hbox hb;have b:=zM (hbox);have D:=sG HB hg;have E:=sG HB hg;replace HB:=sB HB hb;have i:=sN a hg;have j:=sM a hg;replace a:=sK a hb;clear hb hbox hg;have au:=i.out;have av:=j.out;obtain⟨aw,ax,ay,az,aA,aB⟩:=cells3 a.out;obtain⟨aC,aD,aE,aF,aG,aH⟩:=cells3 b.out)|((with_reducible refine gate_callee (f:=94) rfl ?_);refine sC (some 9) Try.func94 #[.slice A0_1 l0_1.length c0_1,.slice A1_1 l1_1.length c1_1,.func (.func 95) #[] #[]] (impl_Function__impl_sameFunction.calls k _ _ l0_1 _ _ l1_1 false _ ?side1 ?side2 ?side3 ?side4 p.out) ?_;(case side1=>exact sD (zC l.out HB.out));(case side2=>exact m.out);(case side3=>exact sD (zC n.out HB.out));(case side4=>exact o.out);rintro e aI ⟨rfl,hb⟩;refine⟨_,rfl,?_⟩;replace a:=sK a hb;replace b:=sK b hb;replace HB:=sB HB hb;(try clear hb)))
 go_ret
 exact⟨sq,sb⟩
def impl_SameScope.f (k:Nat) (l0_0:List (S116)) (l0_1:List (S107)) (l0_2:List (S109)) (l1_0:List (S116)) (l1_1:List (S107)) (l1_2:List (S109)):Option (Bool):=(impl_Binding.f k l0_0 l1_0).bind fun t421=>(if t421=true then((impl_sameDefinitions.f k l0_0 l0_1 l0_2 l1_0 l1_1 l1_2).bind fun t422=>(some t422))else(some false))
set_option maxHeartbeats 8000000 in
set_option maxRecDepth 100000 in
theorem impl_SameScope.calls (k:Nat) (A0_0:Option Addr) (c0_0:Nat) (l0_0:List (S116)) (A0_1:Option Addr) (c0_1:Nat) (l0_1:List (S107)) (A0_2:Option Addr) (c0_2:Nat) (l0_2:List (S109)) (A1_0:Option Addr) (c1_0:Nat) (l1_0:List (S116)) (A1_1:Option Addr) (c1_1:Nat) (l1_1:List (S107)) (A1_2:Option Addr) (c1_2:Nat) (l1_2:List (S109)) (r:Bool) (w:World) (hr0_0:Kd.C k116 w A0_0 l0_0.length l0_0) (hc0_0:l0_0.length≤c0_0) (hr0_1:Kd.C k107 w A0_1 l0_1.length l0_1) (hc0_1:l0_1.length≤c0_1) (hr0_2:Kd.C k109 w A0_2 l0_2.length l0_2) (hc0_2:l0_2.length≤c0_2) (hr1_0:Kd.C k116 w A1_0 l1_0.length l1_0) (hc1_0:l1_0.length≤c1_0) (hr1_1:Kd.C k107 w A1_1 l1_1.length l1_1) (hc1_1:l1_1.length≤c1_1) (hr1_2:Kd.C k109 w A1_2 l1_2.length l1_2) (hc1_2:l1_2.length≤c1_2) (h:impl_SameScope.f k l0_0 l0_1 l0_2 l1_0 l1_1 l1_2=some r):
  Calls Try.prog 23 #[.agg #[.slice A0_0 l0_0.length c0_0,.slice A0_1 l0_1.length c0_1,.slice A0_2 l0_2.length c0_2],.agg #[.slice A1_0 l1_0.length c1_0,.slice A1_1 l1_1.length c1_1,.slice A1_2 l1_2.length c1_2]] w fun e w'=>e= .returned (.bool r)∧Below w.heap.size w w':=by
 have K:=Try.underlying57
 have i:=zM hr0_0
 have j:=zM hc0_0
 clear hr0_0 hc0_0
 have u:=zM hr0_1
 have v:=zM hc0_1
 clear hr0_1 hc0_1
 have x:=zM hr0_2
 have y:=zM hc0_2
 clear hr0_2 hc0_2
 have l:=zM hr1_0
 have m:=zM hc1_0
 clear hr1_0 hc1_0
 have z:=zM hr1_1
 have A:=zM hc1_1
 clear hr1_1 hc1_1
 have B:=zM hr1_2
 have D:=zM hc1_2
 clear hr1_2 hc1_2
 have HB:=zM (Below.refl w.heap.size w)
 have H:((impl_Binding.f k l0_0 l1_0).bind fun n=>(if n=true then((impl_sameDefinitions.f k l0_0 l0_1 l0_2 l1_0 l1_1 l1_2).bind fun o=>(some o))else(some false)))=some r:=h
 clear h
 obtain⟨n,s,H⟩:=sO H
 by_cases g:n=true
 ·(
 subst g
 rewrite[if_pos rfl]at H
 obtain⟨o,E,H⟩:=sO H
 obtain rfl:=zI H
 go_enter Try.func23,Try.ntmps23
 go_wp2_with (first|((with_reducible refine gate_dst (N:=2) rfl ?_);refine sV (N:=2) (cs:= #[.slice A0_0 l0_0.length c0_0,.slice A0_1 l0_1.length c0_1,.slice A0_2 l0_2.length c0_2]) (t:=57) ?_;intro F hg L hbox hb;have a:=zM (hbox);have G:=sG HB hg;have b:=sG HB hg;replace HB:=sB HB hb;clear hb hbox hg)|((with_reducible refine gate_dst (N:=3) rfl ?_);refine sV (N:=3) (cs:= #[.slice A1_0 l1_0.length c1_0,.slice A1_1 l1_1.length c1_1,.slice A1_2 l1_2.length c1_2]) (t:=57) ?_;intro I hg M hbox hb;have d:=zM (hbox);have J:=sG HB hg;have c:=sG HB hg;replace HB:=sB HB hb;have p:=sN a hg;have q:=sM a hg;replace a:=sK a hb;clear hb hbox hg;have O:=p.out;have P:=q.out;obtain⟨Q,R,S,T,U,V⟩:=cells3 a.out;obtain⟨W,X,Y,Z,aa,ab⟩:=cells3 d.out)|((with_reducible refine gate_callee (f:=67) rfl ?_);refine sC (some 9) Try.func67 #[.slice A0_0 l0_0.length c0_0,.slice A1_0 l1_0.length c1_0] (impl_Binding.calls k _ _ l0_0 _ _ l1_0 true _ ?side1 ?side2 ?side3 ?side4 s.out) ?_;(case side1=>exact sD (zC i.out HB.out));(case side2=>exact j.out);(case side3=>exact sD (zC l.out HB.out));(case side4=>exact m.out);rintro e w' ⟨rfl,⟨nd,rfl⟩⟩;refine⟨_,rfl,?_⟩)|(go_at_call 68;(with_reducible refine(impl_sameDefinitions.calls k _ _ l0_0 _ _ l0_1 _ _ l0_2 _ _ l1_0 _ _ l1_1 _ _ l1_2 o _ ?side1 ?side2 ?side3 ?side4 ?side5 ?side6 ?side7 ?side8 ?side9 ?side10 ?side11 ?side12 E.out).mono ?_);(case side1=>exact sD (zC i.out (by repeat(first|(with_reducible first|exact HB.out|apply below_alloc|apply pw_below_drewN|apply below_drew1|refine below_set ?_ b.out|refine below_set ?_ c.out)|exact HB.out))));(case side2=>exact j.out);(case side3=>exact sD (zC u.out (by repeat(first|(with_reducible first|exact HB.out|apply below_alloc|apply pw_below_drewN|apply below_drew1|refine below_set ?_ b.out|refine below_set ?_ c.out)|exact HB.out))));(case side4=>exact v.out);(case side5=>exact sD (zC x.out (by repeat(first|(with_reducible first|exact HB.out|apply below_alloc|apply pw_below_drewN|apply below_drew1|refine below_set ?_ b.out|refine below_set ?_ c.out)|exact HB.out))));(case side6=>exact y.out);(case side7=>exact sD (zC l.out (by repeat(first|(with_reducible first|exact HB.out|apply below_alloc|apply pw_below_drewN|apply below_drew1|refine below_set ?_ b.out|refine below_set ?_ c.out)|exact HB.out))));(case side8=>exact m.out);(case side9=>exact sD (zC z.out (by repeat(first|(with_reducible first|exact HB.out|apply below_alloc|apply pw_below_drewN|apply below_drew1|refine below_set ?_ b.out|refine below_set ?_ c.out)|exact HB.out))));(case side10=>exact A.out);(case side11=>exact sD (zC B.out (by repeat(first|(with_reducible first|exact HB.out|apply below_alloc|apply pw_below_drewN|apply below_drew1|refine below_set ?_ b.out|refine below_set ?_ c.out)|exact HB.out))));(case side12=>exact D.out);rintro e ac ⟨rfl,hb⟩;replace a:=sK a hb;replace d:=sK d hb;replace HB:=sB HB hb;(try clear hb)))
 go_ret
 exact⟨sq,sb⟩)
 replace g:=zB g
 subst g
 rewrite[if_neg zQ]at H
 obtain rfl:=zI H
 go_enter Try.func23,Try.ntmps23
 go_wp2_with (first|((with_reducible refine gate_dst (N:=2) rfl ?_);refine sV (N:=2) (cs:= #[.slice A0_0 l0_0.length c0_0,.slice A0_1 l0_1.length c0_1,.slice A0_2 l0_2.length c0_2]) (t:=57) ?_;intro F hg ad hbox hb;have a:=zM (hbox);have G:=sG HB hg;have b:=sG HB hg;replace HB:=sB HB hb;clear hb hbox hg)|((with_reducible refine gate_dst (N:=3) rfl ?_);refine sV (N:=3) (cs:= #[.slice A1_0 l1_0.length c1_0,.slice A1_1 l1_1.length c1_1,.slice A1_2 l1_2.length c1_2]) (t:=57) ?_;intro I hg ae hbox hb;have d:=zM (hbox);have J:=sG HB hg;have c:=sG HB hg;replace HB:=sB HB hb;have p:=sN a hg;have q:=sM a hg;replace a:=sK a hb;clear hb hbox hg;have af:=p.out;have ag:=q.out;obtain⟨ah,ai,aj,ak,al,am⟩:=cells3 a.out;obtain⟨an,ao,ap,aq,ar,au⟩:=cells3 d.out)|((with_reducible refine gate_callee (f:=67) rfl ?_);refine sC (some 9) Try.func67 #[.slice A0_0 l0_0.length c0_0,.slice A1_0 l1_0.length c1_0] (impl_Binding.calls k _ _ l0_0 _ _ l1_0 false _ ?side1 ?side2 ?side3 ?side4 s.out) ?_;(case side1=>exact sD (zC i.out HB.out));(case side2=>exact j.out);(case side3=>exact sD (zC l.out HB.out));(case side4=>exact m.out);rintro e w' ⟨rfl,⟨nd,rfl⟩⟩;refine⟨_,rfl,?_⟩))
 go_ret
 exact⟨sq,sb⟩
end Go.Proofs.Ytnneadpahjkhgaa.PFnExactSameMemory
