/- Printed functions: impl_ValidPatternCode, impl_EntryOf. -/
import Derived.Test.YtcppdkdnpmgpmaaYEoP0
import Derived.Test.YtcppdkdnpmgpmaaYEoP22
import Derived.Test.YtcppdkdnpmgpmaaYEoP24
namespace Go.Proofs.Ytcppdkdnpmgpmaa.PFnExactEntryOf
open Go.RowKit Go.Proofs.YtcppdkdnpmgpmaaG Go.Proofs.YtcppdkdnpmgpmaaW.PrintWords Go.Proofs.YtcppdkdnpmgpmaaW.PrintLast Go.Proofs.YtcppdkdnpmgpmaaW.PrintMore
attribute [local go_sem] max2_int min2_int max_two min_two max_three min_three max_four min_four
set_option linter.unusedVariables false
set_option linter.unusedSimpArgs false
def impl_ValidPatternCode.f (k:Nat) (l0_0:List (S55)) (l0_1:List (S51)):Option (Bool):=(impl_PatternCode_checked.f k l0_0 l0_1).bind fun bt380=>(some bt380.2)
set_option maxHeartbeats 8000000 in
set_option maxRecDepth 100000 in
theorem impl_ValidPatternCode.calls (k:Nat) (A0_0:Option Addr) (c0_0:Nat) (l0_0:List (S55)) (A0_1:Option Addr) (c0_1:Nat) (l0_1:List (S51)) (r:Bool) (w:World) (hr0_0:Kd.C k55 w A0_0 l0_0.length l0_0) (hc0_0:l0_0.length≤c0_0) (hr0_1:Kd.C k51 w A0_1 l0_1.length l0_1) (hc0_1:l0_1.length≤c0_1) (h:impl_ValidPatternCode.f k l0_0 l0_1=some r):
  Calls Try.prog 15 #[.agg #[.slice A0_0 l0_0.length c0_0,.slice A0_1 l0_1.length c0_1]] w fun e w'=>e= .returned (.bool r)∧Below w.heap.size w w':=by
 have q:=Try.underlying32
 have g:=zM hr0_0
 have i:=zM hc0_0
 clear hr0_0 hc0_0
 have j:=zM hr0_1
 have l:=zM hc0_1
 clear hr0_1 hc0_1
 have HB:=zM (Below.refl w.heap.size w)
 have H:((impl_PatternCode_checked.f k l0_0 l0_1).bind fun m=>(some m.2))=some r:=h
 clear h
 replace H:=Option.bind_eq_some_iff.mp H
 obtain⟨⟨n,b⟩,c,H⟩:=H
 replace H:(some b)=some r:=H
 have o:=zM c
 clear c
 obtain rfl:=zI H
 go_enter Try.func15,Try.ntmps15
 go_wp2_with (first|((with_reducible refine gate_dst (N:=1) rfl ?_);refine sV (N:=1) (cs:= #[.slice A0_0 l0_0.length c0_0,.slice A0_1 l0_1.length c0_1]) (t:=32) ?_;intro s hg u hbox hb;have a:=zM (hbox);have v:=sG HB hg;have p:=sG HB hg;replace HB:=sB HB hb;clear hb hbox hg;obtain⟨x,y,z,A⟩:=cells2 a.out)|((with_reducible refine gate_callee (f:=25) rfl ?_);refine sC (some 7) Try.func25 #[.agg #[.slice A0_0 l0_0.length c0_0,.slice A0_1 l0_1.length c0_1]] (impl_PatternCode_checked.calls k _ _ l0_0 _ _ l0_1 n b _ ?side1 ?side2 ?side3 ?side4 o.out) ?_;(case side1=>exact sD (zC g.out HB.out));(case side2=>exact i.out);(case side3=>exact sD (zC j.out HB.out));(case side4=>exact l.out);rintro e B ⟨D,rfl,d,hb⟩;refine⟨_,rfl,?_⟩;have E:=zM (Kd.R_lower d (below_size zzR));replace a:=sK a hb;replace HB:=sB HB hb;(try clear hb);(try clear d)))
 go_ret
 exact⟨sq,sb⟩
def impl_EntryOf.f (k:Nat) (l0_0:List (S55)) (l0_1:List (S51)) (a1:ByteArray):Option (Int×Bool):=(impl_ValidPatternCode.f k l0_0 l0_1).bind fun t388=>(if t388=true then((impl_PatternCode_entry.f k l0_0 l0_1 a1).bind fun bt389=>(some (bt389.1,bt389.2)))else(some (0,false)))
set_option maxHeartbeats 8000000 in
set_option maxRecDepth 100000 in
theorem impl_EntryOf.calls (k:Nat) (A0_0:Option Addr) (c0_0:Nat) (l0_0:List (S55)) (A0_1:Option Addr) (c0_1:Nat) (l0_1:List (S51)) (a1:ByteArray) (r1:Int) (r2:Bool) (w:World) (hr0_0:Kd.C k55 w A0_0 l0_0.length l0_0) (hc0_0:l0_0.length≤c0_0) (hr0_1:Kd.C k51 w A0_1 l0_1.length l0_1) (hc0_1:l0_1.length≤c0_1) (h:impl_EntryOf.f k l0_0 l0_1 a1=some (r1,r2)):
  Calls Try.prog 7 #[.agg #[.slice A0_0 l0_0.length c0_0,.slice A0_1 l0_1.length c0_1],.string a1] w fun e w'=>e= .returned (.tuple #[.int .i64 r1,.bool r2])∧Below w.heap.size w w':=by
 have x:=Try.underlying32
 have c:=zM hr0_0
 have d:=zM hc0_0
 clear hr0_0 hc0_0
 have g:=zM hr0_1
 have i:=zM hc0_1
 clear hr0_1 hc0_1
 have HB:=zM (Below.refl w.heap.size w)
 have H:((impl_ValidPatternCode.f k l0_0 l0_1).bind fun j=>(if j=true then((impl_PatternCode_entry.f k l0_0 l0_1 a1).bind fun l=>(some (l.1,l.2)))else(some (0,false))))=some (r1,r2):=h
 clear h
 obtain⟨j,m,H⟩:=sO H
 by_cases b:j=true
 ·(
 subst b
 rewrite[if_pos rfl]at H
 replace H:=Option.bind_eq_some_iff.mp H
 obtain⟨⟨n,o⟩,p,H⟩:=H
 replace H:(some (n,o))=some (r1,r2):=H
 have q:=zM p
 clear p
 simp only[Option.some.injEq,Prod.mk.injEq]at H
 obtain⟨rfl,rfl⟩:=H
 go_enter Try.func7,Try.ntmps7
 go_wp2_with (first|((with_reducible refine gate_dst (N:=2) rfl ?_);refine sV (N:=2) (cs:= #[.slice A0_0 l0_0.length c0_0,.slice A0_1 l0_1.length c0_1]) (t:=32) ?_;intro s hg y hbox hb;have a:=zM (hbox);have u:=sG HB hg;have v:=sG HB hg;replace HB:=sB HB hb;clear hb hbox hg;obtain⟨z,A,B,D⟩:=cells2 a.out)|((with_reducible refine gate_callee (f:=15) rfl ?_);refine sC (some 7) Try.func15 #[.agg #[.slice A0_0 l0_0.length c0_0,.slice A0_1 l0_1.length c0_1]] (impl_ValidPatternCode.calls k _ _ l0_0 _ _ l0_1 true _ ?side1 ?side2 ?side3 ?side4 m.out) ?_;(case side1=>exact sD (zC c.out HB.out));(case side2=>exact d.out);(case side3=>exact sD (zC g.out HB.out));(case side4=>exact i.out);rintro e E ⟨rfl,hb⟩;refine⟨_,rfl,?_⟩;replace a:=sK a hb;replace HB:=sB HB hb;(try clear hb);obtain⟨F,G,I,J⟩:=cells2 a.out)|((with_reducible refine gate_callee (f:=16) rfl ?_);refine sC (some 11) Try.func16 #[.agg #[.slice A0_0 l0_0.length c0_0,.slice A0_1 l0_1.length c0_1],.string a1] (impl_PatternCode_entry.calls k _ _ l0_0 _ _ l0_1 a1 n o _ ?side1 ?side2 ?side3 ?side4 q.out) ?_;(case side1=>exact sD (zC c.out HB.out));(case side2=>exact d.out);(case side3=>exact sD (zC g.out HB.out));(case side4=>exact i.out);rintro e K ⟨rfl,hb⟩;refine⟨_,rfl,?_⟩;replace a:=sK a hb;replace HB:=sB HB hb;(try clear hb)))
 go_ret2
 exact⟨sq,sb⟩)
 replace b:=zB b
 subst b
 rewrite[if_neg zQ]at H
 simp only[Option.some.injEq,Prod.mk.injEq]at H
 obtain⟨rfl,rfl⟩:=H
 go_enter Try.func7,Try.ntmps7
 go_wp2_with (first|((with_reducible refine gate_dst (N:=2) rfl ?_);refine sV (N:=2) (cs:= #[.slice A0_0 l0_0.length c0_0,.slice A0_1 l0_1.length c0_1]) (t:=32) ?_;intro s hg L hbox hb;have a:=zM (hbox);have u:=sG HB hg;have v:=sG HB hg;replace HB:=sB HB hb;clear hb hbox hg;obtain⟨M,O,P,Q⟩:=cells2 a.out)|((with_reducible refine gate_callee (f:=15) rfl ?_);refine sC (some 7) Try.func15 #[.agg #[.slice A0_0 l0_0.length c0_0,.slice A0_1 l0_1.length c0_1]] (impl_ValidPatternCode.calls k _ _ l0_0 _ _ l0_1 false _ ?side1 ?side2 ?side3 ?side4 m.out) ?_;(case side1=>exact sD (zC c.out HB.out));(case side2=>exact d.out);(case side3=>exact sD (zC g.out HB.out));(case side4=>exact i.out);rintro e R ⟨rfl,hb⟩;refine⟨_,rfl,?_⟩;replace a:=sK a hb;replace HB:=sB HB hb;(try clear hb)))
 go_ret2
 exact⟨sq,sb⟩
end Go.Proofs.Ytcppdkdnpmgpmaa.PFnExactEntryOf
