/- Printed functions: impl_RefsOf. -/
import Derived.Test.YtengilknjiobiaaYRoP0
import Derived.Test.YtengilknjiobiaaYRoP14
import Derived.Test.YtengilknjiobiaaYRoP16
namespace Go.Proofs.Ytengilknjiobiaa.PFnExactRefsOf
open Go.RowKit Go.Proofs.YtengilknjiobiaaG Go.Proofs.YtengilknjiobiaaW.PrintWords Go.Proofs.YtengilknjiobiaaW.PrintLast Go.Proofs.YtengilknjiobiaaW.PrintMore
attribute [local go_sem] max2_int min2_int max_two min_two max_three min_three max_four min_four
set_option linter.unusedVariables false
set_option linter.unusedSimpArgs false
def impl_RefsOf.f (k:Nat) (a0_0:Int) (a0_1:Int) (a0_2:ByteArray) (a0_3:Int) (l0_4:List (S29)) (l0_5:List (S29)) (a0_6:Int) (a0_7:Int) (a0_8:ByteArray) (a0_9:Int):Option (List Int):=(impl_ValidObject.f k a0_0 a0_1 a0_2 a0_3 l0_4 l0_5 a0_6 a0_7 a0_8 a0_9).bind fun t434=>(if t434=true then((impl_Object_refs.f k a0_0 a0_1 a0_2 a0_3 l0_4 l0_5 a0_6 a0_7 a0_8 a0_9).bind fun t435=>(some t435))else(some ([]:List Int)))
set_option maxHeartbeats 8000000 in
set_option maxRecDepth 100000 in
theorem impl_RefsOf.calls (k:Nat) (a0_0:Int) (a0_1:Int) (a0_2:ByteArray) (a0_3:Int) (A0_4:Option Addr) (c0_4:Nat) (l0_4:List (S29)) (A0_5:Option Addr) (c0_5:Nat) (l0_5:List (S29)) (a0_6:Int) (a0_7:Int) (a0_8:ByteArray) (a0_9:Int) (r:List Int) (w:World) (hr0_4:Kd.C k29 w A0_4 l0_4.length l0_4) (hc0_4:l0_4.length≤c0_4) (hr0_5:Kd.C k29 w A0_5 l0_5.length l0_5) (hc0_5:l0_5.length≤c0_5) (h:impl_RefsOf.f k a0_0 a0_1 a0_2 a0_3 l0_4 l0_5 a0_6 a0_7 a0_8 a0_9=some r):
  Calls Try.prog 28 #[.agg #[.int .i64 a0_0,.int .i64 a0_1,.string a0_2,.int .i64 a0_3,.slice A0_4 l0_4.length c0_4,.slice A0_5 l0_5.length c0_5,.int .i64 a0_6,.int .i64 a0_7,.string a0_8,.int .i64 a0_9]] w fun e w'=>∃m:Value,e= .returned (m)∧Kd.R (Kd.int .i64) 2 w' w.heap.size (fun _=>True) m r∧Below w.heap.size w w':=by
 have x:=Try.underlying56
 have c:=zM hr0_4
 have d:=zM hc0_4
 clear hr0_4 hc0_4
 have g:=zM hr0_5
 have i:=zM hc0_5
 clear hr0_5 hc0_5
 have HB:=zM (Below.refl w.heap.size w)
 have H:((impl_ValidObject.f k a0_0 a0_1 a0_2 a0_3 l0_4 l0_5 a0_6 a0_7 a0_8 a0_9).bind fun j=>(if j=true then((impl_Object_refs.f k a0_0 a0_1 a0_2 a0_3 l0_4 l0_5 a0_6 a0_7 a0_8 a0_9).bind fun l=>(some l))else(some ([]:List Int))))=some r:=h
 clear h
 obtain⟨j,n,H⟩:=sO H
 by_cases b:j=true
 ·(
 subst b
 rewrite[if_pos rfl]at H
 obtain⟨l,q,H⟩:=sO H
 obtain rfl:=zI H
 go_enter Try.func28,Try.ntmps28
 go_wp2_with (first|((with_reducible refine gate_dst (N:=1) rfl ?_);refine sV (N:=1) (cs:= #[.int .i64 a0_0,.int .i64 a0_1,.string a0_2,.int .i64 a0_3,.slice A0_4 l0_4.length c0_4,.slice A0_5 l0_5.length c0_5,.int .i64 a0_6,.int .i64 a0_7,.string a0_8,.int .i64 a0_9]) (t:=56) ?_;intro s hg y hbox hb;have a:=zM (hbox);have u:=sG HB hg;have o:=sG HB hg;replace HB:=sB HB hb;clear hb hbox hg;obtain⟨z,A,B,D,E,F,G,I,J,K,L,M,O,P,Q,S,T,U,V,W⟩:=cells10 a.out)|((with_reducible refine gate_callee (f:=64) rfl ?_);refine sC (some 4) Try.func64 #[.agg #[.int .i64 a0_0,.int .i64 a0_1,.string a0_2,.int .i64 a0_3,.slice A0_4 l0_4.length c0_4,.slice A0_5 l0_5.length c0_5,.int .i64 a0_6,.int .i64 a0_7,.string a0_8,.int .i64 a0_9]] (impl_ValidObject.calls k a0_0 a0_1 a0_2 a0_3 _ _ l0_4 _ _ l0_5 a0_6 a0_7 a0_8 a0_9 true _ ?side1 ?side2 ?side3 ?side4 n.out) ?_;(case side1=>exact sD (zC c.out HB.out));(case side2=>exact d.out);(case side3=>exact sD (zC g.out HB.out));(case side4=>exact i.out);rintro e X ⟨rfl,hb⟩;refine⟨_,rfl,?_⟩;replace a:=sK a hb;replace HB:=sB HB hb;(try clear hb);obtain⟨Y,Z,aa,ab,ac,ad,ae,af,ag,ah,ai,aj,ak,al,am,an,ao,ap,aq,ar⟩:=cells10 a.out)|((with_reducible refine gate_callee (f:=65) rfl ?_);refine sC (some 7) Try.func65 #[.agg #[.int .i64 a0_0,.int .i64 a0_1,.string a0_2,.int .i64 a0_3,.slice A0_4 l0_4.length c0_4,.slice A0_5 l0_5.length c0_5,.int .i64 a0_6,.int .i64 a0_7,.string a0_8,.int .i64 a0_9]] (impl_Object_refs.calls k a0_0 a0_1 a0_2 a0_3 _ _ l0_4 _ _ l0_5 a0_6 a0_7 a0_8 a0_9 l _ ?side1 ?side2 ?side3 ?side4 q.out) ?_;(case side1=>exact sD (zC c.out HB.out));(case side2=>exact d.out);(case side3=>exact sD (zC g.out HB.out));(case side4=>exact i.out);rintro e w9 ⟨au,rfl,p,hb⟩;refine⟨_,rfl,?_⟩;have v:=zM (Kd.R_lower p (below_size zzR));replace a:=sK a hb;replace HB:=sB HB hb;(try clear hb);(try clear p)))
 go_ret
 exact⟨_,sq,by exact sE v.out,sb⟩)
 replace b:=zB b
 subst b
 rewrite[if_neg zQ]at H
 obtain rfl:=zI H
 go_enter Try.func28,Try.ntmps28
 go_wp2_with (first|((with_reducible refine gate_dst (N:=1) rfl ?_);refine sV (N:=1) (cs:= #[.int .i64 a0_0,.int .i64 a0_1,.string a0_2,.int .i64 a0_3,.slice A0_4 l0_4.length c0_4,.slice A0_5 l0_5.length c0_5,.int .i64 a0_6,.int .i64 a0_7,.string a0_8,.int .i64 a0_9]) (t:=56) ?_;intro s hg av hbox hb;have a:=zM (hbox);have u:=sG HB hg;have o:=sG HB hg;replace HB:=sB HB hb;clear hb hbox hg;obtain⟨aw,ax,ay,az,aA,aB,aC,aD,aE,aF,aG,aH,aI,aJ,aK,aL,aM,aN,aO,aP⟩:=cells10 a.out)|((with_reducible refine gate_callee (f:=64) rfl ?_);refine sC (some 4) Try.func64 #[.agg #[.int .i64 a0_0,.int .i64 a0_1,.string a0_2,.int .i64 a0_3,.slice A0_4 l0_4.length c0_4,.slice A0_5 l0_5.length c0_5,.int .i64 a0_6,.int .i64 a0_7,.string a0_8,.int .i64 a0_9]] (impl_ValidObject.calls k a0_0 a0_1 a0_2 a0_3 _ _ l0_4 _ _ l0_5 a0_6 a0_7 a0_8 a0_9 false _ ?side1 ?side2 ?side3 ?side4 n.out) ?_;(case side1=>exact sD (zC c.out HB.out));(case side2=>exact d.out);(case side3=>exact sD (zC g.out HB.out));(case side4=>exact i.out);rintro e aQ ⟨rfl,hb⟩;refine⟨_,rfl,?_⟩;replace a:=sK a hb;replace HB:=sB HB hb;(try clear hb)))
 go_ret
 exact⟨_,sq,by first|exact Kd.R_nil _ _ _ _ _|exact Kd.N_nil _ _ _ _ _|exact Kd.V_nil _ _ _ _ _|exact Kd.Q_nil _ _ _ _ _|exact Kd.S_nil _ _ _ _ _,sb⟩
end Go.Proofs.Ytengilknjiobiaa.PFnExactRefsOf
