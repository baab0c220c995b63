/- Printed functions: spec_l08Valid, spec_Reachable. -/
import Derived.Test.YtengilknjiobiaaYReP0
import Derived.Test.YtengilknjiobiaaYReP9
import Derived.Test.YtengilknjiobiaaYReP11
import Derived.Test.YtengilknjiobiaaYReP14
namespace Go.Proofs.Ytengilknjiobiaa.PFnExactReachable
open Go.RowKit Go.Proofs.YtengilknjiobiaaG Go.Proofs.YtengilknjiobiaaW.PrintWords Go.Proofs.YtengilknjiobiaaW.PrintLast Go.Proofs.YtengilknjiobiaaW.PrintMore
attribute [local go_sem] max2_int min2_int max_two min_two max_three min_three max_four min_four
set_option linter.unusedVariables false
set_option linter.unusedSimpArgs false
def spec_l08Valid.f (k:Nat) (l0:List (S34)) (l1:List (S29)):Option (Bool):=(spec_l07Ok.f k l0).bind fun t234=>(if t234=true then((spec_l07FitAll.f k l0 l1).bind fun t235=>(some t235))else(some false))
set_option maxHeartbeats 8000000 in
set_option maxRecDepth 100000 in
theorem spec_l08Valid.calls (k:Nat) (A0:Option Addr) (l0:List (S34)) (A1:Option Addr) (c1:Nat) (l1:List (S29)) (r:Bool) (w:World) (hr0:Kd.C k34 w A0 l0.length l0) (hr1:Kd.C k29 w A1 l1.length l1) (hc1:l1.length≤c1) (h:spec_l08Valid.f k l0 l1=some r):
  Calls Try.prog 66 #[.pointer A0,.slice A1 l1.length c1] w fun e w'=>e= .returned (.bool r)∧Below w.heap.size w w':=by
 have b:=zM hr0
 have m:=zM (Nat.le_refl l0.length)
 clear hr0
 have i:=zM hr1
 have j:=zM hc1
 clear hr1 hc1
 have HB:=zM (Below.refl w.heap.size w)
 have H:((spec_l07Ok.f k l0).bind fun c=>(if c=true then((spec_l07FitAll.f k l0 l1).bind fun d=>(some d))else(some false)))=some r:=h
 clear h
 obtain⟨c,g,H⟩:=sO H
 by_cases a:c=true
 ·(
 subst a
 rewrite[if_pos rfl]at H
 obtain⟨d,l,H⟩:=sO H
 obtain rfl:=zI H
 go_enter Try.func66,Try.ntmps66
 go_wp2_with (first|((with_reducible refine gate_callee (f:=72) rfl ?_);refine sC (some 6) Try.func72 #[.pointer A0] (spec_l07Ok.calls k _ l0 true _ ?side1 g.out) ?_;(case side1=>exact sD b.out);rintro e n ⟨rfl,hb⟩;refine⟨_,rfl,?_⟩;replace HB:=sB HB hb;(try clear hb))|(go_at_call 73;(with_reducible refine(spec_l07FitAll.calls k _ l0 _ _ l1 d _ ?side1 ?side2 ?side3 l.out).mono ?_);(case side1=>exact sD (zC b.out HB.out));(case side2=>exact sD (zC i.out HB.out));(case side3=>exact j.out);rintro e o ⟨rfl,hb⟩;replace HB:=sB HB hb;(try clear hb)))
 go_ret
 exact⟨sq,sb⟩)
 replace a:=zB a
 subst a
 rewrite[if_neg zQ]at H
 obtain rfl:=zI H
 go_enter Try.func66,Try.ntmps66
 go_wp2_with (first|((with_reducible refine gate_callee (f:=72) rfl ?_);refine sC (some 6) Try.func72 #[.pointer A0] (spec_l07Ok.calls k _ l0 false _ ?side1 g.out) ?_;(case side1=>exact sD b.out);rintro e p ⟨rfl,hb⟩;refine⟨_,rfl,?_⟩;replace HB:=sB HB hb;(try clear hb)))
 go_ret
 exact⟨sq,sb⟩
def spec_Reachable.f (k:Nat) (a0_0:Int) (l0_1:List (S56)) (l1:List (S29)):Option (List Int):=(spec_l08Valid.f k [(⟨a0_0,l0_1⟩:S34)] l1).bind fun t266=>(if t266=true then((spec_l08Trace.f k [(⟨a0_0,l0_1⟩:S34)] l1).bind fun t267=>(some t267))else(some (([]:List Int))))
set_option maxHeartbeats 8000000 in
set_option maxRecDepth 100000 in
theorem spec_Reachable.calls (k:Nat) (a0_0:Int) (A0_1:Option Addr) (c0_1:Nat) (l0_1:List (S56)) (A1:Option Addr) (c1:Nat) (l1:List (S29)) (r:List Int) (w:World) (hr0_1:Kd.C k56 w A0_1 l0_1.length l0_1) (hc0_1:l0_1.length≤c0_1) (hr1:Kd.C k29 w A1 l1.length l1) (hc1:l1.length≤c1) (h:spec_Reachable.f k a0_0 l0_1 l1=some r):
  Calls Try.prog 38 #[.agg #[.int .i64 a0_0,.slice A0_1 l0_1.length c0_1],.slice A1 l1.length c1] w fun e w'=>∃q:Value,e= .returned (q)∧Kd.R (Kd.int .i64) 2 w' w.heap.size (fun _=>True) q r∧Below w.heap.size w w':=by
 have F:=Try.underlying34
 have g:=zM hr0_1
 have i:=zM hc0_1
 clear hr0_1 hc0_1
 have j:=zM hr1
 have l:=zM hc1
 clear hr1 hc1
 have HB:=zM (Below.refl w.heap.size w)
 have H:((spec_l08Valid.f k [(⟨a0_0,l0_1⟩:S34)] l1).bind fun m=>(if m=true then((spec_l08Trace.f k [(⟨a0_0,l0_1⟩:S34)] l1).bind fun n=>(some n))else(some (([]:List Int)))))=some r:=h
 clear h
 obtain⟨m,s,H⟩:=sO H
 by_cases c:m=true
 ·(
 subst c
 rewrite[if_pos rfl]at H
 obtain⟨n,x,H⟩:=sO H
 obtain rfl:=zI H
 go_enter Try.func38,Try.ntmps38
 go_wp2_with (first|((with_reducible refine gate_dst (N:=2) rfl ?_);refine sV (N:=2) (cs:= #[.int .i64 a0_0,.slice A0_1 l0_1.length c0_1]) (t:=34) ?_;intro d hg G hbox hb;have a:=zM (hbox);have y:=sG HB hg;have o:=sG HB hg;replace HB:=sB HB hb;clear hb hbox hg)|((with_reducible refine gate_callee (f:=66) rfl ?_);refine sC (some 6) Try.func66 #[.pointer (some ⟨d,0,none⟩),.slice A1 l1.length c1] (spec_l08Valid.calls k _ [(⟨a0_0,l0_1⟩:S34)] _ _ l1 true _ ?side1 ?side2 ?side3 s.out) ?_;(case side1=>exact C_box (t:=34) (sT a.out) (k34_mk _ (⟨a0_0,l0_1⟩:S34) (by exact i.out) (by exact sD (zC g.out HB.out))));(case side2=>exact sD (zC j.out HB.out));(case side3=>exact l.out);rintro e I ⟨rfl,hb⟩;refine⟨_,rfl,?_⟩;replace a:=sK a hb;replace HB:=sB HB hb;(try clear hb))|((with_reducible refine gate_callee (f:=68) rfl ?_);refine sC (some 10) Try.func68 #[.pointer (some ⟨d,0,none⟩),.slice A1 l1.length c1] (spec_l08Trace.calls k _ [(⟨a0_0,l0_1⟩:S34)] _ _ l1 n _ ?side1 ?side2 ?side3 x.out) ?_;(case side1=>exact C_box (t:=34) (sT a.out) (k34_mk _ (⟨a0_0,l0_1⟩:S34) (by exact i.out) (by exact sD (zC g.out HB.out))));(case side2=>exact sD (zC j.out HB.out));(case side3=>exact l.out);rintro e J ⟨K,rfl,u,hb⟩;refine⟨_,rfl,?_⟩;have z:=zM (Kd.R_lower u (below_size zzR));replace a:=sK a hb;replace HB:=sB HB hb;(try clear hb);(try clear u)))
 go_ret
 exact⟨_,sq,by exact sE z.out,sb⟩)
 replace c:=zB c
 subst c
 rewrite[if_neg zQ]at H
 obtain⟨y270,hy270⟩:∃A:List Int,A=(([]:List Int)):=⟨_,rfl⟩
 replace H:(some y270)=some r:=by first|(rw[hy270];with_reducible exact H)|(have p:=(Option.bind_some _ _).symm.trans H;rw[hy270];with_reducible exact p)|(have p:=(Option.bind_some _ _).symm.trans H;with_reducible exact p)|with_reducible exact H|(rw[hy270];exact H)|exact H
 have v:=zM hy270
 clear hy270
 obtain rfl:=zI H
 go_enter Try.func38,Try.ntmps38
 go_wp2_with (first|((with_reducible refine gate_dst (N:=2) rfl ?_);refine sV (N:=2) (cs:= #[.int .i64 a0_0,.slice A0_1 l0_1.length c0_1]) (t:=34) ?_;intro d hg L hbox hb;have a:=zM (hbox);have y:=sG HB hg;have o:=sG HB hg;replace HB:=sB HB hb;clear hb hbox hg)|((with_reducible refine gate_callee (f:=66) rfl ?_);refine sC (some 6) Try.func66 #[.pointer (some ⟨d,0,none⟩),.slice A1 l1.length c1] (spec_l08Valid.calls k _ [(⟨a0_0,l0_1⟩:S34)] _ _ l1 false _ ?side1 ?side2 ?side3 s.out) ?_;(case side1=>exact C_box (t:=34) (sT a.out) (k34_mk _ (⟨a0_0,l0_1⟩:S34) (by exact i.out) (by exact sD (zC g.out HB.out))));(case side2=>exact sD (zC j.out HB.out));(case side3=>exact l.out);rintro e M ⟨rfl,hb⟩;refine⟨_,rfl,?_⟩;replace a:=sK a hb;replace HB:=sB HB hb;(try clear hb))|((with_reducible refine gate_dst (N:=8) rfl ?_);refine Kd.R_lit (Kd.int .i64) _ 2 ?hg (N:=8) ?hd (xs:=([]:List Int)) (inner:=[]) (ok:=fun _=>True) (okp:=fun _=>True) ?hr ?hp (fun _ hk=>hk) trivial (Below.refl _ _) (Nat.le_refl _) (by simp) ?_;(case hd=>rfl);(case hg=>rfl);(case hr=>first|(go_simp;done)|(go_simp;rfl));(case hp=>exact(Reps.none _ _));intro O P b hb B D;clear B D;(first|rw[←v.out]at b|(simp only[Int.reduceToNat]at b;rw[←v.out]at b));have E:=zM (Kd.R_lower b (below_size zzR));replace a:=sK a hb;replace HB:=sB HB hb;clear hb b))
 go_ret
 exact⟨_,sq,by exact sE E.out,sb⟩
end Go.Proofs.Ytengilknjiobiaa.PFnExactReachable
