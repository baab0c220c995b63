/- Printed functions: laws_FnExactValidEnv. -/
import Derived.Test.YtdihlgkcpooadaaYVeP0
import Derived.Test.YtdihlgkcpooadaaYVeP1
import Derived.Test.YtdihlgkcpooadaaYVeP3
import Derived.Test.YtdihlgkcpooadaaYVeP7
import Derived.Test.YtdihlgkcpooadaaYVeP13
import Derived.Test.YtdihlgkcpooadaaYVeP15
namespace Go.Proofs.Ytdihlgkcpooadaa.PFnExactValidEnv
open Go.RowKit Go.Proofs.YtdihlgkcpooadaaG Go.Proofs.YtdihlgkcpooadaaW.PrintWords Go.Proofs.YtdihlgkcpooadaaW.PrintLast Go.Proofs.YtdihlgkcpooadaaW.PrintMore
attribute [local go_sem] max2_int min2_int max_two min_two max_three min_three max_four min_four
set_option linter.unusedVariables false
set_option linter.unusedSimpArgs false
def laws_FnExactValidEnv.f (k:Nat) (l0:List (S49)):Option (Bool):=(laws_szNamedS.f k l0 1048576).bind fun t241=>(if t241<0 then(some true)else((laws_toNamedS.f k l0).bind fun t242=>((spec_ValidEnv.f k t242).bind fun t245=>((laws_toNamedS.f k l0).bind fun t246=>((impl_ValidEnv.f k t246).bind fun t249=>(if(t249 !=t245)=true then(some false)else((laws_toNamedS.f k l0).bind fun t250=>((laws_eqNamedS.f k t246 t250).bind fun t253=>(if t253=true then(some true)else(some false))))))))))
set_option maxHeartbeats 8000000 in
set_option maxRecDepth 100000 in
theorem laws_FnExactValidEnv.calls (k:Nat) (A0:Option Addr) (c0:Nat) (l0:List (S49)) (w:World) (hr0:Kd.C k49 w A0 l0.length l0) (hc0:l0.length≤c0) (h:laws_FnExactValidEnv.f k l0=some true):
  Calls Try.prog 3 #[.slice A0 l0.length c0] w fun e w'=>e= .returned (.bool true)∧Below w.heap.size w w':=by
 have m:=zM hr0
 have n:=zM hc0
 clear hr0 hc0
 have HB:=zM (Below.refl w.heap.size w)
 have H:((laws_szNamedS.f k l0 1048576).bind fun o=>(if o<0 then(some true)else((laws_toNamedS.f k l0).bind fun p=>((spec_ValidEnv.f k p).bind fun c=>((laws_toNamedS.f k l0).bind fun j=>((impl_ValidEnv.f k j).bind fun d=>(if(d !=c)=true then(some false)else((laws_toNamedS.f k l0).bind fun q=>((laws_eqNamedS.f k j q).bind fun t=>(if t=true then(some true)else(some false)))))))))))=some true:=h
 clear h
 obtain⟨o,u,H⟩:=sO H
 by_cases l:o<0
 ·(
 rw[if_pos l]at H
 have c3b0:=zT l
 clear l
 clear H
 go_enter Try.func3,Try.ntmps3
 go_wp2_with (first|((with_reducible refine gate_callee (f:=7) rfl ?_);refine sC (some 9) Try.func7 #[.slice A0 l0.length c0,.int .i64 1048576] (laws_szNamedS.calls k _ _ l0 1048576 o _ ?side1 ?side2 u.out) ?_;(case side1=>exact sD m.out);(case side2=>exact n.out);rintro e O ⟨rfl,hb⟩;refine⟨_,rfl,?_⟩;replace HB:=sB HB hb;(try clear hb)))
 go_ret
 exact⟨sq,sb⟩)
 rw[if_neg l]at H
 have c3b0:=zF l
 clear l
 obtain⟨p,z,H⟩:=sO H
 obtain⟨c,A,H⟩:=sO H
 obtain⟨j,B,H⟩:=sO H
 obtain⟨d,D,H⟩:=sO H
 by_cases g:(d !=c)=true
 ·(
 rw[if_pos g]at H
 have c9b0:(d !=c)=true:=g
 (try(have c9b1:decide (d=c)=false:=by simpa using g))
 (try(have c9b2:(d==c)=false:=by simpa using g))
 (try(have c9b3:¬(d=c):=by simpa using g))
 clear g
 exact absurd H (by simp))
 rw[if_neg g]at H
 have c9b0:(d !=c)=false:=by simpa using g
 (try(have c9b1:decide (d=c)=true:=by simpa using g))
 (try(have c9b2:(d==c)=true:=by simpa using g))
 clear g
 obtain⟨q,E,H⟩:=sO H
 obtain⟨t,F,H⟩:=sO H
 by_cases s:t=true
 ·(
 subst s
 have v:(some true)=some true:=rfl
 clear H
 have H:=v
 clear v
 clear H
 go_enter Try.func3,Try.ntmps3
 go_wp2_with (first|((with_reducible refine gate_callee (f:=7) rfl ?_);refine sC (some 9) Try.func7 #[.slice A0 l0.length c0,.int .i64 1048576] (laws_szNamedS.calls k _ _ l0 1048576 o _ ?side1 ?side2 u.out) ?_;(case side1=>exact sD m.out);(case side2=>exact n.out);rintro e P ⟨rfl,hb⟩;refine⟨_,rfl,?_⟩;replace HB:=sB HB hb;(try clear hb))|((with_reducible refine gate_callee (f:=9) rfl ?_);refine sC (some 13) Try.func9 #[.slice A0 l0.length c0] (laws_toNamedS.calls k _ _ l0 p _ ?side1 ?side2 z.out) ?_;(case side1=>exact sD (zC m.out HB.out));(case side2=>exact n.out);rintro e Q ⟨R,rfl,i,hb⟩;refine⟨_,rfl,?_⟩;have a:=zM (Kd.R_lower i (below_size (sH HB.out)));replace HB:=sB HB hb;(try clear hb);(try clear i);obtain⟨G,I,J⟩:=Kd.R_slice a.out;subst J)|((with_reducible refine gate_callee (f:=8) rfl ?_);refine sC (some 14) Try.func8 #[.slice G p.length I] (spec_ValidEnv.calls k _ _ p c _ ?side1 ?side2 A.out) ?_;(case side1=>exact sD ((Kd.R_reads' a.out).2.2));(case side2=>exact(Kd.R_reads' a.out).2.1);rintro e S ⟨rfl,hb⟩;refine⟨_,rfl,?_⟩;replace a:=zM (Kd.R_below (sE a.out) hb);replace HB:=sB HB hb;(try clear hb))|((with_reducible refine gate_callee (f:=9) rfl ?_);refine sC (some 16) Try.func9 #[.slice A0 l0.length c0] (laws_toNamedS.calls k _ _ l0 j _ ?side1 ?side2 B.out) ?_;(case side1=>exact sD (zC m.out HB.out));(case side2=>exact n.out);rintro e T ⟨U,rfl,i,hb⟩;refine⟨_,rfl,?_⟩;have b:=zM (Kd.R_lower (Kd.R_new' i (Kd.R_lt (sE a.out))) (below_size (sH HB.out)));replace a:=zM (Kd.R_elder' (sE a.out) (Kd.R_base i) hb);replace HB:=sB HB hb;(try clear hb);(try clear i);obtain⟨x,y,K⟩:=Kd.R_slice b.out;subst K)|((with_reducible refine gate_callee (f:=10) rfl ?_);refine sC (some 18) Try.func10 #[.slice x j.length y] (impl_ValidEnv.calls k _ _ j d _ ?side1 ?side2 D.out) ?_;(case side1=>exact sD ((Kd.R_reads' b.out).2.2));(case side2=>exact(Kd.R_reads' b.out).2.1);rintro e V ⟨rfl,hb⟩;refine⟨_,rfl,?_⟩;replace a:=zM (Kd.R_below (sE a.out) hb);replace b:=zM (Kd.R_below (sE b.out) hb);replace HB:=sB HB hb;(try clear hb))|((with_reducible refine gate_callee (f:=9) rfl ?_);refine sC (some 24) Try.func9 #[.slice A0 l0.length c0] (laws_toNamedS.calls k _ _ l0 q _ ?side1 ?side2 E.out) ?_;(case side1=>exact sD (zC m.out HB.out));(case side2=>exact n.out);rintro e W ⟨X,rfl,i,hb⟩;refine⟨_,rfl,?_⟩;have r:=zM (Kd.R_lower (Kd.R_new' (Kd.R_new' i (Kd.R_lt (sE a.out))) (Kd.R_lt (sE b.out))) (below_size (sH HB.out)));replace a:=zM (Kd.R_elder' (sE a.out) (Kd.R_base i) hb);replace b:=zM (Kd.R_elder' (sE b.out) (Kd.R_base i) hb);replace HB:=sB HB hb;(try clear hb);(try clear i);obtain⟨L,M,N⟩:=Kd.R_slice r.out;subst N)|((with_reducible refine gate_callee (f:=11) rfl ?_);refine sC (some 25) Try.func11 #[.slice x j.length y,.slice L q.length M] (laws_eqNamedS.calls k _ _ j _ _ q true _ ?side1 ?side2 ?side3 ?side4 F.out) ?_;(case side1=>exact sD ((Kd.R_reads' b.out).2.2));(case side2=>exact(Kd.R_reads' b.out).2.1);(case side3=>exact sD ((Kd.R_reads' r.out).2.2));(case side4=>exact(Kd.R_reads' r.out).2.1);rintro e Y ⟨rfl,hb⟩;refine⟨_,rfl,?_⟩;replace a:=zM (Kd.R_below (sE a.out) hb);replace b:=zM (Kd.R_below (sE b.out) hb);replace r:=zM (Kd.R_below (sE r.out) hb);replace HB:=sB HB hb;(try clear hb)))
 go_ret
 exact⟨sq,sb⟩)
 replace s:=zB s
 subst s
 rewrite[if_neg zQ]at H
 exact absurd H (by simp)
end Go.Proofs.Ytdihlgkcpooadaa.PFnExactValidEnv
