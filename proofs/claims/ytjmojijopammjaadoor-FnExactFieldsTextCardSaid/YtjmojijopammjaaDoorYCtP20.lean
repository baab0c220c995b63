/- Printed functions: laws_FnExactFieldsText. -/
import Derived.Test.YtjmojijopammjaaDoorYCtP0
import Derived.Test.YtjmojijopammjaaDoorYCtP15
import Derived.Test.YtjmojijopammjaaDoorYCtP16
import Derived.Test.YtjmojijopammjaaDoorYCtP17
import Derived.Test.YtjmojijopammjaaDoorYCtP19
namespace Go.Proofs.YtjmojijopammjaaDoor.PFnExactCaptureText
open Go.RowKit Go.Proofs.YtjmojijopammjaaDoorG Go.Proofs.YtjmojijopammjaaDoorW.PrintWords Go.Proofs.YtjmojijopammjaaDoorW.PrintLast Go.Proofs.YtjmojijopammjaaDoorW.PrintMore
attribute [local go_sem] max2_int min2_int max_two min_two max_three min_three max_four min_four
set_option linter.unusedVariables false
set_option linter.unusedSimpArgs false
def laws_FnExactFieldsText.f (k:Nat) (l0:List (S62)):Option (Bool):=(laws_szFieldS.f k l0 1048576).bind fun t307=>(if t307<0 then(some true)else((laws_toFieldS.f k l0).bind fun t308=>((spec_FieldsText.f k t308).bind fun t311=>((laws_toFieldS.f k l0).bind fun t312=>((impl_FieldsText.f k t312).bind fun t315=>(if t315.toList=t311.toList then((laws_toFieldS.f k l0).bind fun t316=>((laws_eqFieldS.f k t312 t316).bind fun t319=>(if t319=true then(some true)else(some false))))else(some false)))))))
set_option maxHeartbeats 8000000 in
set_option maxRecDepth 100000 in
theorem laws_FnExactFieldsText.calls (k:Nat) (A0:Option Addr) (c0:Nat) (l0:List (S62)) (w:World) (hr0:Kd.C k62 w A0 l0.length l0) (hc0:l0.length≤c0) (h:laws_FnExactFieldsText.f k l0=some true) (HT:EnvT w):
  Calls Tryd.prog 4 #[.slice A0 l0.length c0] w fun e w'=>e= .returned (.bool true)∧Below w.heap.size w w':=by
 have m:=zM hr0
 have n:=zM hc0
 clear hr0 hc0
 have HB:=zM (Below.refl w.heap.size w)
 have H:((laws_szFieldS.f k l0 1048576).bind fun o=>(if o<0 then(some true)else((laws_toFieldS.f k l0).bind fun p=>((spec_FieldsText.f k p).bind fun d=>((laws_toFieldS.f k l0).bind fun g=>((impl_FieldsText.f k g).bind fun i=>(if i.toList=d.toList then((laws_toFieldS.f k l0).bind fun q=>((laws_eqFieldS.f k g q).bind fun t=>(if t=true then(some true)else(some false))))else(some false))))))))=some true:=h
 clear h
 obtain⟨o,u,H⟩:=sO H
 by_cases l:o<0
 ·(
 rw[if_pos l]at H
 have c3b0:=zT l
 clear l
 clear H
 go_enter Tryd.func4,Tryd.ntmps4
 go_wp2_with (first|((with_reducible refine gate_callee (f:=13) rfl ?_);refine sC (some 9) Tryd.func13 #[.slice A0 l0.length c0,.int .i64 1048576] (laws_szFieldS.calls k _ _ l0 1048576 o _ ?side1 ?side2 u.out) ?_;(case side1=>exact sD m.out);(case side2=>exact n.out);rintro e O ⟨rfl,hb⟩;refine⟨_,rfl,?_⟩;replace HB:=sB HB hb;(try clear hb)))
 go_ret
 exact⟨sq,sb⟩)
 rw[if_neg l]at H
 have c3b0:=zF l
 clear l
 obtain⟨p,z,H⟩:=sO H
 obtain⟨d,A,H⟩:=sO H
 obtain⟨g,B,H⟩:=sO H
 obtain⟨i,D,H⟩:=sO H
 by_cases j:i.toList=d.toList
 ·(
 rw[if_pos j]at H
 have c9b0:(i.toList==d.toList)=true:=zE j
 have c9b1:(i.toList !=d.toList)=false:=zY j
 clear j
 obtain⟨q,E,H⟩:=sO H
 obtain⟨t,F,H⟩:=sO H
 by_cases s:t=true
 ·(
 subst s
 have v:(some true)=some true:=rfl
 clear H
 have H:=v
 clear v
 clear H
 go_enter Tryd.func4,Tryd.ntmps4
 go_wp2_with (first|((with_reducible refine gate_callee (f:=13) rfl ?_);refine sC (some 9) Tryd.func13 #[.slice A0 l0.length c0,.int .i64 1048576] (laws_szFieldS.calls k _ _ l0 1048576 o _ ?side1 ?side2 u.out) ?_;(case side1=>exact sD m.out);(case side2=>exact n.out);rintro e P ⟨rfl,hb⟩;refine⟨_,rfl,?_⟩;replace HB:=sB HB hb;(try clear hb))|((with_reducible refine gate_callee (f:=15) rfl ?_);refine sC (some 13) Tryd.func15 #[.slice A0 l0.length c0] (laws_toFieldS.calls k _ _ l0 p _ ?side1 ?side2 z.out) ?_;(case side1=>exact sD (zC m.out HB.out));(case side2=>exact n.out);rintro e Q ⟨R,rfl,c,hb⟩;refine⟨_,rfl,?_⟩;have a:=zM (Kd.R_lower c (below_size (sH HB.out)));replace HB:=sB HB hb;(try clear hb);(try clear c);obtain⟨G,I,J⟩:=Kd.R_slice a.out;subst J)|((with_reducible refine gate_callee (f:=14) rfl ?_);refine sC (some 14) Tryd.func14 #[.slice G p.length I] (spec_FieldsText.calls k _ _ p d _ ?side1 ?side2 A.out) ?_;(case side1=>exact sD ((Kd.R_reads' a.out).2.2));(case side2=>exact(Kd.R_reads' a.out).2.1);rintro e S ⟨rfl,hb⟩;refine⟨_,rfl,?_⟩;replace a:=zM (Kd.R_below (sE a.out) hb);replace HB:=sB HB hb;(try clear hb))|((with_reducible refine gate_callee (f:=15) rfl ?_);refine sC (some 16) Tryd.func15 #[.slice A0 l0.length c0] (laws_toFieldS.calls k _ _ l0 g _ ?side1 ?side2 B.out) ?_;(case side1=>exact sD (zC m.out HB.out));(case side2=>exact n.out);rintro e T ⟨U,rfl,c,hb⟩;refine⟨_,rfl,?_⟩;have b:=zM (Kd.R_lower (Kd.R_new' c (Kd.R_lt (sE a.out))) (below_size (sH HB.out)));replace a:=zM (Kd.R_elder' (sE a.out) (Kd.R_base c) hb);replace HB:=sB HB hb;(try clear hb);(try clear c);obtain⟨x,y,K⟩:=Kd.R_slice b.out;subst K)|((with_reducible refine gate_callee (f:=16) rfl ?_);refine sC (some 18) Tryd.func16 #[.slice x g.length y] (impl_FieldsText.calls k _ _ g i _ ?side1 ?side2 D.out (by first|with_reducible exact HT|exact EnvT.below HT sb)) ?_;(case side1=>exact sD ((Kd.R_reads' b.out).2.2));(case side2=>exact(Kd.R_reads' b.out).2.1);rintro e V ⟨rfl,hb⟩;refine⟨_,rfl,?_⟩;replace a:=zM (Kd.R_below (sE a.out) hb);replace b:=zM (Kd.R_below (sE b.out) hb);replace HB:=sB HB hb;(try clear hb))|((with_reducible refine gate_callee (f:=15) rfl ?_);refine sC (some 24) Tryd.func15 #[.slice A0 l0.length c0] (laws_toFieldS.calls k _ _ l0 q _ ?side1 ?side2 E.out) ?_;(case side1=>exact sD (zC m.out HB.out));(case side2=>exact n.out);rintro e W ⟨X,rfl,c,hb⟩;refine⟨_,rfl,?_⟩;have r:=zM (Kd.R_lower (Kd.R_new' (Kd.R_new' c (Kd.R_lt (sE a.out))) (Kd.R_lt (sE b.out))) (below_size (sH HB.out)));replace a:=zM (Kd.R_elder' (sE a.out) (Kd.R_base c) hb);replace b:=zM (Kd.R_elder' (sE b.out) (Kd.R_base c) hb);replace HB:=sB HB hb;(try clear hb);(try clear c);obtain⟨L,M,N⟩:=Kd.R_slice r.out;subst N)|((with_reducible refine gate_callee (f:=17) rfl ?_);refine sC (some 25) Tryd.func17 #[.slice x g.length y,.slice L q.length M] (laws_eqFieldS.calls k _ _ g _ _ q true _ ?side1 ?side2 ?side3 ?side4 F.out) ?_;(case side1=>exact sD ((Kd.R_reads' b.out).2.2));(case side2=>exact(Kd.R_reads' b.out).2.1);(case side3=>exact sD ((Kd.R_reads' r.out).2.2));(case side4=>exact(Kd.R_reads' r.out).2.1);rintro e Y ⟨rfl,hb⟩;refine⟨_,rfl,?_⟩;replace a:=zM (Kd.R_below (sE a.out) hb);replace b:=zM (Kd.R_below (sE b.out) hb);replace r:=zM (Kd.R_below (sE r.out) hb);replace HB:=sB HB hb;(try clear hb)))
 go_ret
 exact⟨sq,sb⟩)
 replace s:=zB s
 subst s
 rewrite[if_neg zQ]at H
 exact absurd H (by simp))
 rw[if_neg j]at H
 have c9b0:(i.toList==d.toList)=false:=zN j
 have c9b1:(i.toList !=d.toList)=true:=zX j
 exact absurd H (by simp)
end Go.Proofs.YtjmojijopammjaaDoor.PFnExactCaptureText
