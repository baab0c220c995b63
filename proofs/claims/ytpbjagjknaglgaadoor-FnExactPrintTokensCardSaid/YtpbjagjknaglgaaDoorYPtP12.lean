/- Printed functions: laws_FnExactPrintTokens. -/
import Derived.Test.YtpbjagjknaglgaaDoorYPtP0
import Derived.Test.YtpbjagjknaglgaaDoorYPtP1
import Derived.Test.YtpbjagjknaglgaaDoorYPtP6
import Derived.Test.YtpbjagjknaglgaaDoorYPtP10
import Derived.Test.YtpbjagjknaglgaaDoorYPtP11
namespace Go.Proofs.YtpbjagjknaglgaaDoor.PFnExactPrintTokens
open Go.RowKit Go.Proofs.YtpbjagjknaglgaaDoorG Go.Proofs.YtpbjagjknaglgaaDoorW.PrintWords Go.Proofs.YtpbjagjknaglgaaDoorW.PrintLast Go.Proofs.YtpbjagjknaglgaaDoorW.PrintMore
attribute [local go_sem] max2_int min2_int max_two min_two max_three min_three max_four min_four   -- for this text's walks alone
set_option linter.unusedVariables false
set_option linter.unusedSimpArgs false
/-! ### laws_FnExactPrintTokens: function 4 -/
def laws_FnExactPrintTokens.f (k : Nat) (l0 : List (S23)) : Option (Bool) := (laws_szTokenS.f k l0 1048576).bind fun t222 => (if t222 < 0 then (some true) else ((laws_toTokenS.f k l0).bind fun t223 => ((spec_PrintTokens.f k t223).bind fun t226 => ((laws_toTokenS.f k l0).bind fun t227 => ((impl_PrintTokens.f k t227).bind fun t230 => (if t230.toList = t226.toList then ((laws_toTokenS.f k l0).bind fun t231 => ((laws_eqTokenS.f k t227 t231).bind fun t234 => (if t234 = true then (some true) else (some false)))) else (some false)))))))
set_option maxHeartbeats 8000000 in
set_option maxRecDepth 100000 in
theorem laws_FnExactPrintTokens.calls (k : Nat) (A0 : Option Addr) (c0 : Nat) (l0 : List (S23)) (w : World) (hr0 : Kd.C k23 w A0 l0.length l0) (hc0 : l0.length ≤ c0) (h : laws_FnExactPrintTokens.f k l0 = some true) (HT : EnvT w) :
  Calls Tryd.prog 4 #[.slice A0 l0.length c0] w fun e w' => e = .returned (.bool true) ∧ Below w.heap.size w w' := by
 have HR0 := Aside0.mk hr0
 have HC0 := Aside0.mk hc0
 clear hr0 hc0
 have HB := Aside0.mk (Below.refl w.heap.size w)
 have H : ((laws_szTokenS.f k l0 1048576).bind fun t222 => (if t222 < 0 then (some true) else ((laws_toTokenS.f k l0).bind fun t223 => ((spec_PrintTokens.f k t223).bind fun t226 => ((laws_toTokenS.f k l0).bind fun t227 => ((impl_PrintTokens.f k t227).bind fun t230 => (if t230.toList = t226.toList then ((laws_toTokenS.f k l0).bind fun t231 => ((laws_eqTokenS.f k t227 t231).bind fun t234 => (if t234 = true then (some true) else (some false)))) else (some false)))))))) = some true := h
 clear h
 obtain ⟨t222, A2, H⟩ := sO H
 by_cases c3 : t222 < 0
 ·rw [if_pos c3] at H
  have c3b0 := decide_eq_true c3
  clear c3
  clear H
  go_enter Tryd.func4, Tryd.ntmps4
  go_wp2_with (first | ((with_reducible refine gate_callee (f := 12) rfl ?_); refine sC (some 9) Tryd.func12 #[.slice A0 l0.length c0, .int .i64 1048576] (laws_szTokenS.calls k _ _ l0 1048576 t222 _ ?side1 ?side2 A2.out) ?_; (case side1 => exact sD HR0.out); (case side2 => exact HC0.out); rintro e w4 ⟨rfl, hb⟩; refine ⟨_, rfl, ?_⟩; have n0_ := sB HB hb; clear HB; have HB := n0_; clear n0_; (try clear hb); (try clear hb2); (try clear hk); (try clear hi)))
  go_ret
  exact ⟨sq, sb⟩
 rw [if_neg c3] at H
 have c3b0 := decide_eq_false c3
 clear c3
 obtain ⟨t223, A5, H⟩ := sO H
 obtain ⟨t226, A6, H⟩ := sO H
 obtain ⟨t227, A7, H⟩ := sO H
 obtain ⟨t230, A8, H⟩ := sO H
 by_cases c9 : t230.toList = t226.toList
 ·rw [if_pos c9] at H
  have c9b0 : (t230.toList == t226.toList) = true := beq_iff_eq.mpr c9
  have c9b1 : (t230.toList != t226.toList) = false := bne_eq_false_iff_eq.mpr c9
  clear c9
  obtain ⟨t231, A10, H⟩ := sO H
  obtain ⟨t234, A11, H⟩ := sO H
  by_cases c12 : t234 = true
  ·subst c12
   have H1 : (some true) = some true := rfl
   clear H
   have H := H1
   clear H1
   clear H
   go_enter Tryd.func4, Tryd.ntmps4
   go_wp2_with (first | ((with_reducible refine gate_callee (f := 12) rfl ?_); refine sC (some 9) Tryd.func12 #[.slice A0 l0.length c0, .int .i64 1048576] (laws_szTokenS.calls k _ _ l0 1048576 t222 _ ?side1 ?side2 A2.out) ?_; (case side1 => exact sD HR0.out); (case side2 => exact HC0.out); rintro e w13 ⟨rfl, hb⟩; refine ⟨_, rfl, ?_⟩; have n0_ := sB HB hb; clear HB; have HB := n0_; clear n0_; (try clear hb); (try clear hb2); (try clear hk); (try clear hi)) | ((with_reducible refine gate_callee (f := 14) rfl ?_); refine sC (some 13) Tryd.func14 #[.slice A0 l0.length c0] (laws_toTokenS.calls k _ _ l0 t223 _ ?side1 ?side2 A5.out) ?_; (case side1 => exact sD (Kd.C_below HR0.out HB.out)); (case side2 => exact HC0.out); rintro e w14 ⟨v224, rfl, ho0, hb⟩; refine ⟨_, rfl, ?_⟩; have n0_ := Aside0.mk (Kd.R_lower ho0 (below_size (sH HB.out))); have n1_ := sB HB hb; clear HB; have HO225 := n0_; have HB := n1_; clear n0_ n1_; (try clear hb); (try clear hb2); (try clear hk); (try clear hi); (try clear ho0); obtain ⟨Ao15, co15, eo15⟩ := Kd.R_slice HO225.out; subst eo15) | ((with_reducible refine gate_callee (f := 13) rfl ?_); refine sC (some 14) Tryd.func13 #[.slice Ao15 t223.length co15] (spec_PrintTokens.calls k _ _ t223 t226 _ ?side1 ?side2 A6.out) ?_; (case side1 => exact sD ((Kd.R_reads' HO225.out).2.2)); (case side2 => exact (Kd.R_reads' HO225.out).2.1); rintro e w16 ⟨rfl, hb⟩; refine ⟨_, rfl, ?_⟩; have n0_ := Aside0.mk (Kd.R_below (sE HO225.out) hb); have n1_ := sB HB hb; clear HO225; clear HB; have HO225 := n0_; have HB := n1_; clear n0_ n1_; (try clear hb); (try clear hb2); (try clear hk); (try clear hi)) | ((with_reducible refine gate_callee (f := 14) rfl ?_); refine sC (some 16) Tryd.func14 #[.slice A0 l0.length c0] (laws_toTokenS.calls k _ _ l0 t227 _ ?side1 ?side2 A7.out) ?_; (case side1 => exact sD (Kd.C_below HR0.out HB.out)); (case side2 => exact HC0.out); rintro e w17 ⟨v228, rfl, ho0, hb⟩; refine ⟨_, rfl, ?_⟩; have n0_ := Aside0.mk (Kd.R_elder' (sE HO225.out) (Kd.R_base ho0) hb); have n1_ := Aside0.mk (Kd.R_lower (Kd.R_new' ho0 (Kd.R_lt (sE HO225.out))) (below_size (sH HB.out))); have n2_ := sB HB hb; clear HO225; clear HB; have HO225 := n0_; have HO229 := n1_; have HB := n2_; clear n0_ n1_ n2_; (try clear hb); (try clear hb2); (try clear hk); (try clear hi); (try clear ho0); obtain ⟨Ao18, co18, eo18⟩ := Kd.R_slice HO229.out; subst eo18) | ((with_reducible refine gate_callee (f := 15) rfl ?_); refine sC (some 18) Tryd.func15 #[.slice Ao18 t227.length co18] (impl_PrintTokens.calls k _ _ t227 t230 _ ?side1 ?side2 A8.out (by first | with_reducible exact HT | exact EnvT.below HT sb)) ?_; (case side1 => exact sD ((Kd.R_reads' HO229.out).2.2)); (case side2 => exact (Kd.R_reads' HO229.out).2.1); rintro e w19 ⟨rfl, hb⟩; refine ⟨_, rfl, ?_⟩; have n0_ := Aside0.mk (Kd.R_below (sE HO225.out) hb); have n1_ := Aside0.mk (Kd.R_below (sE HO229.out) hb); have n2_ := sB HB hb; clear HO225; clear HO229; clear HB; have HO225 := n0_; have HO229 := n1_; have HB := n2_; clear n0_ n1_ n2_; (try clear hb); (try clear hb2); (try clear hk); (try clear hi)) | ((with_reducible refine gate_callee (f := 14) rfl ?_); refine sC (some 24) Tryd.func14 #[.slice A0 l0.length c0] (laws_toTokenS.calls k _ _ l0 t231 _ ?side1 ?side2 A10.out) ?_; (case side1 => exact sD (Kd.C_below HR0.out HB.out)); (case side2 => exact HC0.out); rintro e w20 ⟨v232, rfl, ho0, hb⟩; refine ⟨_, rfl, ?_⟩; have n0_ := Aside0.mk (Kd.R_elder' (sE HO225.out) (Kd.R_base ho0) hb); have n1_ := Aside0.mk (Kd.R_elder' (sE HO229.out) (Kd.R_base ho0) hb); have n2_ := Aside0.mk (Kd.R_lower (Kd.R_new' (Kd.R_new' ho0 (Kd.R_lt (sE HO225.out))) (Kd.R_lt (sE HO229.out))) (below_size (sH HB.out))); have n3_ := sB HB hb; clear HO225; clear HO229; clear HB; have HO225 := n0_; have HO229 := n1_; have HO233 := n2_; have HB := n3_; clear n0_ n1_ n2_ n3_; (try clear hb); (try clear hb2); (try clear hk); (try clear hi); (try clear ho0); obtain ⟨Ao21, co21, eo21⟩ := Kd.R_slice HO233.out; subst eo21) | ((with_reducible refine gate_callee (f := 16) rfl ?_); refine sC (some 25) Tryd.func16 #[.slice Ao18 t227.length co18, .slice Ao21 t231.length co21] (laws_eqTokenS.calls k _ _ t227 _ _ t231 true _ ?side1 ?side2 ?side3 ?side4 A11.out) ?_; (case side1 => exact sD ((Kd.R_reads' HO229.out).2.2)); (case side2 => exact (Kd.R_reads' HO229.out).2.1); (case side3 => exact sD ((Kd.R_reads' HO233.out).2.2)); (case side4 => exact (Kd.R_reads' HO233.out).2.1); rintro e w22 ⟨rfl, hb⟩; refine ⟨_, rfl, ?_⟩; have n0_ := Aside0.mk (Kd.R_below (sE HO225.out) hb); have n1_ := Aside0.mk (Kd.R_below (sE HO229.out) hb); have n2_ := Aside0.mk (Kd.R_below (sE HO233.out) hb); have n3_ := sB HB hb; clear HO225; clear HO229; clear HO233; clear HB; have HO225 := n0_; have HO229 := n1_; have HO233 := n2_; have HB := n3_; clear n0_ n1_ n2_ n3_; (try clear hb); (try clear hb2); (try clear hk); (try clear hi)))
   go_ret
   exact ⟨sq, sb⟩
  replace c12 := Bool.eq_false_iff.mpr c12
  subst c12
  rewrite [if_neg (show ¬ (false = true) by decide)] at H
  exact absurd H (by simp)
 rw [if_neg c9] at H
 have c9b0 : (t230.toList == t226.toList) = false := beq_eq_false_iff_ne.mpr c9
 have c9b1 : (t230.toList != t226.toList) = true := bne_iff_ne.mpr c9
 exact absurd H (by simp)
end Go.Proofs.YtpbjagjknaglgaaDoor.PFnExactPrintTokens
