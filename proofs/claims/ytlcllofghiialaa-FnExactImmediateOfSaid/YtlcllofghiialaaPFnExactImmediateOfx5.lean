-- PRINTED by print.py (a twelfth state) out of the translation. Not trusted: Lean checks it.
import Derived.Test.YtlcllofghiialaaPFnExactImmediateOfx0
import Derived.Test.YtlcllofghiialaaPFnExactImmediateOfx1
import Derived.Test.YtlcllofghiialaaPFnExactImmediateOfx2
import Derived.Test.YtlcllofghiialaaPFnExactImmediateOfx3
import Derived.Test.YtlcllofghiialaaPFnExactImmediateOfx4
namespace Go.Proofs.Ytlcllofghiialaa.PFnExactImmediateOf
open Go.RowKit Go.Proofs.YtlcllofghiialaaG Go.Proofs.YtlcllofghiialaaW.PrintWords Go.Proofs.YtlcllofghiialaaW.PrintLast Go.Proofs.YtlcllofghiialaaW.PrintMore
attribute [local go_sem] max2_int min2_int max_two min_two max_three min_three max_four min_four   -- for this text's walks alone
set_option linter.unusedVariables false
set_option linter.unusedSimpArgs false

/-! ### laws_FnExactImmediateOf: function 3 -/
def laws_FnExactImmediateOf.j0 : Nat → List (S41) → List (S41) → Bool → Int → Int → List (S51) → Option (Bool)
  | 0, _, _, _, _, _, _ => none
  | k + 1, x4, x6, x42, x206000, x206001, x206002 => if x42 = true then (some false) else ((laws_markAssignmentS.f k x6 1).bind fun bt234 => ((laws_heldAssignmentS.f k bt234.2 1).bind fun t236 => (if t236 < 0 then (some false) else (if t236 = bt234.1 then ((laws_toMatch.f k x206000 x206001 x206002).bind fun bt237 => ((impl_ImmediateOf.f k bt237.1 bt237.2.1 bt237.2.2).bind fun t242 => ((laws_eqAssignmentS.f k t242 x4).bind fun t245 => (if t245 = true then ((laws_heldAssignmentS.f k bt234.2 1).bind fun t246 => (if t246 < 0 then (some false) else (if t246 = bt234.1 then (some true) else (some false)))) else (some false))))) else (some false)))))
def laws_FnExactImmediateOf.f (k : Nat) (a0_0 : Int) (a0_1 : Int) (l0_2 : List (S51)) : Option (Bool) := (laws_szMatch.f k a0_0 a0_1 l0_2 1048576).bind fun t206 => (if t206 < 0 then (some true) else ((laws_toMatch.f k a0_0 a0_1 l0_2).bind fun bt207 => ((spec_ImmediateOf.f k bt207.1 bt207.2.1 bt207.2.2).bind fun t212 => ((laws_toMatch.f k a0_0 a0_1 l0_2).bind fun bt215 => ((impl_ImmediateOf.f k bt215.1 bt215.2.1 bt215.2.2).bind fun t221 => ((laws_eqAssignmentS.f k t221 t212).bind fun t224 => (if t224 = true then ((laws_toMatch.f k a0_0 a0_1 l0_2).bind fun bt225 => ((laws_eqMatch.f k bt215.1 bt215.2.1 bt215.2.2 bt225.1 bt225.2.1 bt225.2.2).bind fun t230 => (if t230 = true then ((laws_markMatch.f k bt215.1 bt215.2.1 bt215.2.2 1).bind fun bt231 => (if bt231.1 < 0 then (laws_FnExactImmediateOf.j0 k t212 t221 true a0_0 a0_1 l0_2) else ((laws_eqAssignmentS.f k t221 t212).bind fun t233 => (laws_FnExactImmediateOf.j0 k t212 t221 (!t233) a0_0 a0_1 l0_2)))) else (some false)))) else (some false))))))))
set_option maxHeartbeats 8000000 in
set_option maxRecDepth 100000 in
theorem laws_FnExactImmediateOf.calls (k : Nat) (a0_0 : Int) (a0_1 : Int) (A0_2 : Option Addr) (c0_2 : Nat) (l0_2 : List (S51)) (w : World) (hr0_2 : Kd.C k51 w A0_2 l0_2.length l0_2) (hc0_2 : l0_2.length ≤ c0_2) (h : laws_FnExactImmediateOf.f k a0_0 a0_1 l0_2 = some true) :
    Calls Try.prog 3 #[.agg #[.int .i64 a0_0, .int .i64 a0_1, .slice A0_2 l0_2.length c0_2]] w fun e w' => e = .returned (.bool true) ∧ Below w.heap.size w w' := by
  have hu24 := Try.underlying24
  have hu30 := Try.underlying30
  have HR0_2 := Aside0.mk hr0_2
  have HC0_2 := Aside0.mk hc0_2
  clear hr0_2 hc0_2
  have HB := Aside0.mk (Below.refl w.heap.size w)
  have H : ((laws_szMatch.f k a0_0 a0_1 l0_2 1048576).bind fun t206 => (if t206 < 0 then (some true) else ((laws_toMatch.f k a0_0 a0_1 l0_2).bind fun bt207 => ((spec_ImmediateOf.f k bt207.1 bt207.2.1 bt207.2.2).bind fun t212 => ((laws_toMatch.f k a0_0 a0_1 l0_2).bind fun bt215 => ((impl_ImmediateOf.f k bt215.1 bt215.2.1 bt215.2.2).bind fun t221 => ((laws_eqAssignmentS.f k t221 t212).bind fun t224 => (if t224 = true then ((laws_toMatch.f k a0_0 a0_1 l0_2).bind fun bt225 => ((laws_eqMatch.f k bt215.1 bt215.2.1 bt215.2.2 bt225.1 bt225.2.1 bt225.2.2).bind fun t230 => (if t230 = true then ((laws_markMatch.f k bt215.1 bt215.2.1 bt215.2.2 1).bind fun bt231 => (if bt231.1 < 0 then (laws_FnExactImmediateOf.j0 k t212 t221 true a0_0 a0_1 l0_2) else ((laws_eqAssignmentS.f k t221 t212).bind fun t233 => (laws_FnExactImmediateOf.j0 k t212 t221 (!t233) a0_0 a0_1 l0_2)))) else (some false)))) else (some false))))))))) = some true := h
  clear h
  replace H := Option.bind_eq_some_iff.mp H
  obtain ⟨t206, A20, H⟩ := H
  replace H : (if t206 < 0 then (some true) else ((laws_toMatch.f k a0_0 a0_1 l0_2).bind fun bt207 => ((spec_ImmediateOf.f k bt207.1 bt207.2.1 bt207.2.2).bind fun t212 => ((laws_toMatch.f k a0_0 a0_1 l0_2).bind fun bt215 => ((impl_ImmediateOf.f k bt215.1 bt215.2.1 bt215.2.2).bind fun t221 => ((laws_eqAssignmentS.f k t221 t212).bind fun t224 => (if t224 = true then ((laws_toMatch.f k a0_0 a0_1 l0_2).bind fun bt225 => ((laws_eqMatch.f k bt215.1 bt215.2.1 bt215.2.2 bt225.1 bt225.2.1 bt225.2.2).bind fun t230 => (if t230 = true then ((laws_markMatch.f k bt215.1 bt215.2.1 bt215.2.2 1).bind fun bt231 => (if bt231.1 < 0 then (laws_FnExactImmediateOf.j0 k t212 t221 true a0_0 a0_1 l0_2) else ((laws_eqAssignmentS.f k t221 t212).bind fun t233 => (laws_FnExactImmediateOf.j0 k t212 t221 (!t233) a0_0 a0_1 l0_2)))) else (some false)))) else (some false)))))))) = some true := H
  have A2 := Aside0.mk A20
  clear A20
  by_cases c3 : t206 < 0
  · rw [if_pos c3] at H
    have c3b0 : decide (t206 < 0) = true := decide_eq_true c3
    clear c3
    clear H
    go_enter Try.func3, Try.ntmps3
    go_wp2_with (first | ((with_reducible refine gate_dst (N := 1) rfl ?_); refine sV (N := 1) (cs := #[.int .i64 a0_0, .int .i64 a0_1, .slice A0_2 l0_2.length c0_2]) (t := 24) ?_; intro gb205 hg w4 hbox hb; have n0_ := sB HB hb; have n1_ := Aside0.mk (hbox); have n2_ := sG HB hg; have n3_ := sG HB hg; clear HB; have HB := n0_; have BK205 := n1_; have GW205 := n2_; have GE205 := n3_; clear n0_ n1_ n2_ n3_; clear hb hbox hg; obtain ⟨hcz5_0, hcz5_1, hcz5_2, hfz5_0, hfz5_1, hfz5_2⟩ := cells3 BK205.out) | ((with_reducible refine gate_callee (f := 5) rfl ?_); refine sC (some 13) Try.func5 #[.agg #[.int .i64 a0_0, .int .i64 a0_1, .slice A0_2 l0_2.length c0_2], .int .i64 1048576] (laws_szMatch.calls k a0_0 a0_1 _ _ l0_2 1048576 t206 _ ?side1 ?side2 A2.out) ?_; (case side1 => repeat (first | exact (Kd.C_below HR0_2.out HB.out) | (with_reducible refine Kd.C_alloc ?_ _) | (with_reducible refine Kd.C_drewN ?_ _) | (with_reducible refine Kd.C_drew ?_))); (case side2 => exact HC0_2.out); rintro e w6 ⟨rfl, hb⟩; refine ⟨_, rfl, ?_⟩; have n0_ := sK BK205 hb; have n1_ := sB HB hb; clear BK205; clear HB; have BK205 := n0_; have HB := n1_; clear n0_ n1_; (try clear hb); (try clear hb2); (try clear hk); (try clear hi)))
    go_ret
    exact ⟨by first | rfl | (simp [errW_none, errW_some] <;> rfl) | (simp [*, errW_none, errW_some] <;> rfl), by repeat (first | (with_reducible first | exact HB.out | apply below_alloc | apply pw_below_drewN | apply below_drew1 | refine below_set ?_ GE205.out) | exact HB.out)⟩
  · rw [if_neg c3] at H
    have c3b0 : decide (t206 < 0) = false := decide_eq_false c3
    clear c3
    replace H := Option.bind_eq_some_iff.mp H
    obtain ⟨⟨t207, t208, t209⟩, A70, H⟩ := H
    replace H : ((spec_ImmediateOf.f k t207 t208 t209).bind fun t212 => ((laws_toMatch.f k a0_0 a0_1 l0_2).bind fun bt215 => ((impl_ImmediateOf.f k bt215.1 bt215.2.1 bt215.2.2).bind fun t221 => ((laws_eqAssignmentS.f k t221 t212).bind fun t224 => (if t224 = true then ((laws_toMatch.f k a0_0 a0_1 l0_2).bind fun bt225 => ((laws_eqMatch.f k bt215.1 bt215.2.1 bt215.2.2 bt225.1 bt225.2.1 bt225.2.2).bind fun t230 => (if t230 = true then ((laws_markMatch.f k bt215.1 bt215.2.1 bt215.2.2 1).bind fun bt231 => (if bt231.1 < 0 then (laws_FnExactImmediateOf.j0 k t212 t221 true a0_0 a0_1 l0_2) else ((laws_eqAssignmentS.f k t221 t212).bind fun t233 => (laws_FnExactImmediateOf.j0 k t212 t221 (!t233) a0_0 a0_1 l0_2)))) else (some false)))) else (some false)))))) = some true := H
    have A7 := Aside0.mk A70
    clear A70
    replace H := Option.bind_eq_some_iff.mp H
    obtain ⟨t212, A80, H⟩ := H
    replace H : ((laws_toMatch.f k a0_0 a0_1 l0_2).bind fun bt215 => ((impl_ImmediateOf.f k bt215.1 bt215.2.1 bt215.2.2).bind fun t221 => ((laws_eqAssignmentS.f k t221 t212).bind fun t224 => (if t224 = true then ((laws_toMatch.f k a0_0 a0_1 l0_2).bind fun bt225 => ((laws_eqMatch.f k bt215.1 bt215.2.1 bt215.2.2 bt225.1 bt225.2.1 bt225.2.2).bind fun t230 => (if t230 = true then ((laws_markMatch.f k bt215.1 bt215.2.1 bt215.2.2 1).bind fun bt231 => (if bt231.1 < 0 then (laws_FnExactImmediateOf.j0 k t212 t221 true a0_0 a0_1 l0_2) else ((laws_eqAssignmentS.f k t221 t212).bind fun t233 => (laws_FnExactImmediateOf.j0 k t212 t221 (!t233) a0_0 a0_1 l0_2)))) else (some false)))) else (some false))))) = some true := H
    have A8 := Aside0.mk A80
    clear A80
    replace H := Option.bind_eq_some_iff.mp H
    obtain ⟨⟨t215, t216, t217⟩, A90, H⟩ := H
    replace H : ((impl_ImmediateOf.f k t215 t216 t217).bind fun t221 => ((laws_eqAssignmentS.f k t221 t212).bind fun t224 => (if t224 = true then ((laws_toMatch.f k a0_0 a0_1 l0_2).bind fun bt225 => ((laws_eqMatch.f k t215 t216 t217 bt225.1 bt225.2.1 bt225.2.2).bind fun t230 => (if t230 = true then ((laws_markMatch.f k t215 t216 t217 1).bind fun bt231 => (if bt231.1 < 0 then (laws_FnExactImmediateOf.j0 k t212 t221 true a0_0 a0_1 l0_2) else ((laws_eqAssignmentS.f k t221 t212).bind fun t233 => (laws_FnExactImmediateOf.j0 k t212 t221 (!t233) a0_0 a0_1 l0_2)))) else (some false)))) else (some false)))) = some true := H
    have A9 := Aside0.mk A90
    clear A90
    replace H := Option.bind_eq_some_iff.mp H
    obtain ⟨t221, A100, H⟩ := H
    replace H : ((laws_eqAssignmentS.f k t221 t212).bind fun t224 => (if t224 = true then ((laws_toMatch.f k a0_0 a0_1 l0_2).bind fun bt225 => ((laws_eqMatch.f k t215 t216 t217 bt225.1 bt225.2.1 bt225.2.2).bind fun t230 => (if t230 = true then ((laws_markMatch.f k t215 t216 t217 1).bind fun bt231 => (if bt231.1 < 0 then (laws_FnExactImmediateOf.j0 k t212 t221 true a0_0 a0_1 l0_2) else ((laws_eqAssignmentS.f k t221 t212).bind fun t233 => (laws_FnExactImmediateOf.j0 k t212 t221 (!t233) a0_0 a0_1 l0_2)))) else (some false)))) else (some false))) = some true := H
    have A10 := Aside0.mk A100
    clear A100
    replace H := Option.bind_eq_some_iff.mp H
    obtain ⟨t224, A110, H⟩ := H
    replace H : (if t224 = true then ((laws_toMatch.f k a0_0 a0_1 l0_2).bind fun bt225 => ((laws_eqMatch.f k t215 t216 t217 bt225.1 bt225.2.1 bt225.2.2).bind fun t230 => (if t230 = true then ((laws_markMatch.f k t215 t216 t217 1).bind fun bt231 => (if bt231.1 < 0 then (laws_FnExactImmediateOf.j0 k t212 t221 true a0_0 a0_1 l0_2) else ((laws_eqAssignmentS.f k t221 t212).bind fun t233 => (laws_FnExactImmediateOf.j0 k t212 t221 (!t233) a0_0 a0_1 l0_2)))) else (some false)))) else (some false)) = some true := H
    have A11 := Aside0.mk A110
    clear A110
    by_cases c12 : t224 = true
    · subst c12
      have H1 : ((laws_toMatch.f k a0_0 a0_1 l0_2).bind fun bt225 => ((laws_eqMatch.f k t215 t216 t217 bt225.1 bt225.2.1 bt225.2.2).bind fun t230 => (if t230 = true then ((laws_markMatch.f k t215 t216 t217 1).bind fun bt231 => (if bt231.1 < 0 then (laws_FnExactImmediateOf.j0 k t212 t221 true a0_0 a0_1 l0_2) else ((laws_eqAssignmentS.f k t221 t212).bind fun t233 => (laws_FnExactImmediateOf.j0 k t212 t221 (!t233) a0_0 a0_1 l0_2)))) else (some false)))) = some true := by rw [if_pos rfl] at H; exact H
      clear H
      have H := H1
      clear H1
      replace H := Option.bind_eq_some_iff.mp H
      obtain ⟨⟨t225, t226, t227⟩, A130, H⟩ := H
      replace H : ((laws_eqMatch.f k t215 t216 t217 t225 t226 t227).bind fun t230 => (if t230 = true then ((laws_markMatch.f k t215 t216 t217 1).bind fun bt231 => (if bt231.1 < 0 then (laws_FnExactImmediateOf.j0 k t212 t221 true a0_0 a0_1 l0_2) else ((laws_eqAssignmentS.f k t221 t212).bind fun t233 => (laws_FnExactImmediateOf.j0 k t212 t221 (!t233) a0_0 a0_1 l0_2)))) else (some false))) = some true := H
      have A13 := Aside0.mk A130
      clear A130
      replace H := Option.bind_eq_some_iff.mp H
      obtain ⟨t230, A140, H⟩ := H
      replace H : (if t230 = true then ((laws_markMatch.f k t215 t216 t217 1).bind fun bt231 => (if bt231.1 < 0 then (laws_FnExactImmediateOf.j0 k t212 t221 true a0_0 a0_1 l0_2) else ((laws_eqAssignmentS.f k t221 t212).bind fun t233 => (laws_FnExactImmediateOf.j0 k t212 t221 (!t233) a0_0 a0_1 l0_2)))) else (some false)) = some true := H
      have A14 := Aside0.mk A140
      clear A140
      by_cases c15 : t230 = true
      · subst c15
        have H1 : ((laws_markMatch.f k t215 t216 t217 1).bind fun bt231 => (if bt231.1 < 0 then (laws_FnExactImmediateOf.j0 k t212 t221 true a0_0 a0_1 l0_2) else ((laws_eqAssignmentS.f k t221 t212).bind fun t233 => (laws_FnExactImmediateOf.j0 k t212 t221 (!t233) a0_0 a0_1 l0_2)))) = some true := by rw [if_pos rfl] at H; exact H
        clear H
        have H := H1
        clear H1
        replace H := Option.bind_eq_some_iff.mp H
        obtain ⟨⟨t231, t232⟩, A160, H⟩ := H
        replace H : (if t231 < 0 then (laws_FnExactImmediateOf.j0 k t212 t221 true a0_0 a0_1 l0_2) else ((laws_eqAssignmentS.f k t221 t212).bind fun t233 => (laws_FnExactImmediateOf.j0 k t212 t221 (!t233) a0_0 a0_1 l0_2))) = some true := H
        have A16 := Aside0.mk A160
        clear A160
        have HC17 := Aside0.mk H
        clear H
        go_enter Try.func3, Try.ntmps3
        try go_wp2_with (first | ((with_reducible refine gate_dst (N := 1) rfl ?_); refine sV (N := 1) (cs := #[.int .i64 a0_0, .int .i64 a0_1, .slice A0_2 l0_2.length c0_2]) (t := 24) ?_; intro gb205 hg w18 hbox hb; have n0_ := sB HB hb; have n1_ := Aside0.mk (hbox); have n2_ := sG HB hg; have n3_ := sG HB hg; clear HB; have HB := n0_; have BK205 := n1_; have GW205 := n2_; have GE205 := n3_; clear n0_ n1_ n2_ n3_; clear hb hbox hg; obtain ⟨hcz19_0, hcz19_1, hcz19_2, hfz19_0, hfz19_1, hfz19_2⟩ := cells3 BK205.out) | ((with_reducible refine gate_callee (f := 5) rfl ?_); refine sC (some 13) Try.func5 #[.agg #[.int .i64 a0_0, .int .i64 a0_1, .slice A0_2 l0_2.length c0_2], .int .i64 1048576] (laws_szMatch.calls k a0_0 a0_1 _ _ l0_2 1048576 t206 _ ?side1 ?side2 A2.out) ?_; (case side1 => repeat (first | exact (Kd.C_below HR0_2.out HB.out) | (with_reducible refine Kd.C_alloc ?_ _) | (with_reducible refine Kd.C_drewN ?_ _) | (with_reducible refine Kd.C_drew ?_))); (case side2 => exact HC0_2.out); rintro e w20 ⟨rfl, hb⟩; refine ⟨_, rfl, ?_⟩; have n0_ := sK BK205 hb; have n1_ := sB HB hb; clear BK205; clear HB; have BK205 := n0_; have HB := n1_; clear n0_ n1_; (try clear hb); (try clear hb2); (try clear hk); (try clear hi); obtain ⟨hcz21_0, hcz21_1, hcz21_2, hfz21_0, hfz21_1, hfz21_2⟩ := cells3 BK205.out) | ((with_reducible refine gate_callee (f := 7) rfl ?_); refine sC (some 17) Try.func7 #[.agg #[.int .i64 a0_0, .int .i64 a0_1, .slice A0_2 l0_2.length c0_2]] (laws_toMatch.calls k a0_0 a0_1 _ _ l0_2 t207 t208 t209 _ ?side1 ?side2 A7.out) ?_; (case side1 => repeat (first | exact (Kd.C_below HR0_2.out HB.out) | (with_reducible refine Kd.C_alloc ?_ _) | (with_reducible refine Kd.C_drewN ?_ _) | (with_reducible refine Kd.C_drew ?_))); (case side2 => exact HC0_2.out); rintro e w22 ⟨v210, rfl, ho0, hb⟩; refine ⟨_, rfl, ?_⟩; have n0_ := Aside0.mk (Kd.R_lower ho0 (below_size (by repeat (first | (with_reducible first | exact HB.out | apply below_alloc | apply pw_below_drewN | apply below_drew1 | refine below_set ?_ GE205.out) | exact HB.out)))); have n1_ := sK BK205 hb; have n2_ := sB HB hb; clear BK205; clear HB; have HO211 := n0_; have BK205 := n1_; have HB := n2_; clear n0_ n1_ n2_; (try clear hb); (try clear hb2); (try clear hk); (try clear hi); (try clear ho0); obtain ⟨Ao23, co23, eo23⟩ := Kd.R_slice HO211.out; subst eo23) | ((with_reducible refine gate_callee (f := 6) rfl ?_); refine sC (some 18) Try.func6 #[.agg #[.int .i64 t207, .int .i64 t208, .slice Ao23 t209.length co23]] (spec_ImmediateOf.calls k t207 t208 _ _ t209 t212 _ ?side1 ?side2 A8.out) ?_; (case side1 => repeat (first | exact (Kd.R_reads' HO211.out).2.2 | (with_reducible refine Kd.C_alloc ?_ _) | (with_reducible refine Kd.C_drewN ?_ _) | (with_reducible refine Kd.C_drew ?_))); (case side2 => exact (Kd.R_reads' HO211.out).2.1); rintro e w24 ⟨v213, rfl, ho0, hb⟩; refine ⟨_, rfl, ?_⟩; have n0_ := Aside0.mk (Kd.R_below (by (with_reducible repeat (first | apply Kd.R_alloc | apply Kd.R_drewN | apply Kd.R_drew)); exact HO211.out) hb); have n1_ := Aside0.mk (Kd.R_lower ho0 (below_size (by repeat (first | (with_reducible first | exact HB.out | apply below_alloc | apply pw_below_drewN | apply below_drew1 | refine below_set ?_ GE205.out) | exact HB.out)))); have n2_ := sK BK205 hb; have n3_ := sB HB hb; clear HO211; clear BK205; clear HB; have HO211 := n0_; have HO214 := n1_; have BK205 := n2_; have HB := n3_; clear n0_ n1_ n2_ n3_; (try clear hb); (try clear hb2); (try clear hk); (try clear hi); (try clear ho0); obtain ⟨hcz25_0, hcz25_1, hcz25_2, hfz25_0, hfz25_1, hfz25_2⟩ := cells3 BK205.out) | ((with_reducible refine gate_callee (f := 7) rfl ?_); refine sC (some 20) Try.func7 #[.agg #[.int .i64 a0_0, .int .i64 a0_1, .slice A0_2 l0_2.length c0_2]] (laws_toMatch.calls k a0_0 a0_1 _ _ l0_2 t215 t216 t217 _ ?side1 ?side2 A9.out) ?_; (case side1 => repeat (first | exact (Kd.C_below HR0_2.out HB.out) | (with_reducible refine Kd.C_alloc ?_ _) | (with_reducible refine Kd.C_drewN ?_ _) | (with_reducible refine Kd.C_drew ?_))); (case side2 => exact HC0_2.out); rintro e w26 ⟨v218, rfl, ho0, hb⟩; refine ⟨_, rfl, ?_⟩; have n0_ := Aside0.mk (Kd.R_elder' (by (with_reducible repeat (first | apply Kd.R_alloc | apply Kd.R_drewN | apply Kd.R_drew)); exact HO211.out) (Kd.R_base ho0) hb); have n1_ := Aside0.mk (Kd.R_below (by (with_reducible repeat (first | apply Kd.R_alloc | apply Kd.R_drewN | apply Kd.R_drew)); exact HO214.out) hb); have n2_ := Aside0.mk (Kd.R_lower (Kd.R_new' ho0 (Kd.R_lt (by (with_reducible repeat (first | apply Kd.R_alloc | apply Kd.R_drewN | apply Kd.R_drew)); exact HO211.out))) (below_size (by repeat (first | (with_reducible first | exact HB.out | apply below_alloc | apply pw_below_drewN | apply below_drew1 | refine below_set ?_ GE205.out) | exact HB.out)))); have n3_ := sK BK205 hb; have n4_ := sB HB hb; clear HO211; clear HO214; clear BK205; clear HB; have HO211 := n0_; have HO214 := n1_; have HO219 := n2_; have BK205 := n3_; have HB := n4_; clear n0_ n1_ n2_ n3_ n4_; (try clear hb); (try clear hb2); (try clear hk); (try clear hi); (try clear ho0)) | ((with_reducible refine gate_dst (N := 5) rfl ?_); refine sV (N := 5) (cs := #[.int .i64 0, .int .i64 0, .slice none 0 0]) (t := 30) ?_; intro gb220 hg w27 hbox hb; have n0_ := Aside0.mk (Kd.R_below (by (with_reducible repeat (first | apply Kd.R_alloc | apply Kd.R_drewN | apply Kd.R_drew)); exact HO211.out) hb); have n1_ := Aside0.mk (Kd.R_below (by (with_reducible repeat (first | apply Kd.R_alloc | apply Kd.R_drewN | apply Kd.R_drew)); exact HO214.out) hb); have n2_ := Aside0.mk (Kd.R_below (by (with_reducible repeat (first | apply Kd.R_alloc | apply Kd.R_drewN | apply Kd.R_drew)); exact HO219.out) hb); have n3_ := sK BK205 hb; have n4_ := sB HB hb; have n5_ := Aside0.mk (hbox); have n6_ := sG HB hg; have n7_ := sG HB hg; have n8_ := sN BK205 hg; have n9_ := sM BK205 hg; clear HO211; clear HO214; clear HO219; clear BK205; clear HB; have HO211 := n0_; have HO214 := n1_; have HO219 := n2_; have BK205 := n3_; have HB := n4_; have BK220 := n5_; have GW220 := n6_; have GE220 := n7_; have NB205_220 := n8_; have NB220_205 := n9_; clear n0_ n1_ n2_ n3_ n4_ n5_ n6_ n7_ n8_ n9_; clear hb hbox hg; have hnb28 := NB220_205.out; have hnc28 := NB205_220.out; obtain ⟨hcz29_0, hcz29_1, hcz29_2, hfz29_0, hfz29_1, hfz29_2⟩ := cells3 BK220.out; obtain ⟨Ao30, co30, eo30⟩ := Kd.R_slice HO219.out; subst eo30) | ((with_reducible refine gate_callee (f := 8) rfl ?_); refine sC (some 22) Try.func8 #[.agg #[.int .i64 t215, .int .i64 t216, .slice Ao30 t217.length co30]] (impl_ImmediateOf.calls k t215 t216 _ _ t217 t221 _ ?side1 ?side2 A10.out) ?_; (case side1 => refine (Kd.R_reads' (e := 39) (base := w.heap.size) (ok := fun k_ => (True ∧ some k_ ≠ (.slice Ao23 t209.length co23 : Value).ownBlock)) (n := t217.length) (c := co30) ?_).2.2; exact (by (with_reducible repeat (first | apply Kd.R_alloc | apply Kd.R_drewN | apply Kd.R_drew)); exact (Kd.R_mono (Kd.R_far (p := ⟨gb220, 2, none⟩) (Kd.R_far (p := ⟨gb220, 1, none⟩) (Kd.R_far (p := ⟨gb220, 0, none⟩) (Kd.R_types HO219.out BK220.out (by decide)) (fun _ hk => hk.2) (.int .i64 t215)) (fun _ hk => hk.2) (.int .i64 t216)) (fun _ hk => hk.2) (.slice Ao30 t217.length co30)) (fun _ h_ => h_.1)))); (case side2 => exact (Kd.R_reads' HO219.out).2.1); rintro e w31 ⟨v222, rfl, ho0, hb⟩; refine ⟨_, rfl, ?_⟩; have n0_ := Aside0.mk (Kd.R_below (by (with_reducible repeat (first | apply Kd.R_alloc | apply Kd.R_drewN | apply Kd.R_drew)); exact (Kd.R_mono (Kd.R_far (p := ⟨gb220, 2, none⟩) (Kd.R_far (p := ⟨gb220, 1, none⟩) (Kd.R_far (p := ⟨gb220, 0, none⟩) (Kd.R_types HO211.out BK220.out (by decide)) (fun _ hk => hk.2) (.int .i64 t215)) (fun _ hk => hk.2) (.int .i64 t216)) (fun _ hk => hk.2) (.slice Ao30 t217.length co30)) (fun _ h_ => h_.1))) hb); have n1_ := Aside0.mk (Kd.R_elder' (by (with_reducible repeat (first | apply Kd.R_alloc | apply Kd.R_drewN | apply Kd.R_drew)); exact (Kd.R_mono (Kd.R_far (p := ⟨gb220, 2, none⟩) (Kd.R_far (p := ⟨gb220, 1, none⟩) (Kd.R_far (p := ⟨gb220, 0, none⟩) (Kd.R_types HO214.out BK220.out (by decide)) (fun _ hk => hk.2) (.int .i64 t215)) (fun _ hk => hk.2) (.int .i64 t216)) (fun _ hk => hk.2) (.slice Ao30 t217.length co30)) (fun _ h_ => h_.1))) (Kd.R_base ho0) hb); have n2_ := Aside0.mk (Kd.R_below (by (with_reducible repeat (first | apply Kd.R_alloc | apply Kd.R_drewN | apply Kd.R_drew)); exact (Kd.R_mono (Kd.R_far (p := ⟨gb220, 2, none⟩) (Kd.R_far (p := ⟨gb220, 1, none⟩) (Kd.R_far (p := ⟨gb220, 0, none⟩) (Kd.R_types HO219.out BK220.out (by decide)) (fun _ hk => hk.2) (.int .i64 t215)) (fun _ hk => hk.2) (.int .i64 t216)) (fun _ hk => hk.2) (.slice Ao30 t217.length co30)) (fun _ h_ => h_.1))) hb); have n3_ := Aside0.mk (Kd.R_lower (Kd.R_new' ho0 (Kd.R_lt (by (with_reducible repeat (first | apply Kd.R_alloc | apply Kd.R_drewN | apply Kd.R_drew)); exact (Kd.R_mono (Kd.R_far (p := ⟨gb220, 2, none⟩) (Kd.R_far (p := ⟨gb220, 1, none⟩) (Kd.R_far (p := ⟨gb220, 0, none⟩) (Kd.R_types HO214.out BK220.out (by decide)) (fun _ hk => hk.2) (.int .i64 t215)) (fun _ hk => hk.2) (.int .i64 t216)) (fun _ hk => hk.2) (.slice Ao30 t217.length co30)) (fun _ h_ => h_.1))))) (below_size (by repeat (first | (with_reducible first | exact HB.out | apply below_alloc | apply pw_below_drewN | apply below_drew1 | refine below_set ?_ GE205.out | refine below_set ?_ GE220.out) | exact HB.out)))); have n4_ := Aside0.mk (blk_below (g := gb205) (o := .cells #[.int .i64 a0_0, .int .i64 a0_1, .slice A0_2 l0_2.length c0_2] 24 (0, 0)) (by (with_reducible repeat (first | refine blk_drewN ?_ _ | refine blk_drew ?_ | refine blk_alloc ?_ _)); refine blk_far ?_ NB205_220.out _; (with_reducible repeat (first | refine blk_drewN ?_ _ | refine blk_drew ?_ | refine blk_alloc ?_ _)); refine blk_far ?_ NB205_220.out _; (with_reducible repeat (first | refine blk_drewN ?_ _ | refine blk_drew ?_ | refine blk_alloc ?_ _)); refine blk_far ?_ NB205_220.out _; (with_reducible repeat (first | refine blk_drewN ?_ _ | refine blk_drew ?_ | refine blk_alloc ?_ _)); exact BK205.out) hb); have n5_ := Aside0.mk (blk_below (g := gb220) (o := .cells #[.int .i64 t215, .int .i64 t216, .slice Ao30 t217.length co30] 30 (0, 0)) (by (with_reducible repeat (first | refine blk_drewN ?_ _ | refine blk_drew ?_ | refine blk_alloc ?_ _)); refine blk_put (cs := #[.int .i64 t215, .int .i64 t216, .slice none 0 0]) ?_ 2 _ rfl; (with_reducible repeat (first | refine blk_drewN ?_ _ | refine blk_drew ?_ | refine blk_alloc ?_ _)); refine blk_put (cs := #[.int .i64 t215, .int .i64 0, .slice none 0 0]) ?_ 1 _ rfl; (with_reducible repeat (first | refine blk_drewN ?_ _ | refine blk_drew ?_ | refine blk_alloc ?_ _)); refine blk_put (cs := #[.int .i64 0, .int .i64 0, .slice none 0 0]) ?_ 0 _ rfl; (with_reducible repeat (first | refine blk_drewN ?_ _ | refine blk_drew ?_ | refine blk_alloc ?_ _)); exact BK220.out) hb); have n6_ := sB HB hb; clear HO211; clear HO214; clear HO219; clear BK205; clear BK220; clear HB; have HO211 := n0_; have HO214 := n1_; have HO219 := n2_; have HO223 := n3_; have BK205 := n4_; have BK220 := n5_; have HB := n6_; clear n0_ n1_ n2_ n3_ n4_ n5_ n6_; (try clear hb); (try clear hb2); (try clear hk); (try clear hi); (try clear ho0); obtain ⟨Ao32, co32, eo32⟩ := Kd.R_slice HO223.out; subst eo32; obtain ⟨Ao33, co33, eo33⟩ := Kd.R_slice HO214.out; subst eo33) | ((with_reducible refine gate_callee (f := 9) rfl ?_); refine sC (some 25) Try.func9 #[.slice Ao32 t221.length co32, .slice Ao33 t212.length co33] (laws_eqAssignmentS.calls k _ _ t221 _ _ t212 true _ ?side1 ?side2 ?side3 ?side4 A11.out) ?_; (case side1 => repeat (first | exact (Kd.R_reads' HO223.out).2.2 | (with_reducible refine Kd.C_alloc ?_ _) | (with_reducible refine Kd.C_drewN ?_ _) | (with_reducible refine Kd.C_drew ?_))); (case side2 => exact (Kd.R_reads' HO223.out).2.1); (case side3 => repeat (first | exact (Kd.R_reads' HO214.out).2.2 | (with_reducible refine Kd.C_alloc ?_ _) | (with_reducible refine Kd.C_drewN ?_ _) | (with_reducible refine Kd.C_drew ?_))); (case side4 => exact (Kd.R_reads' HO214.out).2.1); rintro e w34 ⟨rfl, hb⟩; refine ⟨_, rfl, ?_⟩; have n0_ := Aside0.mk (Kd.R_below (by (with_reducible repeat (first | apply Kd.R_alloc | apply Kd.R_drewN | apply Kd.R_drew)); exact HO211.out) hb); have n1_ := Aside0.mk (Kd.R_below (by (with_reducible repeat (first | apply Kd.R_alloc | apply Kd.R_drewN | apply Kd.R_drew)); exact HO214.out) hb); have n2_ := Aside0.mk (Kd.R_below (by (with_reducible repeat (first | apply Kd.R_alloc | apply Kd.R_drewN | apply Kd.R_drew)); exact HO219.out) hb); have n3_ := Aside0.mk (Kd.R_below (by (with_reducible repeat (first | apply Kd.R_alloc | apply Kd.R_drewN | apply Kd.R_drew)); exact HO223.out) hb); have n4_ := sK BK205 hb; have n5_ := sK BK220 hb; have n6_ := sB HB hb; clear HO211; clear HO214; clear HO219; clear HO223; clear BK205; clear BK220; clear HB; have HO211 := n0_; have HO214 := n1_; have HO219 := n2_; have HO223 := n3_; have BK205 := n4_; have BK220 := n5_; have HB := n6_; clear n0_ n1_ n2_ n3_ n4_ n5_ n6_; (try clear hb); (try clear hb2); (try clear hk); (try clear hi)))
        have n0_ := Aside0.mk (Kd.R_drew HO211.out)
        have n1_ := Aside0.mk (Kd.R_drew HO214.out)
        have n2_ := Aside0.mk (Kd.R_drew HO219.out)
        have n3_ := Aside0.mk (Kd.R_drew HO223.out)
        have n4_ := Aside0.mk (blk_drew BK205.out)
        have n5_ := Aside0.mk (blk_drew BK220.out)
        have n6_ := Aside0.mk (below_drew1 HB.out)
        clear HO211
        clear HO214
        clear HO219
        clear HO223
        clear BK205
        clear BK220
        clear HB
        have HO211 := n0_
        have HO214 := n1_
        have HO219 := n2_
        have HO223 := n3_
        have BK205 := n4_
        have BK220 := n5_
        have HB := n6_
        clear n0_ n1_ n2_ n3_ n4_ n5_ n6_
        refine start_ (n := 5) (S := fun w' => w'.cell? ⟨gb220, 0, none⟩ = some (.int .i64 t215) ∧ w'.cell? ⟨gb220, 1, none⟩ = some (.int .i64 t216) ∧ w'.cell? ⟨gb220, 2, none⟩ = some (.slice Ao30 t217.length co30) ∧ w'.cell? ⟨gb205, 0, none⟩ = some (.int .i64 a0_0) ∧ w'.cell? ⟨gb205, 1, none⟩ = some (.int .i64 a0_1) ∧ w'.cell? ⟨gb205, 2, none⟩ = some (.slice A0_2 l0_2.length c0_2)) (ds := []) #[false, false, false, false, false] (by kernel_rfl) rfl rfl ⟨(blk_cell BK220.out 0).trans rfl, (blk_cell BK220.out 1).trans rfl, (blk_cell BK220.out 2).trans rfl, (blk_cell BK205.out 0).trans rfl, (blk_cell BK205.out 1).trans rfl, (blk_cell BK205.out 2).trans rfl⟩ (fun hHeld => ?_)
        generalize w34.drew = w35 at HO211 HO214 HO219 HO223 BK205 BK220 HB hHeld ⊢
        refine take_ (i := 0) (N := some 27) (v := ?_) (a' := ?_) #[true, false, false, false, false] rfl rfl (by kernel_rfl) (fun _ _ _ h => h) (Or.inl ⟨by rfl, ?_⟩) hHeld ?_ ?_
        rotate_left
        · rintro w' ⟨s0, s1, s2, s3, s4, s5⟩
          go_simp
          with_reducible rfl
        rotate_left
        · simp only [Act.put, List.setIfInBounds_toArray, List.set_cons_zero, List.set_cons_succ, i64_w, i32_w]
          rfl
        refine take_ (i := 1) (N := some 28) (v := ?_) (a' := ?_) #[true, true, false, false, false] rfl rfl (by kernel_rfl) (fun _ _ _ h => h) (Or.inl ⟨by rfl, ?_⟩) hHeld ?_ ?_
        rotate_left
        · rintro w' ⟨s0, s1, s2, s3, s4, s5⟩
          go_simp
          with_reducible rfl
        rotate_left
        · simp only [Act.put, List.setIfInBounds_toArray, List.set_cons_zero, List.set_cons_succ, i64_w, i32_w]
          rfl
        refine one_ (i := 2) (N := some 29) #[true, true, true, false, false] rfl rfl (by kernel_rfl) (by decide) (fun K hK => ?_)
        refine goes_ Try.func7 (by kernel_rfl) rfl #[.agg #[.int .i64 a0_0, .int .i64 a0_1, .slice A0_2 l0_2.length c0_2]] (by rfl) rfl rfl (by (try simp only [List.map_toArray, List.map_cons, List.map_nil]); first | done | rfl | (simp only [List.length_drop, List.length_take]; rfl)) ?_
        with_reducible refine (laws_toMatch.calls k a0_0 a0_1 _ _ l0_2 t225 t226 t227 _ ?side1 ?side2 A13.out).mono ?_
        (case side1 => repeat (first | exact (Kd.C_below HR0_2.out HB.out) | (with_reducible refine Kd.C_alloc ?_ _) | (with_reducible refine Kd.C_drewN ?_ _) | (with_reducible refine Kd.C_drew ?_)))
        (case side2 => exact HC0_2.out)
        rintro e w36 ⟨v228, rfl, ho0, hb⟩
        refine ⟨_, rfl, ?_⟩
        have n0_ := Aside0.mk (Kd.R_elder' (by (with_reducible repeat (first | apply Kd.R_alloc | apply Kd.R_drewN | apply Kd.R_drew)); exact HO211.out) (Kd.R_base ho0) hb)
        have n1_ := Aside0.mk (Kd.R_below (by (with_reducible repeat (first | apply Kd.R_alloc | apply Kd.R_drewN | apply Kd.R_drew)); exact HO214.out) hb)
        have n2_ := Aside0.mk (Kd.R_elder' (by (with_reducible repeat (first | apply Kd.R_alloc | apply Kd.R_drewN | apply Kd.R_drew)); exact HO219.out) (Kd.R_base ho0) hb)
        have n3_ := Aside0.mk (Kd.R_below (by (with_reducible repeat (first | apply Kd.R_alloc | apply Kd.R_drewN | apply Kd.R_drew)); exact HO223.out) hb)
        have n4_ := Aside0.mk (Kd.R_lower (Kd.R_new' (Kd.R_new' ho0 (Kd.R_lt (by (with_reducible repeat (first | apply Kd.R_alloc | apply Kd.R_drewN | apply Kd.R_drew)); exact HO211.out))) (Kd.R_lt (by (with_reducible repeat (first | apply Kd.R_alloc | apply Kd.R_drewN | apply Kd.R_drew)); exact HO219.out))) (below_size (by repeat (first | (with_reducible first | exact HB.out | apply below_alloc | apply pw_below_drewN | apply below_drew1 | refine below_set ?_ GE205.out | refine below_set ?_ GE220.out) | exact HB.out))))
        have n5_ := sK BK205 hb
        have n6_ := sK BK220 hb
        have n7_ := sB HB hb
        clear HO211
        clear HO214
        clear HO219
        clear HO223
        clear BK205
        clear BK220
        clear HB
        have HO211 := n0_
        have HO214 := n1_
        have HO219 := n2_
        have HO223 := n3_
        have HO229 := n4_
        have BK205 := n5_
        have BK220 := n6_
        have HB := n7_
        clear n0_ n1_ n2_ n3_ n4_ n5_ n6_ n7_
        (try clear hb)
        (try clear hb2)
        (try clear hk)
        (try clear hi)
        (try clear ho0)
        obtain ⟨Ao37, co37, eo37⟩ := Kd.R_slice HO229.out
        (first | subst eo37 | (injection eo37 with f1_ f2_ f3_; have f4_ := f1_.symm; have f5_ := f3_.symm; clear f1_ f2_ f3_; subst f4_; subst f5_))
        refine hK.out _ _ ⟨(blk_cell BK220.out 0).trans rfl, (blk_cell BK220.out 1).trans rfl, (blk_cell BK220.out 2).trans rfl, (blk_cell BK205.out 0).trans rfl, (blk_cell BK205.out 1).trans rfl, (blk_cell BK205.out 2).trans rfl⟩ (fun hHeld => ?_)
        clear hK K
        refine norm_ (a' := ?_) ?_ ?_
        rotate_left
        · show Act.put _ (some 29) _ = _
          simp only [Act.put, List.setIfInBounds_toArray, List.set_cons_zero, List.set_cons_succ, i64_w, i32_w]
          rfl
        refine one_ (i := 3) (N := some 30) #[true, true, true, true, false] rfl rfl (by kernel_rfl) (by decide) (fun K hK => ?_)
        refine goes_ Try.func10 (by kernel_rfl) rfl #[.agg #[.int .i64 t215, .int .i64 t216, .slice Ao30 t217.length co30], .agg #[.int .i64 t225, .int .i64 t226, .slice Ao37 t227.length co37]] (by rfl) rfl rfl (by (try simp only [List.map_toArray, List.map_cons, List.map_nil]); first | done | rfl | (simp only [List.length_drop, List.length_take]; rfl)) ?_
        with_reducible refine (laws_eqMatch.calls k t215 t216 _ _ t217 t225 t226 _ _ t227 true _ ?side1 ?side2 ?side3 ?side4 A14.out).mono ?_
        (case side1 => repeat (first | exact (Kd.R_reads' HO219.out).2.2 | (with_reducible refine Kd.C_alloc ?_ _) | (with_reducible refine Kd.C_drewN ?_ _) | (with_reducible refine Kd.C_drew ?_)))
        (case side2 => exact (Kd.R_reads' HO219.out).2.1)
        (case side3 => repeat (first | exact (Kd.R_reads' HO229.out).2.2 | (with_reducible refine Kd.C_alloc ?_ _) | (with_reducible refine Kd.C_drewN ?_ _) | (with_reducible refine Kd.C_drew ?_)))
        (case side4 => exact (Kd.R_reads' HO229.out).2.1)
        rintro e w38 ⟨rfl, hb⟩
        refine ⟨_, rfl, ?_⟩
        have n0_ := Aside0.mk (Kd.R_below (by (with_reducible repeat (first | apply Kd.R_alloc | apply Kd.R_drewN | apply Kd.R_drew)); exact HO211.out) hb)
        have n1_ := Aside0.mk (Kd.R_below (by (with_reducible repeat (first | apply Kd.R_alloc | apply Kd.R_drewN | apply Kd.R_drew)); exact HO214.out) hb)
        have n2_ := Aside0.mk (Kd.R_below (by (with_reducible repeat (first | apply Kd.R_alloc | apply Kd.R_drewN | apply Kd.R_drew)); exact HO219.out) hb)
        have n3_ := Aside0.mk (Kd.R_below (by (with_reducible repeat (first | apply Kd.R_alloc | apply Kd.R_drewN | apply Kd.R_drew)); exact HO223.out) hb)
        have n4_ := Aside0.mk (Kd.R_below (by (with_reducible repeat (first | apply Kd.R_alloc | apply Kd.R_drewN | apply Kd.R_drew)); exact HO229.out) hb)
        have n5_ := sK BK205 hb
        have n6_ := sK BK220 hb
        have n7_ := sB HB hb
        clear HO211
        clear HO214
        clear HO219
        clear HO223
        clear HO229
        clear BK205
        clear BK220
        clear HB
        have HO211 := n0_
        have HO214 := n1_
        have HO219 := n2_
        have HO223 := n3_
        have HO229 := n4_
        have BK205 := n5_
        have BK220 := n6_
        have HB := n7_
        clear n0_ n1_ n2_ n3_ n4_ n5_ n6_ n7_
        (try clear hb)
        (try clear hb2)
        (try clear hk)
        (try clear hi)
        refine hK.out _ _ ⟨(blk_cell BK220.out 0).trans rfl, (blk_cell BK220.out 1).trans rfl, (blk_cell BK220.out 2).trans rfl, (blk_cell BK205.out 0).trans rfl, (blk_cell BK205.out 1).trans rfl, (blk_cell BK205.out 2).trans rfl⟩ (fun hHeld => ?_)
        clear hK K
        refine norm_ (a' := ?_) ?_ ?_
        rotate_left
        · show Act.put _ (some 30) _ = _
          simp only [Act.put, List.setIfInBounds_toArray, List.set_cons_zero, List.set_cons_succ, i64_w, i32_w]
          rfl
        refine pure_ (i := 4) (N := some 31) (v := ?_) (a' := ?_) #[true, true, true, true, true] rfl rfl (by kernel_rfl) (fun _ _ _ h => h) (Or.inl ⟨by rfl, ?_⟩) ?_ ?_
        rotate_left
        · intro w'
          go_simp
          with_reducible rfl
        rotate_left
        · simp only [Act.put, List.setIfInBounds_toArray, List.set_cons_zero, List.set_cons_succ, i64_w, i32_w]
          rfl
        refine done_ (by kernel_rfl) ?_
        obtain ⟨hcz39_0, hcz39_1, hcz39_2, hfz39_0, hfz39_1, hfz39_2⟩ := cells3 BK220.out
        go_upto_region 14 with (first | ((with_reducible refine gate_callee (f := 11) rfl ?_); refine sC (some 34) Try.func11 #[.agg #[.int .i64 t215, .int .i64 t216, .slice Ao30 t217.length co30], .int .i64 1] (laws_markMatch.calls k t215 t216 (fun k_ => some k_ = (.slice Ao30 t217.length co30 : Value).ownBlock) (.slice Ao30 t217.length co30) t217 1 t231 t232 w _ ?side1 ?side2 A16.out) ?_; (case side1 => repeat (first | (with_reducible first | exact HB.out | apply below_alloc | apply pw_below_drewN | apply below_drew1 | refine below_set ?_ GE205.out | refine below_set ?_ GE220.out) | exact HB.out)); (case side2 => exact Kd.R_tight rfl HO219.out); rintro e w40 ⟨rfl, hy0, hb, hkp⟩; refine ⟨_, rfl, ?_⟩; have n0_ := Aside0.mk (blk_kept (by (with_reducible repeat (first | refine blk_drewN ?_ _ | refine blk_drew ?_ | refine blk_alloc ?_ _)); exact BK205.out) hkp (fun hs_ => (fun e_ => (Kd.R_ne HO219.out BK205.out (by decide)) e_) hs_)); have n1_ := Aside0.mk (Kd.R_mono (ok' := fun k_ => some k_ ≠ (.slice Ao30 t217.length co30 : Value).ownBlock ∧ some k_ ≠ (.slice Ao37 t227.length co37 : Value).ownBlock) (Kd.R_keptB (HO211.out) hkp (fun k_ hk_ hs_ => (hk_.1.2) hs_)) (fun k_ hk_ => ⟨hk_.1.1.2, hk_.1.2⟩)); have n2_ := Aside0.mk (Kd.R_mono (ok' := fun k_ => some k_ ≠ (.slice Ao32 t221.length co32 : Value).ownBlock) (Kd.R_keptB ((Kd.R_apart' HO214.out (Kd.R_typed HO219.out) (by decide))) hkp (fun k_ hk_ hs_ => (hk_.2) hs_)) (fun k_ hk_ => hk_.1.1.2)); have n3_ := Aside0.mk (Kd.R_reok rfl hy0 (fun k_ e_ => HO219.out.1 k_ e_)); have n4_ := Aside0.mk (blk_kept (by (with_reducible repeat (first | refine blk_drewN ?_ _ | refine blk_drew ?_ | refine blk_alloc ?_ _)); exact BK220.out) hkp (fun hs_ => (fun e_ => (Kd.R_ne HO219.out BK220.out (by decide)) e_) hs_)); have n5_ := Aside0.mk (Kd.R_mono (ok' := fun k_ => some k_ ≠ (.slice Ao33 t212.length co33 : Value).ownBlock) (Kd.R_keptB ((Kd.R_apart' HO223.out (Kd.R_typed HO219.out) (by decide))) hkp (fun k_ hk_ hs_ => (hk_.2) hs_)) (fun k_ hk_ => hk_.1.1.2)); have n6_ := Aside0.mk (Kd.R_mono (ok' := fun k_ => some k_ ≠ (.slice Ao23 t209.length co23 : Value).ownBlock ∧ some k_ ≠ (.slice Ao30 t217.length co30 : Value).ownBlock) (Kd.R_keptB (HO229.out) hkp (fun k_ hk_ hs_ => (hk_.2) hs_)) (fun k_ hk_ => ⟨hk_.1.1.2, hk_.1.2⟩)); have n7_ := Aside0.mk (hb); clear BK205; clear HO211; clear HO214; clear HO219; clear BK220; clear HO223; clear HO229; clear HB; have BK205 := n0_; have HO211 := n1_; have HO214 := n2_; have HO219 := n3_; have BK220 := n4_; have HO223 := n5_; have HO229 := n6_; have HB := n7_; clear n0_ n1_ n2_ n3_ n4_ n5_ n6_ n7_; (try clear hb); (try clear hkp); (try clear hy0)))
        (try simp only [Act.put, List.setIfInBounds_toArray, List.set_cons_zero, List.set_cons_succ])
        go_cut [42] (fun v42 wc => ∃ (kq : Nat) (x42_16 : Bool), v42 = .bool x42_16 ∧ Aside0 (laws_FnExactImmediateOf.j0 kq t212 t221 x42_16 a0_0 a0_1 l0_2 = some true) ∧ Aside0 (kq ≤ k) ∧ Aside0 (Kd.R k41 41 wc w.heap.size (fun k_ => some k_ ≠ ((.slice Ao32 t221.length co32) : Value).ownBlock) (.slice Ao33 t212.length co33) t212) ∧ Aside0 (Kd.R k41 41 wc w.heap.size (fun k_ => some k_ ≠ ((.slice Ao33 t212.length co33) : Value).ownBlock) (.slice Ao32 t221.length co32) t221) ∧ Aside0 (Kd.R k39 39 wc w.heap.size (fun _ => True) (.slice Ao30 t217.length co30) t232) ∧ Aside0 (wc.heap[gb205]? = some (.cells #[.int .i64 a0_0, .int .i64 a0_1, (.slice A0_2 l0_2.length c0_2)] 24 (0, 0))) ∧ Aside0 (wc.heap[gb220]? = some (.cells #[.int .i64 t215, .int .i64 t216, (.slice Ao30 t217.length co30)] 30 (0, 0))) ∧ Aside0 (Below w.heap.size w wc))
        case first =>
          have H := HC17.out
          clear HC17
          by_cases c41 : t231 < 0
          · rw [if_pos c41] at H
            have c41b0 : decide (t231 < 0) = true := decide_eq_true c41
            clear c41
            (first | rw [c41b0] | (simp only [i64_w, i32_w]; rw [c41b0]) | rw [c41b2] | skip)
            have H' := Aside0.mk H
            clear H
            go_wp2
            go_meet
            case rel => exact ⟨_, (true), (by first | rfl | (simp; done) | (simp [*]; done)), H', ⟨by first | omega | exact Nat.le_refl _⟩, ⟨by (with_reducible repeat (first | apply Kd.R_alloc | apply Kd.R_drewN | apply Kd.R_drew)); exact HO214.out⟩, ⟨by (with_reducible repeat (first | apply Kd.R_alloc | apply Kd.R_drewN | apply Kd.R_drew)); exact HO223.out⟩, ⟨by (with_reducible repeat (first | apply Kd.R_alloc | apply Kd.R_drewN | apply Kd.R_drew)); exact Kd.R_mono HO219.out (fun _ hk => trivial)⟩, ⟨by (with_reducible repeat (first | refine blk_drewN ?_ _ | refine blk_drew ?_ | refine blk_alloc ?_ _)); exact BK205.out⟩, ⟨by (with_reducible repeat (first | refine blk_drewN ?_ _ | refine blk_drew ?_ | refine blk_alloc ?_ _)); exact BK220.out⟩, ⟨by repeat (first | (with_reducible first | exact HB.out | apply below_alloc | apply pw_below_drewN | apply below_drew1 | refine below_set ?_ GE205.out | refine below_set ?_ GE220.out) | exact HB.out)⟩⟩
          · rw [if_neg c41] at H
            have c41b0 : decide (t231 < 0) = false := decide_eq_false c41
            clear c41
            (first | rw [c41b0] | (simp only [i64_w, i32_w]; rw [c41b0]) | rw [c41b2] | skip)
            replace H := Option.bind_eq_some_iff.mp H
            obtain ⟨t233, A420, H⟩ := H
            replace H : (laws_FnExactImmediateOf.j0 k t212 t221 (!t233) a0_0 a0_1 l0_2) = some true := H
            have A42 := Aside0.mk A420
            clear A420
            have H' := Aside0.mk H
            clear H
            go_wp2_with (first | (go_at_call 9; (with_reducible refine (laws_eqAssignmentS.calls k _ _ t221 _ _ t212 t233 _ ?side1 ?side2 ?side3 ?side4 A42.out).mono ?_); (case side1 => repeat (first | exact (Kd.R_reads' HO223.out).2.2 | (with_reducible refine Kd.C_alloc ?_ _) | (with_reducible refine Kd.C_drewN ?_ _) | (with_reducible refine Kd.C_drew ?_))); (case side2 => exact (Kd.R_reads' HO223.out).2.1); (case side3 => repeat (first | exact (Kd.R_reads' HO214.out).2.2 | (with_reducible refine Kd.C_alloc ?_ _) | (with_reducible refine Kd.C_drewN ?_ _) | (with_reducible refine Kd.C_drew ?_))); (case side4 => exact (Kd.R_reads' HO214.out).2.1); rintro e w43 ⟨rfl, hb⟩; have n0_ := Aside0.mk (Kd.R_below (by (with_reducible repeat (first | apply Kd.R_alloc | apply Kd.R_drewN | apply Kd.R_drew)); exact HO211.out) hb); have n1_ := Aside0.mk (Kd.R_below (by (with_reducible repeat (first | apply Kd.R_alloc | apply Kd.R_drewN | apply Kd.R_drew)); exact HO214.out) hb); have n2_ := Aside0.mk (Kd.R_below (by (with_reducible repeat (first | apply Kd.R_alloc | apply Kd.R_drewN | apply Kd.R_drew)); exact HO219.out) hb); have n3_ := Aside0.mk (Kd.R_below (by (with_reducible repeat (first | apply Kd.R_alloc | apply Kd.R_drewN | apply Kd.R_drew)); exact HO223.out) hb); have n4_ := Aside0.mk (Kd.R_below (by (with_reducible repeat (first | apply Kd.R_alloc | apply Kd.R_drewN | apply Kd.R_drew)); exact HO229.out) hb); have n5_ := sK BK205 hb; have n6_ := sK BK220 hb; have n7_ := sB HB hb; clear HO211; clear HO214; clear HO219; clear HO223; clear HO229; clear BK205; clear BK220; clear HB; have HO211 := n0_; have HO214 := n1_; have HO219 := n2_; have HO223 := n3_; have HO229 := n4_; have BK205 := n5_; have BK220 := n6_; have HB := n7_; clear n0_ n1_ n2_ n3_ n4_ n5_ n6_ n7_; (try clear hb); (try clear hb2); (try clear hk); (try clear hi)))
            go_meet
            case rel => exact ⟨_, (!t233), (by first | rfl | (simp; done) | (simp [*]; done)), H', ⟨by first | omega | exact Nat.le_refl _⟩, ⟨by (with_reducible repeat (first | apply Kd.R_alloc | apply Kd.R_drewN | apply Kd.R_drew)); exact HO214.out⟩, ⟨by (with_reducible repeat (first | apply Kd.R_alloc | apply Kd.R_drewN | apply Kd.R_drew)); exact HO223.out⟩, ⟨by (with_reducible repeat (first | apply Kd.R_alloc | apply Kd.R_drewN | apply Kd.R_drew)); exact Kd.R_mono HO219.out (fun _ hk => trivial)⟩, ⟨by (with_reducible repeat (first | refine blk_drewN ?_ _ | refine blk_drew ?_ | refine blk_alloc ?_ _)); exact BK205.out⟩, ⟨by (with_reducible repeat (first | refine blk_drewN ?_ _ | refine blk_drew ?_ | refine blk_alloc ?_ _)); exact BK220.out⟩, ⟨by repeat (first | (with_reducible first | exact HB.out | apply below_alloc | apply pw_below_drewN | apply below_drew1 | refine below_set ?_ GE205.out | refine below_set ?_ GE220.out) | exact HB.out)⟩⟩
        case rest =>
          clear HC17
          try clear c1
          try clear c2
          try clear p2
          try clear c3
          try clear c3b0
          try clear c4
          try clear c5
          try clear c6
          try clear c7
          try clear c8
          try clear c9
          try clear c10
          try clear c11
          try clear c12
          try clear c15
          try clear c28
          try clear c41
          try clear c41b0
          try clear c41b2
          try clear hcz19_0
          try clear hcz19_1
          try clear hcz19_2
          try clear hcz21_0
          try clear hcz21_1
          try clear hcz21_2
          try clear hcz25_0
          try clear hcz25_1
          try clear hcz25_2
          try clear hcz29_0
          try clear hcz29_1
          try clear hcz29_2
          try clear hcz39_0
          try clear hcz39_1
          try clear hcz39_2
          try clear hcz5_0
          try clear hcz5_1
          try clear hcz5_2
          try clear hfz19_0
          try clear hfz19_1
          try clear hfz19_2
          try clear hfz21_0
          try clear hfz21_1
          try clear hfz21_2
          try clear hfz25_0
          try clear hfz25_1
          try clear hfz25_2
          try clear hfz29_0
          try clear hfz29_1
          try clear hfz29_2
          try clear hfz39_0
          try clear hfz39_1
          try clear hfz39_2
          try clear hfz5_0
          try clear hfz5_1
          try clear hfz5_2
          obtain ⟨kq, x42_16, rfl, HA, HJ16, HO_4, HO_6, HO_221002, BK205, BK220, HB⟩ := hcut
          have hl221002_16 := (Kd.R_reads' HO_221002.out).1
          rw [hl221002_16] at HO_221002
          (try simp only [hl221002_16])
          (try simp only [hl221002_16] at BK205)
          (try simp only [hl221002_16] at BK220)
          (try simp only [hl221002_16] at HO_4)
          (try simp only [hl221002_16] at HO_6)
          cases kq with
          | zero => exact absurd HA.out (by simp [laws_FnExactImmediateOf.j0])
          | succ kj16 =>
            have H := HA.out
            clear HA
            simp only [laws_FnExactImmediateOf.j0] at H
            by_cases c44 : x42_16 = true
            · subst c44
              have H1 : (some false) = some true := by rw [if_pos rfl] at H; exact H
              clear H
              have H := H1
              clear H1
              exact absurd H (by simp)
            · replace c44 := Bool.eq_false_iff.mpr c44
              subst c44
              have H1 : ((laws_markAssignmentS.f kj16 t221 1).bind fun bt234 => ((laws_heldAssignmentS.f kj16 bt234.2 1).bind fun t236 => (if t236 < 0 then (some false) else (if t236 = bt234.1 then ((laws_toMatch.f kj16 a0_0 a0_1 l0_2).bind fun bt237 => ((impl_ImmediateOf.f kj16 bt237.1 bt237.2.1 bt237.2.2).bind fun t242 => ((laws_eqAssignmentS.f kj16 t242 t212).bind fun t245 => (if t245 = true then ((laws_heldAssignmentS.f kj16 bt234.2 1).bind fun t246 => (if t246 < 0 then (some false) else (if t246 = bt234.1 then (some true) else (some false)))) else (some false))))) else (some false))))) = some true := by rw [if_neg (show ¬ (false = true) by decide)] at H; exact H
              clear H
              have H := H1
              clear H1
              replace H := Option.bind_eq_some_iff.mp H
              obtain ⟨⟨t234, t235⟩, A450, H⟩ := H
              replace H : ((laws_heldAssignmentS.f kj16 t235 1).bind fun t236 => (if t236 < 0 then (some false) else (if t236 = t234 then ((laws_toMatch.f kj16 a0_0 a0_1 l0_2).bind fun bt237 => ((impl_ImmediateOf.f kj16 bt237.1 bt237.2.1 bt237.2.2).bind fun t242 => ((laws_eqAssignmentS.f kj16 t242 t212).bind fun t245 => (if t245 = true then ((laws_heldAssignmentS.f kj16 t235 1).bind fun t246 => (if t246 < 0 then (some false) else (if t246 = t234 then (some true) else (some false)))) else (some false))))) else (some false)))) = some true := H
              have A45 := Aside0.mk A450
              clear A450
              replace H := Option.bind_eq_some_iff.mp H
              obtain ⟨t236, A460, H⟩ := H
              replace H : (if t236 < 0 then (some false) else (if t236 = t234 then ((laws_toMatch.f kj16 a0_0 a0_1 l0_2).bind fun bt237 => ((impl_ImmediateOf.f kj16 bt237.1 bt237.2.1 bt237.2.2).bind fun t242 => ((laws_eqAssignmentS.f kj16 t242 t212).bind fun t245 => (if t245 = true then ((laws_heldAssignmentS.f kj16 t235 1).bind fun t246 => (if t246 < 0 then (some false) else (if t246 = t234 then (some true) else (some false)))) else (some false))))) else (some false))) = some true := H
              have A46 := Aside0.mk A460
              clear A460
              by_cases c47 : t236 < 0
              · rw [if_pos c47] at H
                have c47b0 : decide (t236 < 0) = true := decide_eq_true c47
                clear c47
                exact absurd H (by simp)
              · rw [if_neg c47] at H
                have c47b0 : decide (t236 < 0) = false := decide_eq_false c47
                clear c47
                by_cases c48 : t236 = t234
                · rw [if_pos c48] at H
                  have c48b0 : (t236 == t234) = true := beq_iff_eq.mpr c48
                  have c48b1 : (t236 != t234) = false := bne_eq_false_iff_eq.mpr c48
                  clear c48
                  replace H := Option.bind_eq_some_iff.mp H
                  obtain ⟨⟨t237, t238, t239⟩, A490, H⟩ := H
                  replace H : ((impl_ImmediateOf.f kj16 t237 t238 t239).bind fun t242 => ((laws_eqAssignmentS.f kj16 t242 t212).bind fun t245 => (if t245 = true then ((laws_heldAssignmentS.f kj16 t235 1).bind fun t246 => (if t246 < 0 then (some false) else (if t246 = t234 then (some true) else (some false)))) else (some false)))) = some true := H
                  have A49 := Aside0.mk A490
                  clear A490
                  replace H := Option.bind_eq_some_iff.mp H
                  obtain ⟨t242, A500, H⟩ := H
                  replace H : ((laws_eqAssignmentS.f kj16 t242 t212).bind fun t245 => (if t245 = true then ((laws_heldAssignmentS.f kj16 t235 1).bind fun t246 => (if t246 < 0 then (some false) else (if t246 = t234 then (some true) else (some false)))) else (some false))) = some true := H
                  have A50 := Aside0.mk A500
                  clear A500
                  replace H := Option.bind_eq_some_iff.mp H
                  obtain ⟨t245, A510, H⟩ := H
                  replace H : (if t245 = true then ((laws_heldAssignmentS.f kj16 t235 1).bind fun t246 => (if t246 < 0 then (some false) else (if t246 = t234 then (some true) else (some false)))) else (some false)) = some true := H
                  have A51 := Aside0.mk A510
                  clear A510
                  by_cases c52 : t245 = true
                  · subst c52
                    have H1 : ((laws_heldAssignmentS.f kj16 t235 1).bind fun t246 => (if t246 < 0 then (some false) else (if t246 = t234 then (some true) else (some false)))) = some true := by rw [if_pos rfl] at H; exact H
                    clear H
                    have H := H1
                    clear H1
                    replace H := Option.bind_eq_some_iff.mp H
                    obtain ⟨t246, A530, H⟩ := H
                    replace H : (if t246 < 0 then (some false) else (if t246 = t234 then (some true) else (some false))) = some true := H
                    have A53 := Aside0.mk A530
                    clear A530
                    by_cases c54 : t246 < 0
                    · rw [if_pos c54] at H
                      have c54b0 : decide (t246 < 0) = true := decide_eq_true c54
                      clear c54
                      exact absurd H (by simp)
                    · rw [if_neg c54] at H
                      have c54b0 : decide (t246 < 0) = false := decide_eq_false c54
                      clear c54
                      by_cases c55 : t246 = t234
                      · rw [if_pos c55] at H
                        have c55b0 : (t246 == t234) = true := beq_iff_eq.mpr c55
                        have c55b1 : (t246 != t234) = false := bne_eq_false_iff_eq.mpr c55
                        clear c55
                        clear H
                        go_wp2_with (first | ((with_reducible refine gate_callee (f := 12) rfl ?_); refine sC (some 45) Try.func12 #[.slice Ao32 t221.length co32, .int .i64 1] (laws_markAssignmentS.calls kj16 (fun k_ => some k_ = (.slice Ao32 t221.length co32 : Value).ownBlock) (.slice Ao32 t221.length co32) t221 1 t234 t235 w _ ?side1 ?side2 A45.out) ?_; (case side1 => repeat (first | (with_reducible first | exact HB.out | apply below_alloc | apply pw_below_drewN | apply below_drew1 | refine below_set ?_ GE205.out | refine below_set ?_ GE220.out) | exact HB.out)); (case side2 => exact Kd.R_tight rfl HO_6.out); rintro e w56 ⟨rfl, hy0, hb, hkp⟩; refine ⟨_, rfl, ?_⟩; have n0_ := Aside0.mk (Kd.R_mono (ok' := fun k_ => some k_ ≠ (.slice Ao32 t221.length co32 : Value).ownBlock) (Kd.R_keptB (HO_4.out) hkp (fun k_ hk_ hs_ => (hk_) hs_)) (fun k_ hk_ => hk_.1)); have n1_ := Aside0.mk (Kd.R_reok rfl hy0 (fun k_ e_ => HO_6.out.1 k_ e_)); have n2_ := Aside0.mk (Kd.R_mono (ok' := fun k_ => True) (Kd.R_keptB ((Kd.R_apart' HO_221002.out (Kd.R_typed HO_6.out) (by decide))) hkp (fun k_ hk_ hs_ => (hk_.2) hs_)) (fun k_ hk_ => trivial)); have n3_ := Aside0.mk (blk_kept (by (with_reducible repeat (first | refine blk_drewN ?_ _ | refine blk_drew ?_ | refine blk_alloc ?_ _)); exact BK205.out) hkp (fun hs_ => (fun e_ => (Kd.R_ne HO_6.out BK205.out (by decide)) e_) hs_)); have n4_ := Aside0.mk (blk_kept (by (with_reducible repeat (first | refine blk_drewN ?_ _ | refine blk_drew ?_ | refine blk_alloc ?_ _)); exact BK220.out) hkp (fun hs_ => (fun e_ => (Kd.R_ne HO_6.out BK220.out (by decide)) e_) hs_)); have n5_ := Aside0.mk (hb); clear HO_4; clear HO_6; clear HO_221002; clear BK205; clear BK220; clear HB; have HO_4 := n0_; have HO_6 := n1_; have HO_221002 := n2_; have BK205 := n3_; have BK220 := n4_; have HB := n5_; clear n0_ n1_ n2_ n3_ n4_ n5_; (try clear hb); (try clear hkp); (try clear hy0)) | ((with_reducible refine gate_callee (f := 13) rfl ?_); refine goesL_ (some 48) rfl rfl Try.func13 (by kernel_rfl) rfl #[.slice Ao32 t235.length co32, .int .i64 1] rfl (by (try simp only [List.map_toArray, List.map_cons, List.map_nil]); first | done | (rw [show t235.length = t221.length from (Kd.R_reads' HO_6.out).1.symm] <;> rfl) | rfl | (simp only [List.length_drop, List.length_take]; rfl)) ?_; (with_reducible refine (laws_heldAssignmentS.calls kj16 _ _ t235 1 t236 _ ?side1 ?side2 A46.out).mono ?_); (case side1 => repeat (first | exact (Kd.R_reads' HO_6.out).2.2 | (with_reducible refine Kd.C_alloc ?_ _) | (with_reducible refine Kd.C_drewN ?_ _) | (with_reducible refine Kd.C_drew ?_))); (case side2 => rw [show t235.length = t221.length from (Kd.R_reads' HO_6.out).1.symm]; exact (Kd.R_reads' HO_6.out).2.1); rintro e w57 ⟨rfl, hb⟩; refine ⟨_, rfl, ?_⟩; have n0_ := Aside0.mk (Kd.R_below (by (with_reducible repeat (first | apply Kd.R_alloc | apply Kd.R_drewN | apply Kd.R_drew)); exact HO_4.out) hb); have n1_ := Aside0.mk (Kd.R_below (by (with_reducible repeat (first | apply Kd.R_alloc | apply Kd.R_drewN | apply Kd.R_drew)); exact HO_6.out) hb); have n2_ := Aside0.mk (Kd.R_below (by (with_reducible repeat (first | apply Kd.R_alloc | apply Kd.R_drewN | apply Kd.R_drew)); exact HO_221002.out) hb); have n3_ := sK BK205 hb; have n4_ := sK BK220 hb; have n5_ := sB HB hb; clear HO_4; clear HO_6; clear HO_221002; clear BK205; clear BK220; clear HB; have HO_4 := n0_; have HO_6 := n1_; have HO_221002 := n2_; have BK205 := n3_; have BK220 := n4_; have HB := n5_; clear n0_ n1_ n2_ n3_ n4_ n5_; (try clear hb); (try clear hb2); (try clear hk); (try clear hi); have hnb58 := NB205_220.out; have hnc58 := NB220_205.out; obtain ⟨hcz59_0, hcz59_1, hcz59_2, hfz59_0, hfz59_1, hfz59_2⟩ := cells3 BK205.out) | ((with_reducible refine gate_callee (f := 7) rfl ?_); refine sC (some 55) Try.func7 #[.agg #[.int .i64 a0_0, .int .i64 a0_1, .slice A0_2 l0_2.length c0_2]] (laws_toMatch.calls kj16 a0_0 a0_1 _ _ l0_2 t237 t238 t239 _ ?side1 ?side2 A49.out) ?_; (case side1 => repeat (first | exact (Kd.C_below HR0_2.out HB.out) | (with_reducible refine Kd.C_alloc ?_ _) | (with_reducible refine Kd.C_drewN ?_ _) | (with_reducible refine Kd.C_drew ?_))); (case side2 => exact HC0_2.out); rintro e w60 ⟨v240, rfl, ho0, hb⟩; refine ⟨_, rfl, ?_⟩; have n0_ := Aside0.mk (Kd.R_below (by (with_reducible repeat (first | apply Kd.R_alloc | apply Kd.R_drewN | apply Kd.R_drew)); exact HO_4.out) hb); have n1_ := Aside0.mk (Kd.R_below (by (with_reducible repeat (first | apply Kd.R_alloc | apply Kd.R_drewN | apply Kd.R_drew)); exact HO_6.out) hb); have n2_ := Aside0.mk (Kd.R_elder' (by (with_reducible repeat (first | apply Kd.R_alloc | apply Kd.R_drewN | apply Kd.R_drew)); exact HO_221002.out) (Kd.R_base ho0) hb); have n3_ := Aside0.mk (Kd.R_lower (Kd.R_new' ho0 (Kd.R_lt (by (with_reducible repeat (first | apply Kd.R_alloc | apply Kd.R_drewN | apply Kd.R_drew)); exact HO_221002.out))) (below_size (by repeat (first | (with_reducible first | exact HB.out | apply below_alloc | apply pw_below_drewN | apply below_drew1 | refine below_set ?_ GE205.out | refine below_set ?_ GE220.out) | exact HB.out)))); have n4_ := sK BK205 hb; have n5_ := sK BK220 hb; have n6_ := sB HB hb; clear HO_4; clear HO_6; clear HO_221002; clear BK205; clear BK220; clear HB; have HO_4 := n0_; have HO_6 := n1_; have HO_221002 := n2_; have HO241 := n3_; have BK205 := n4_; have BK220 := n5_; have HB := n6_; clear n0_ n1_ n2_ n3_ n4_ n5_ n6_; (try clear hb); (try clear hb2); (try clear hk); (try clear hi); (try clear ho0); obtain ⟨Ao61, co61, eo61⟩ := Kd.R_slice HO241.out; subst eo61) | ((with_reducible refine gate_callee (f := 8) rfl ?_); refine sC (some 56) Try.func8 #[.agg #[.int .i64 t237, .int .i64 t238, .slice Ao61 t239.length co61]] (impl_ImmediateOf.calls kj16 t237 t238 _ _ t239 t242 _ ?side1 ?side2 A50.out) ?_; (case side1 => repeat (first | exact (Kd.R_reads' HO241.out).2.2 | (with_reducible refine Kd.C_alloc ?_ _) | (with_reducible refine Kd.C_drewN ?_ _) | (with_reducible refine Kd.C_drew ?_))); (case side2 => exact (Kd.R_reads' HO241.out).2.1); rintro e w62 ⟨v243, rfl, ho0, hb⟩; refine ⟨_, rfl, ?_⟩; have n0_ := Aside0.mk (Kd.R_elder' (by (with_reducible repeat (first | apply Kd.R_alloc | apply Kd.R_drewN | apply Kd.R_drew)); exact HO_4.out) (Kd.R_base ho0) hb); have n1_ := Aside0.mk (Kd.R_elder' (by (with_reducible repeat (first | apply Kd.R_alloc | apply Kd.R_drewN | apply Kd.R_drew)); exact HO_6.out) (Kd.R_base ho0) hb); have n2_ := Aside0.mk (Kd.R_below (by (with_reducible repeat (first | apply Kd.R_alloc | apply Kd.R_drewN | apply Kd.R_drew)); exact HO_221002.out) hb); have n3_ := Aside0.mk (Kd.R_below (by (with_reducible repeat (first | apply Kd.R_alloc | apply Kd.R_drewN | apply Kd.R_drew)); exact HO241.out) hb); have n4_ := Aside0.mk (Kd.R_lower (Kd.R_new' (Kd.R_new' ho0 (Kd.R_lt (by (with_reducible repeat (first | apply Kd.R_alloc | apply Kd.R_drewN | apply Kd.R_drew)); exact HO_4.out))) (Kd.R_lt (by (with_reducible repeat (first | apply Kd.R_alloc | apply Kd.R_drewN | apply Kd.R_drew)); exact HO_6.out))) (below_size (by repeat (first | (with_reducible first | exact HB.out | apply below_alloc | apply pw_below_drewN | apply below_drew1 | refine below_set ?_ GE205.out | refine below_set ?_ GE220.out) | exact HB.out)))); have n5_ := sK BK205 hb; have n6_ := sK BK220 hb; have n7_ := sB HB hb; clear HO_4; clear HO_6; clear HO_221002; clear HO241; clear BK205; clear BK220; clear HB; have HO_4 := n0_; have HO_6 := n1_; have HO_221002 := n2_; have HO241 := n3_; have HO244 := n4_; have BK205 := n5_; have BK220 := n6_; have HB := n7_; clear n0_ n1_ n2_ n3_ n4_ n5_ n6_ n7_; (try clear hb); (try clear hb2); (try clear hk); (try clear hi); (try clear ho0); obtain ⟨Ao63, co63, eo63⟩ := Kd.R_slice HO244.out; subst eo63) | ((with_reducible refine gate_callee (f := 9) rfl ?_); refine sC (some 59) Try.func9 #[.slice Ao63 t242.length co63, .slice Ao33 t212.length co33] (laws_eqAssignmentS.calls kj16 _ _ t242 _ _ t212 true _ ?side1 ?side2 ?side3 ?side4 A51.out) ?_; (case side1 => repeat (first | exact (Kd.R_reads' HO244.out).2.2 | (with_reducible refine Kd.C_alloc ?_ _) | (with_reducible refine Kd.C_drewN ?_ _) | (with_reducible refine Kd.C_drew ?_))); (case side2 => exact (Kd.R_reads' HO244.out).2.1); (case side3 => repeat (first | exact (Kd.R_reads' HO_4.out).2.2 | (with_reducible refine Kd.C_alloc ?_ _) | (with_reducible refine Kd.C_drewN ?_ _) | (with_reducible refine Kd.C_drew ?_))); (case side4 => exact (Kd.R_reads' HO_4.out).2.1); rintro e w64 ⟨rfl, hb⟩; refine ⟨_, rfl, ?_⟩; have n0_ := Aside0.mk (Kd.R_below (by (with_reducible repeat (first | apply Kd.R_alloc | apply Kd.R_drewN | apply Kd.R_drew)); exact HO_4.out) hb); have n1_ := Aside0.mk (Kd.R_below (by (with_reducible repeat (first | apply Kd.R_alloc | apply Kd.R_drewN | apply Kd.R_drew)); exact HO_6.out) hb); have n2_ := Aside0.mk (Kd.R_below (by (with_reducible repeat (first | apply Kd.R_alloc | apply Kd.R_drewN | apply Kd.R_drew)); exact HO_221002.out) hb); have n3_ := Aside0.mk (Kd.R_below (by (with_reducible repeat (first | apply Kd.R_alloc | apply Kd.R_drewN | apply Kd.R_drew)); exact HO241.out) hb); have n4_ := Aside0.mk (Kd.R_below (by (with_reducible repeat (first | apply Kd.R_alloc | apply Kd.R_drewN | apply Kd.R_drew)); exact HO244.out) hb); have n5_ := sK BK205 hb; have n6_ := sK BK220 hb; have n7_ := sB HB hb; clear HO_4; clear HO_6; clear HO_221002; clear HO241; clear HO244; clear BK205; clear BK220; clear HB; have HO_4 := n0_; have HO_6 := n1_; have HO_221002 := n2_; have HO241 := n3_; have HO244 := n4_; have BK205 := n5_; have BK220 := n6_; have HB := n7_; clear n0_ n1_ n2_ n3_ n4_ n5_ n6_ n7_; (try clear hb); (try clear hb2); (try clear hk); (try clear hi)) | ((with_reducible refine gate_callee (f := 13) rfl ?_); refine goesL_ (some 63) rfl rfl Try.func13 (by kernel_rfl) rfl #[.slice Ao32 t235.length co32, .int .i64 1] rfl (by (try simp only [List.map_toArray, List.map_cons, List.map_nil]); first | done | (rw [show t235.length = t221.length from (Kd.R_reads' HO_6.out).1.symm] <;> rfl) | rfl | (simp only [List.length_drop, List.length_take]; rfl)) ?_; (with_reducible refine (laws_heldAssignmentS.calls kj16 _ _ t235 1 t246 _ ?side1 ?side2 A53.out).mono ?_); (case side1 => repeat (first | exact (Kd.R_reads' HO_6.out).2.2 | (with_reducible refine Kd.C_alloc ?_ _) | (with_reducible refine Kd.C_drewN ?_ _) | (with_reducible refine Kd.C_drew ?_))); (case side2 => rw [show t235.length = t221.length from (Kd.R_reads' HO_6.out).1.symm]; exact (Kd.R_reads' HO_6.out).2.1); rintro e w65 ⟨rfl, hb⟩; refine ⟨_, rfl, ?_⟩; have n0_ := Aside0.mk (Kd.R_below (by (with_reducible repeat (first | apply Kd.R_alloc | apply Kd.R_drewN | apply Kd.R_drew)); exact HO_4.out) hb); have n1_ := Aside0.mk (Kd.R_below (by (with_reducible repeat (first | apply Kd.R_alloc | apply Kd.R_drewN | apply Kd.R_drew)); exact HO_6.out) hb); have n2_ := Aside0.mk (Kd.R_below (by (with_reducible repeat (first | apply Kd.R_alloc | apply Kd.R_drewN | apply Kd.R_drew)); exact HO_221002.out) hb); have n3_ := Aside0.mk (Kd.R_below (by (with_reducible repeat (first | apply Kd.R_alloc | apply Kd.R_drewN | apply Kd.R_drew)); exact HO241.out) hb); have n4_ := Aside0.mk (Kd.R_below (by (with_reducible repeat (first | apply Kd.R_alloc | apply Kd.R_drewN | apply Kd.R_drew)); exact HO244.out) hb); have n5_ := sK BK205 hb; have n6_ := sK BK220 hb; have n7_ := sB HB hb; clear HO_4; clear HO_6; clear HO_221002; clear HO241; clear HO244; clear BK205; clear BK220; clear HB; have HO_4 := n0_; have HO_6 := n1_; have HO_221002 := n2_; have HO241 := n3_; have HO244 := n4_; have BK205 := n5_; have BK220 := n6_; have HB := n7_; clear n0_ n1_ n2_ n3_ n4_ n5_ n6_ n7_; (try clear hb); (try clear hb2); (try clear hk); (try clear hi)))
                        go_ret
                        exact ⟨by first | rfl | (simp [errW_none, errW_some] <;> rfl) | (simp [*, errW_none, errW_some] <;> rfl), by repeat (first | (with_reducible first | exact HB.out | apply below_alloc | apply pw_below_drewN | apply below_drew1 | refine below_set ?_ GE205.out | refine below_set ?_ GE220.out) | exact HB.out)⟩
                      · rw [if_neg c55] at H
                        have c55b0 : (t246 == t234) = false := beq_eq_false_iff_ne.mpr c55
                        have c55b1 : (t246 != t234) = true := bne_iff_ne.mpr c55
                        exact absurd H (by simp)
                  · replace c52 := Bool.eq_false_iff.mpr c52
                    subst c52
                    have H1 : (some false) = some true := by rw [if_neg (show ¬ (false = true) by decide)] at H; exact H
                    clear H
                    have H := H1
                    clear H1
                    exact absurd H (by simp)
                · rw [if_neg c48] at H
                  have c48b0 : (t236 == t234) = false := beq_eq_false_iff_ne.mpr c48
                  have c48b1 : (t236 != t234) = true := bne_iff_ne.mpr c48
                  exact absurd H (by simp)
      · replace c15 := Bool.eq_false_iff.mpr c15
        subst c15
        have H1 : (some false) = some true := by rw [if_neg (show ¬ (false = true) by decide)] at H; exact H
        clear H
        have H := H1
        clear H1
        exact absurd H (by simp)
    · replace c12 := Bool.eq_false_iff.mpr c12
      subst c12
      have H1 : (some false) = some true := by rw [if_neg (show ¬ (false = true) by decide)] at H; exact H
      clear H
      have H := H1
      clear H1
      exact absurd H (by simp)

end Go.Proofs.Ytlcllofghiialaa.PFnExactImmediateOf
