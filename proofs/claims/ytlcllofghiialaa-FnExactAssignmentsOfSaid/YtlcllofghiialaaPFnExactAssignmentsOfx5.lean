-- PRINTED by print.py (a twelfth state) out of the translation. Not trusted: Lean checks it.
import Derived.Test.YtlcllofghiialaaPFnExactAssignmentsOfx0
import Derived.Test.YtlcllofghiialaaPFnExactAssignmentsOfx1
import Derived.Test.YtlcllofghiialaaPFnExactAssignmentsOfx2
import Derived.Test.YtlcllofghiialaaPFnExactAssignmentsOfx3
import Derived.Test.YtlcllofghiialaaPFnExactAssignmentsOfx4
namespace Go.Proofs.Ytlcllofghiialaa.PFnExactAssignmentsOf
open Go.RowKit Go.Proofs.YtlcllofghiialaaG Go.Proofs.YtlcllofghiialaaW.PrintWords Go.Proofs.YtlcllofghiialaaW.PrintLast Go.Proofs.YtlcllofghiialaaW.PrintMore
attribute [local go_sem] max2_int min2_int max_two min_two max_three min_three max_four min_four   -- for this text's walks alone
set_option linter.unusedVariables false
set_option linter.unusedSimpArgs false

/-! ### laws_FnExactAssignmentsOf: function 4 -/
def laws_FnExactAssignmentsOf.j0 : Nat → List (S41) → List (S41) → Bool → Int → Int → List (S51) → Option (Bool)
  | 0, _, _, _, _, _, _ => none
  | k + 1, x4, x6, x42, x243000, x243001, x243002 => if x42 = true then (some false) else ((laws_markAssignmentS.f k x6 1).bind fun bt271 => ((laws_heldAssignmentS.f k bt271.2 1).bind fun t273 => (if t273 < 0 then (some false) else (if t273 = bt271.1 then ((laws_toMatch.f k x243000 x243001 x243002).bind fun bt274 => ((impl_AssignmentsOf.f k bt274.1 bt274.2.1 bt274.2.2).bind fun t279 => ((laws_eqAssignmentS.f k t279 x4).bind fun t282 => (if t282 = true then ((laws_heldAssignmentS.f k bt271.2 1).bind fun t283 => (if t283 < 0 then (some false) else (if t283 = bt271.1 then (some true) else (some false)))) else (some false))))) else (some false)))))
def laws_FnExactAssignmentsOf.f (k : Nat) (a0_0 : Int) (a0_1 : Int) (l0_2 : List (S51)) : Option (Bool) := (laws_szMatch.f k a0_0 a0_1 l0_2 1048576).bind fun t243 => (if t243 < 0 then (some true) else ((laws_toMatch.f k a0_0 a0_1 l0_2).bind fun bt244 => ((spec_AssignmentsOf.f k bt244.1 bt244.2.1 bt244.2.2).bind fun t249 => ((laws_toMatch.f k a0_0 a0_1 l0_2).bind fun bt252 => ((impl_AssignmentsOf.f k bt252.1 bt252.2.1 bt252.2.2).bind fun t258 => ((laws_eqAssignmentS.f k t258 t249).bind fun t261 => (if t261 = true then ((laws_toMatch.f k a0_0 a0_1 l0_2).bind fun bt262 => ((laws_eqMatch.f k bt252.1 bt252.2.1 bt252.2.2 bt262.1 bt262.2.1 bt262.2.2).bind fun t267 => (if t267 = true then ((laws_markMatch.f k bt252.1 bt252.2.1 bt252.2.2 1).bind fun bt268 => (if bt268.1 < 0 then (laws_FnExactAssignmentsOf.j0 k t249 t258 true a0_0 a0_1 l0_2) else ((laws_eqAssignmentS.f k t258 t249).bind fun t270 => (laws_FnExactAssignmentsOf.j0 k t249 t258 (!t270) a0_0 a0_1 l0_2)))) else (some false)))) else (some false))))))))
set_option maxHeartbeats 8000000 in
set_option maxRecDepth 100000 in
theorem laws_FnExactAssignmentsOf.calls (k : Nat) (a0_0 : Int) (a0_1 : Int) (A0_2 : Option Addr) (c0_2 : Nat) (l0_2 : List (S51)) (w : World) (hr0_2 : Kd.C k51 w A0_2 l0_2.length l0_2) (hc0_2 : l0_2.length ≤ c0_2) (h : laws_FnExactAssignmentsOf.f k a0_0 a0_1 l0_2 = some true) :
    Calls Try.prog 4 #[.agg #[.int .i64 a0_0, .int .i64 a0_1, .slice A0_2 l0_2.length c0_2]] w fun e w' => e = .returned (.bool true) ∧ Below w.heap.size w w' := by
  have hu24 := Try.underlying24
  have hu30 := Try.underlying30
  have HR0_2 := Aside0.mk hr0_2
  have HC0_2 := Aside0.mk hc0_2
  clear hr0_2 hc0_2
  have HB := Aside0.mk (Below.refl w.heap.size w)
  have H : ((laws_szMatch.f k a0_0 a0_1 l0_2 1048576).bind fun t243 => (if t243 < 0 then (some true) else ((laws_toMatch.f k a0_0 a0_1 l0_2).bind fun bt244 => ((spec_AssignmentsOf.f k bt244.1 bt244.2.1 bt244.2.2).bind fun t249 => ((laws_toMatch.f k a0_0 a0_1 l0_2).bind fun bt252 => ((impl_AssignmentsOf.f k bt252.1 bt252.2.1 bt252.2.2).bind fun t258 => ((laws_eqAssignmentS.f k t258 t249).bind fun t261 => (if t261 = true then ((laws_toMatch.f k a0_0 a0_1 l0_2).bind fun bt262 => ((laws_eqMatch.f k bt252.1 bt252.2.1 bt252.2.2 bt262.1 bt262.2.1 bt262.2.2).bind fun t267 => (if t267 = true then ((laws_markMatch.f k bt252.1 bt252.2.1 bt252.2.2 1).bind fun bt268 => (if bt268.1 < 0 then (laws_FnExactAssignmentsOf.j0 k t249 t258 true a0_0 a0_1 l0_2) else ((laws_eqAssignmentS.f k t258 t249).bind fun t270 => (laws_FnExactAssignmentsOf.j0 k t249 t258 (!t270) a0_0 a0_1 l0_2)))) else (some false)))) else (some false))))))))) = some true := h
  clear h
  replace H := Option.bind_eq_some_iff.mp H
  obtain ⟨t243, A20, H⟩ := H
  replace H : (if t243 < 0 then (some true) else ((laws_toMatch.f k a0_0 a0_1 l0_2).bind fun bt244 => ((spec_AssignmentsOf.f k bt244.1 bt244.2.1 bt244.2.2).bind fun t249 => ((laws_toMatch.f k a0_0 a0_1 l0_2).bind fun bt252 => ((impl_AssignmentsOf.f k bt252.1 bt252.2.1 bt252.2.2).bind fun t258 => ((laws_eqAssignmentS.f k t258 t249).bind fun t261 => (if t261 = true then ((laws_toMatch.f k a0_0 a0_1 l0_2).bind fun bt262 => ((laws_eqMatch.f k bt252.1 bt252.2.1 bt252.2.2 bt262.1 bt262.2.1 bt262.2.2).bind fun t267 => (if t267 = true then ((laws_markMatch.f k bt252.1 bt252.2.1 bt252.2.2 1).bind fun bt268 => (if bt268.1 < 0 then (laws_FnExactAssignmentsOf.j0 k t249 t258 true a0_0 a0_1 l0_2) else ((laws_eqAssignmentS.f k t258 t249).bind fun t270 => (laws_FnExactAssignmentsOf.j0 k t249 t258 (!t270) a0_0 a0_1 l0_2)))) else (some false)))) else (some false)))))))) = some true := H
  have A2 := Aside0.mk A20
  clear A20
  by_cases c3 : t243 < 0
  · rw [if_pos c3] at H
    have c3b0 : decide (t243 < 0) = true := decide_eq_true c3
    clear c3
    clear H
    go_enter Try.func4, Try.ntmps4
    go_wp2_with (first | ((with_reducible refine gate_dst (N := 1) rfl ?_); refine sV (N := 1) (cs := #[.int .i64 a0_0, .int .i64 a0_1, .slice A0_2 l0_2.length c0_2]) (t := 24) ?_; intro gb242 hg w4 hbox hb; have n0_ := sB HB hb; have n1_ := Aside0.mk (hbox); have n2_ := sG HB hg; have n3_ := sG HB hg; clear HB; have HB := n0_; have BK242 := n1_; have GW242 := n2_; have GE242 := n3_; clear n0_ n1_ n2_ n3_; clear hb hbox hg; obtain ⟨hcz5_0, hcz5_1, hcz5_2, hfz5_0, hfz5_1, hfz5_2⟩ := cells3 BK242.out) | ((with_reducible refine gate_callee (f := 5) rfl ?_); refine sC (some 13) Try.func5 #[.agg #[.int .i64 a0_0, .int .i64 a0_1, .slice A0_2 l0_2.length c0_2], .int .i64 1048576] (laws_szMatch.calls k a0_0 a0_1 _ _ l0_2 1048576 t243 _ ?side1 ?side2 A2.out) ?_; (case side1 => repeat (first | exact (Kd.C_below HR0_2.out HB.out) | (with_reducible refine Kd.C_alloc ?_ _) | (with_reducible refine Kd.C_drewN ?_ _) | (with_reducible refine Kd.C_drew ?_))); (case side2 => exact HC0_2.out); rintro e w6 ⟨rfl, hb⟩; refine ⟨_, rfl, ?_⟩; have n0_ := sK BK242 hb; have n1_ := sB HB hb; clear BK242; clear HB; have BK242 := n0_; have HB := n1_; clear n0_ n1_; (try clear hb); (try clear hb2); (try clear hk); (try clear hi)))
    go_ret
    exact ⟨by first | rfl | (simp [errW_none, errW_some] <;> rfl) | (simp [*, errW_none, errW_some] <;> rfl), by repeat (first | (with_reducible first | exact HB.out | apply below_alloc | apply pw_below_drewN | apply below_drew1 | refine below_set ?_ GE242.out) | exact HB.out)⟩
  · rw [if_neg c3] at H
    have c3b0 : decide (t243 < 0) = false := decide_eq_false c3
    clear c3
    replace H := Option.bind_eq_some_iff.mp H
    obtain ⟨⟨t244, t245, t246⟩, A70, H⟩ := H
    replace H : ((spec_AssignmentsOf.f k t244 t245 t246).bind fun t249 => ((laws_toMatch.f k a0_0 a0_1 l0_2).bind fun bt252 => ((impl_AssignmentsOf.f k bt252.1 bt252.2.1 bt252.2.2).bind fun t258 => ((laws_eqAssignmentS.f k t258 t249).bind fun t261 => (if t261 = true then ((laws_toMatch.f k a0_0 a0_1 l0_2).bind fun bt262 => ((laws_eqMatch.f k bt252.1 bt252.2.1 bt252.2.2 bt262.1 bt262.2.1 bt262.2.2).bind fun t267 => (if t267 = true then ((laws_markMatch.f k bt252.1 bt252.2.1 bt252.2.2 1).bind fun bt268 => (if bt268.1 < 0 then (laws_FnExactAssignmentsOf.j0 k t249 t258 true a0_0 a0_1 l0_2) else ((laws_eqAssignmentS.f k t258 t249).bind fun t270 => (laws_FnExactAssignmentsOf.j0 k t249 t258 (!t270) a0_0 a0_1 l0_2)))) else (some false)))) else (some false)))))) = some true := H
    have A7 := Aside0.mk A70
    clear A70
    replace H := Option.bind_eq_some_iff.mp H
    obtain ⟨t249, A80, H⟩ := H
    replace H : ((laws_toMatch.f k a0_0 a0_1 l0_2).bind fun bt252 => ((impl_AssignmentsOf.f k bt252.1 bt252.2.1 bt252.2.2).bind fun t258 => ((laws_eqAssignmentS.f k t258 t249).bind fun t261 => (if t261 = true then ((laws_toMatch.f k a0_0 a0_1 l0_2).bind fun bt262 => ((laws_eqMatch.f k bt252.1 bt252.2.1 bt252.2.2 bt262.1 bt262.2.1 bt262.2.2).bind fun t267 => (if t267 = true then ((laws_markMatch.f k bt252.1 bt252.2.1 bt252.2.2 1).bind fun bt268 => (if bt268.1 < 0 then (laws_FnExactAssignmentsOf.j0 k t249 t258 true a0_0 a0_1 l0_2) else ((laws_eqAssignmentS.f k t258 t249).bind fun t270 => (laws_FnExactAssignmentsOf.j0 k t249 t258 (!t270) a0_0 a0_1 l0_2)))) else (some false)))) else (some false))))) = some true := H
    have A8 := Aside0.mk A80
    clear A80
    replace H := Option.bind_eq_some_iff.mp H
    obtain ⟨⟨t252, t253, t254⟩, A90, H⟩ := H
    replace H : ((impl_AssignmentsOf.f k t252 t253 t254).bind fun t258 => ((laws_eqAssignmentS.f k t258 t249).bind fun t261 => (if t261 = true then ((laws_toMatch.f k a0_0 a0_1 l0_2).bind fun bt262 => ((laws_eqMatch.f k t252 t253 t254 bt262.1 bt262.2.1 bt262.2.2).bind fun t267 => (if t267 = true then ((laws_markMatch.f k t252 t253 t254 1).bind fun bt268 => (if bt268.1 < 0 then (laws_FnExactAssignmentsOf.j0 k t249 t258 true a0_0 a0_1 l0_2) else ((laws_eqAssignmentS.f k t258 t249).bind fun t270 => (laws_FnExactAssignmentsOf.j0 k t249 t258 (!t270) a0_0 a0_1 l0_2)))) else (some false)))) else (some false)))) = some true := H
    have A9 := Aside0.mk A90
    clear A90
    replace H := Option.bind_eq_some_iff.mp H
    obtain ⟨t258, A100, H⟩ := H
    replace H : ((laws_eqAssignmentS.f k t258 t249).bind fun t261 => (if t261 = true then ((laws_toMatch.f k a0_0 a0_1 l0_2).bind fun bt262 => ((laws_eqMatch.f k t252 t253 t254 bt262.1 bt262.2.1 bt262.2.2).bind fun t267 => (if t267 = true then ((laws_markMatch.f k t252 t253 t254 1).bind fun bt268 => (if bt268.1 < 0 then (laws_FnExactAssignmentsOf.j0 k t249 t258 true a0_0 a0_1 l0_2) else ((laws_eqAssignmentS.f k t258 t249).bind fun t270 => (laws_FnExactAssignmentsOf.j0 k t249 t258 (!t270) a0_0 a0_1 l0_2)))) else (some false)))) else (some false))) = some true := H
    have A10 := Aside0.mk A100
    clear A100
    replace H := Option.bind_eq_some_iff.mp H
    obtain ⟨t261, A110, H⟩ := H
    replace H : (if t261 = true then ((laws_toMatch.f k a0_0 a0_1 l0_2).bind fun bt262 => ((laws_eqMatch.f k t252 t253 t254 bt262.1 bt262.2.1 bt262.2.2).bind fun t267 => (if t267 = true then ((laws_markMatch.f k t252 t253 t254 1).bind fun bt268 => (if bt268.1 < 0 then (laws_FnExactAssignmentsOf.j0 k t249 t258 true a0_0 a0_1 l0_2) else ((laws_eqAssignmentS.f k t258 t249).bind fun t270 => (laws_FnExactAssignmentsOf.j0 k t249 t258 (!t270) a0_0 a0_1 l0_2)))) else (some false)))) else (some false)) = some true := H
    have A11 := Aside0.mk A110
    clear A110
    by_cases c12 : t261 = true
    · subst c12
      have H1 : ((laws_toMatch.f k a0_0 a0_1 l0_2).bind fun bt262 => ((laws_eqMatch.f k t252 t253 t254 bt262.1 bt262.2.1 bt262.2.2).bind fun t267 => (if t267 = true then ((laws_markMatch.f k t252 t253 t254 1).bind fun bt268 => (if bt268.1 < 0 then (laws_FnExactAssignmentsOf.j0 k t249 t258 true a0_0 a0_1 l0_2) else ((laws_eqAssignmentS.f k t258 t249).bind fun t270 => (laws_FnExactAssignmentsOf.j0 k t249 t258 (!t270) a0_0 a0_1 l0_2)))) else (some false)))) = some true := by rw [if_pos rfl] at H; exact H
      clear H
      have H := H1
      clear H1
      replace H := Option.bind_eq_some_iff.mp H
      obtain ⟨⟨t262, t263, t264⟩, A130, H⟩ := H
      replace H : ((laws_eqMatch.f k t252 t253 t254 t262 t263 t264).bind fun t267 => (if t267 = true then ((laws_markMatch.f k t252 t253 t254 1).bind fun bt268 => (if bt268.1 < 0 then (laws_FnExactAssignmentsOf.j0 k t249 t258 true a0_0 a0_1 l0_2) else ((laws_eqAssignmentS.f k t258 t249).bind fun t270 => (laws_FnExactAssignmentsOf.j0 k t249 t258 (!t270) a0_0 a0_1 l0_2)))) else (some false))) = some true := H
      have A13 := Aside0.mk A130
      clear A130
      replace H := Option.bind_eq_some_iff.mp H
      obtain ⟨t267, A140, H⟩ := H
      replace H : (if t267 = true then ((laws_markMatch.f k t252 t253 t254 1).bind fun bt268 => (if bt268.1 < 0 then (laws_FnExactAssignmentsOf.j0 k t249 t258 true a0_0 a0_1 l0_2) else ((laws_eqAssignmentS.f k t258 t249).bind fun t270 => (laws_FnExactAssignmentsOf.j0 k t249 t258 (!t270) a0_0 a0_1 l0_2)))) else (some false)) = some true := H
      have A14 := Aside0.mk A140
      clear A140
      by_cases c15 : t267 = true
      · subst c15
        have H1 : ((laws_markMatch.f k t252 t253 t254 1).bind fun bt268 => (if bt268.1 < 0 then (laws_FnExactAssignmentsOf.j0 k t249 t258 true a0_0 a0_1 l0_2) else ((laws_eqAssignmentS.f k t258 t249).bind fun t270 => (laws_FnExactAssignmentsOf.j0 k t249 t258 (!t270) a0_0 a0_1 l0_2)))) = some true := by rw [if_pos rfl] at H; exact H
        clear H
        have H := H1
        clear H1
        replace H := Option.bind_eq_some_iff.mp H
        obtain ⟨⟨t268, t269⟩, A160, H⟩ := H
        replace H : (if t268 < 0 then (laws_FnExactAssignmentsOf.j0 k t249 t258 true a0_0 a0_1 l0_2) else ((laws_eqAssignmentS.f k t258 t249).bind fun t270 => (laws_FnExactAssignmentsOf.j0 k t249 t258 (!t270) a0_0 a0_1 l0_2))) = some true := H
        have A16 := Aside0.mk A160
        clear A160
        have HC17 := Aside0.mk H
        clear H
        go_enter Try.func4, Try.ntmps4
        try go_wp2_with (first | ((with_reducible refine gate_dst (N := 1) rfl ?_); refine sV (N := 1) (cs := #[.int .i64 a0_0, .int .i64 a0_1, .slice A0_2 l0_2.length c0_2]) (t := 24) ?_; intro gb242 hg w18 hbox hb; have n0_ := sB HB hb; have n1_ := Aside0.mk (hbox); have n2_ := sG HB hg; have n3_ := sG HB hg; clear HB; have HB := n0_; have BK242 := n1_; have GW242 := n2_; have GE242 := n3_; clear n0_ n1_ n2_ n3_; clear hb hbox hg; obtain ⟨hcz19_0, hcz19_1, hcz19_2, hfz19_0, hfz19_1, hfz19_2⟩ := cells3 BK242.out) | ((with_reducible refine gate_callee (f := 5) rfl ?_); refine sC (some 13) Try.func5 #[.agg #[.int .i64 a0_0, .int .i64 a0_1, .slice A0_2 l0_2.length c0_2], .int .i64 1048576] (laws_szMatch.calls k a0_0 a0_1 _ _ l0_2 1048576 t243 _ ?side1 ?side2 A2.out) ?_; (case side1 => repeat (first | exact (Kd.C_below HR0_2.out HB.out) | (with_reducible refine Kd.C_alloc ?_ _) | (with_reducible refine Kd.C_drewN ?_ _) | (with_reducible refine Kd.C_drew ?_))); (case side2 => exact HC0_2.out); rintro e w20 ⟨rfl, hb⟩; refine ⟨_, rfl, ?_⟩; have n0_ := sK BK242 hb; have n1_ := sB HB hb; clear BK242; clear HB; have BK242 := n0_; have HB := n1_; clear n0_ n1_; (try clear hb); (try clear hb2); (try clear hk); (try clear hi); obtain ⟨hcz21_0, hcz21_1, hcz21_2, hfz21_0, hfz21_1, hfz21_2⟩ := cells3 BK242.out) | ((with_reducible refine gate_callee (f := 7) rfl ?_); refine sC (some 17) Try.func7 #[.agg #[.int .i64 a0_0, .int .i64 a0_1, .slice A0_2 l0_2.length c0_2]] (laws_toMatch.calls k a0_0 a0_1 _ _ l0_2 t244 t245 t246 _ ?side1 ?side2 A7.out) ?_; (case side1 => repeat (first | exact (Kd.C_below HR0_2.out HB.out) | (with_reducible refine Kd.C_alloc ?_ _) | (with_reducible refine Kd.C_drewN ?_ _) | (with_reducible refine Kd.C_drew ?_))); (case side2 => exact HC0_2.out); rintro e w22 ⟨v247, rfl, ho0, hb⟩; refine ⟨_, rfl, ?_⟩; have n0_ := Aside0.mk (Kd.R_lower ho0 (below_size (by repeat (first | (with_reducible first | exact HB.out | apply below_alloc | apply pw_below_drewN | apply below_drew1 | refine below_set ?_ GE242.out) | exact HB.out)))); have n1_ := sK BK242 hb; have n2_ := sB HB hb; clear BK242; clear HB; have HO248 := n0_; have BK242 := n1_; have HB := n2_; clear n0_ n1_ n2_; (try clear hb); (try clear hb2); (try clear hk); (try clear hi); (try clear ho0); obtain ⟨Ao23, co23, eo23⟩ := Kd.R_slice HO248.out; subst eo23) | ((with_reducible refine gate_callee (f := 14) rfl ?_); refine sC (some 18) Try.func14 #[.agg #[.int .i64 t244, .int .i64 t245, .slice Ao23 t246.length co23]] (spec_AssignmentsOf.calls k t244 t245 _ _ t246 t249 _ ?side1 ?side2 A8.out) ?_; (case side1 => repeat (first | exact (Kd.R_reads' HO248.out).2.2 | (with_reducible refine Kd.C_alloc ?_ _) | (with_reducible refine Kd.C_drewN ?_ _) | (with_reducible refine Kd.C_drew ?_))); (case side2 => exact (Kd.R_reads' HO248.out).2.1); rintro e w24 ⟨v250, rfl, ho0, hb⟩; refine ⟨_, rfl, ?_⟩; have n0_ := Aside0.mk (Kd.R_below (by (with_reducible repeat (first | apply Kd.R_alloc | apply Kd.R_drewN | apply Kd.R_drew)); exact HO248.out) hb); have n1_ := Aside0.mk (Kd.R_lower ho0 (below_size (by repeat (first | (with_reducible first | exact HB.out | apply below_alloc | apply pw_below_drewN | apply below_drew1 | refine below_set ?_ GE242.out) | exact HB.out)))); have n2_ := sK BK242 hb; have n3_ := sB HB hb; clear HO248; clear BK242; clear HB; have HO248 := n0_; have HO251 := n1_; have BK242 := n2_; have HB := n3_; clear n0_ n1_ n2_ n3_; (try clear hb); (try clear hb2); (try clear hk); (try clear hi); (try clear ho0); obtain ⟨hcz25_0, hcz25_1, hcz25_2, hfz25_0, hfz25_1, hfz25_2⟩ := cells3 BK242.out) | ((with_reducible refine gate_callee (f := 7) rfl ?_); refine sC (some 20) Try.func7 #[.agg #[.int .i64 a0_0, .int .i64 a0_1, .slice A0_2 l0_2.length c0_2]] (laws_toMatch.calls k a0_0 a0_1 _ _ l0_2 t252 t253 t254 _ ?side1 ?side2 A9.out) ?_; (case side1 => repeat (first | exact (Kd.C_below HR0_2.out HB.out) | (with_reducible refine Kd.C_alloc ?_ _) | (with_reducible refine Kd.C_drewN ?_ _) | (with_reducible refine Kd.C_drew ?_))); (case side2 => exact HC0_2.out); rintro e w26 ⟨v255, rfl, ho0, hb⟩; refine ⟨_, rfl, ?_⟩; have n0_ := Aside0.mk (Kd.R_elder' (by (with_reducible repeat (first | apply Kd.R_alloc | apply Kd.R_drewN | apply Kd.R_drew)); exact HO248.out) (Kd.R_base ho0) hb); have n1_ := Aside0.mk (Kd.R_below (by (with_reducible repeat (first | apply Kd.R_alloc | apply Kd.R_drewN | apply Kd.R_drew)); exact HO251.out) hb); have n2_ := Aside0.mk (Kd.R_lower (Kd.R_new' ho0 (Kd.R_lt (by (with_reducible repeat (first | apply Kd.R_alloc | apply Kd.R_drewN | apply Kd.R_drew)); exact HO248.out))) (below_size (by repeat (first | (with_reducible first | exact HB.out | apply below_alloc | apply pw_below_drewN | apply below_drew1 | refine below_set ?_ GE242.out) | exact HB.out)))); have n3_ := sK BK242 hb; have n4_ := sB HB hb; clear HO248; clear HO251; clear BK242; clear HB; have HO248 := n0_; have HO251 := n1_; have HO256 := n2_; have BK242 := n3_; have HB := n4_; clear n0_ n1_ n2_ n3_ n4_; (try clear hb); (try clear hb2); (try clear hk); (try clear hi); (try clear ho0)) | ((with_reducible refine gate_dst (N := 5) rfl ?_); refine sV (N := 5) (cs := #[.int .i64 0, .int .i64 0, .slice none 0 0]) (t := 30) ?_; intro gb257 hg w27 hbox hb; have n0_ := Aside0.mk (Kd.R_below (by (with_reducible repeat (first | apply Kd.R_alloc | apply Kd.R_drewN | apply Kd.R_drew)); exact HO248.out) hb); have n1_ := Aside0.mk (Kd.R_below (by (with_reducible repeat (first | apply Kd.R_alloc | apply Kd.R_drewN | apply Kd.R_drew)); exact HO251.out) hb); have n2_ := Aside0.mk (Kd.R_below (by (with_reducible repeat (first | apply Kd.R_alloc | apply Kd.R_drewN | apply Kd.R_drew)); exact HO256.out) hb); have n3_ := sK BK242 hb; have n4_ := sB HB hb; have n5_ := Aside0.mk (hbox); have n6_ := sG HB hg; have n7_ := sG HB hg; have n8_ := sN BK242 hg; have n9_ := sM BK242 hg; clear HO248; clear HO251; clear HO256; clear BK242; clear HB; have HO248 := n0_; have HO251 := n1_; have HO256 := n2_; have BK242 := n3_; have HB := n4_; have BK257 := n5_; have GW257 := n6_; have GE257 := n7_; have NB242_257 := n8_; have NB257_242 := n9_; clear n0_ n1_ n2_ n3_ n4_ n5_ n6_ n7_ n8_ n9_; clear hb hbox hg; have hnb28 := NB257_242.out; have hnc28 := NB242_257.out; obtain ⟨hcz29_0, hcz29_1, hcz29_2, hfz29_0, hfz29_1, hfz29_2⟩ := cells3 BK257.out; obtain ⟨Ao30, co30, eo30⟩ := Kd.R_slice HO256.out; subst eo30) | ((with_reducible refine gate_callee (f := 15) rfl ?_); refine sC (some 22) Try.func15 #[.agg #[.int .i64 t252, .int .i64 t253, .slice Ao30 t254.length co30]] (impl_AssignmentsOf.calls k t252 t253 _ _ t254 t258 _ ?side1 ?side2 A10.out) ?_; (case side1 => refine (Kd.R_reads' (e := 39) (base := w.heap.size) (ok := fun k_ => (True ∧ some k_ ≠ (.slice Ao23 t246.length co23 : Value).ownBlock)) (n := t254.length) (c := co30) ?_).2.2; exact (by (with_reducible repeat (first | apply Kd.R_alloc | apply Kd.R_drewN | apply Kd.R_drew)); exact (Kd.R_mono (Kd.R_far (p := ⟨gb257, 2, none⟩) (Kd.R_far (p := ⟨gb257, 1, none⟩) (Kd.R_far (p := ⟨gb257, 0, none⟩) (Kd.R_types HO256.out BK257.out (by decide)) (fun _ hk => hk.2) (.int .i64 t252)) (fun _ hk => hk.2) (.int .i64 t253)) (fun _ hk => hk.2) (.slice Ao30 t254.length co30)) (fun _ h_ => h_.1)))); (case side2 => exact (Kd.R_reads' HO256.out).2.1); rintro e w31 ⟨v259, rfl, ho0, hb⟩; refine ⟨_, rfl, ?_⟩; have n0_ := Aside0.mk (Kd.R_below (by (with_reducible repeat (first | apply Kd.R_alloc | apply Kd.R_drewN | apply Kd.R_drew)); exact (Kd.R_mono (Kd.R_far (p := ⟨gb257, 2, none⟩) (Kd.R_far (p := ⟨gb257, 1, none⟩) (Kd.R_far (p := ⟨gb257, 0, none⟩) (Kd.R_types HO248.out BK257.out (by decide)) (fun _ hk => hk.2) (.int .i64 t252)) (fun _ hk => hk.2) (.int .i64 t253)) (fun _ hk => hk.2) (.slice Ao30 t254.length co30)) (fun _ h_ => h_.1))) hb); have n1_ := Aside0.mk (Kd.R_elder' (by (with_reducible repeat (first | apply Kd.R_alloc | apply Kd.R_drewN | apply Kd.R_drew)); exact (Kd.R_mono (Kd.R_far (p := ⟨gb257, 2, none⟩) (Kd.R_far (p := ⟨gb257, 1, none⟩) (Kd.R_far (p := ⟨gb257, 0, none⟩) (Kd.R_types HO251.out BK257.out (by decide)) (fun _ hk => hk.2) (.int .i64 t252)) (fun _ hk => hk.2) (.int .i64 t253)) (fun _ hk => hk.2) (.slice Ao30 t254.length co30)) (fun _ h_ => h_.1))) (Kd.R_base ho0) hb); have n2_ := Aside0.mk (Kd.R_below (by (with_reducible repeat (first | apply Kd.R_alloc | apply Kd.R_drewN | apply Kd.R_drew)); exact (Kd.R_mono (Kd.R_far (p := ⟨gb257, 2, none⟩) (Kd.R_far (p := ⟨gb257, 1, none⟩) (Kd.R_far (p := ⟨gb257, 0, none⟩) (Kd.R_types HO256.out BK257.out (by decide)) (fun _ hk => hk.2) (.int .i64 t252)) (fun _ hk => hk.2) (.int .i64 t253)) (fun _ hk => hk.2) (.slice Ao30 t254.length co30)) (fun _ h_ => h_.1))) hb); have n3_ := Aside0.mk (Kd.R_lower (Kd.R_new' ho0 (Kd.R_lt (by (with_reducible repeat (first | apply Kd.R_alloc | apply Kd.R_drewN | apply Kd.R_drew)); exact (Kd.R_mono (Kd.R_far (p := ⟨gb257, 2, none⟩) (Kd.R_far (p := ⟨gb257, 1, none⟩) (Kd.R_far (p := ⟨gb257, 0, none⟩) (Kd.R_types HO251.out BK257.out (by decide)) (fun _ hk => hk.2) (.int .i64 t252)) (fun _ hk => hk.2) (.int .i64 t253)) (fun _ hk => hk.2) (.slice Ao30 t254.length co30)) (fun _ h_ => h_.1))))) (below_size (by repeat (first | (with_reducible first | exact HB.out | apply below_alloc | apply pw_below_drewN | apply below_drew1 | refine below_set ?_ GE242.out | refine below_set ?_ GE257.out) | exact HB.out)))); have n4_ := Aside0.mk (blk_below (g := gb242) (o := .cells #[.int .i64 a0_0, .int .i64 a0_1, .slice A0_2 l0_2.length c0_2] 24 (0, 0)) (by (with_reducible repeat (first | refine blk_drewN ?_ _ | refine blk_drew ?_ | refine blk_alloc ?_ _)); refine blk_far ?_ NB242_257.out _; (with_reducible repeat (first | refine blk_drewN ?_ _ | refine blk_drew ?_ | refine blk_alloc ?_ _)); refine blk_far ?_ NB242_257.out _; (with_reducible repeat (first | refine blk_drewN ?_ _ | refine blk_drew ?_ | refine blk_alloc ?_ _)); refine blk_far ?_ NB242_257.out _; (with_reducible repeat (first | refine blk_drewN ?_ _ | refine blk_drew ?_ | refine blk_alloc ?_ _)); exact BK242.out) hb); have n5_ := Aside0.mk (blk_below (g := gb257) (o := .cells #[.int .i64 t252, .int .i64 t253, .slice Ao30 t254.length co30] 30 (0, 0)) (by (with_reducible repeat (first | refine blk_drewN ?_ _ | refine blk_drew ?_ | refine blk_alloc ?_ _)); refine blk_put (cs := #[.int .i64 t252, .int .i64 t253, .slice none 0 0]) ?_ 2 _ rfl; (with_reducible repeat (first | refine blk_drewN ?_ _ | refine blk_drew ?_ | refine blk_alloc ?_ _)); refine blk_put (cs := #[.int .i64 t252, .int .i64 0, .slice none 0 0]) ?_ 1 _ rfl; (with_reducible repeat (first | refine blk_drewN ?_ _ | refine blk_drew ?_ | refine blk_alloc ?_ _)); refine blk_put (cs := #[.int .i64 0, .int .i64 0, .slice none 0 0]) ?_ 0 _ rfl; (with_reducible repeat (first | refine blk_drewN ?_ _ | refine blk_drew ?_ | refine blk_alloc ?_ _)); exact BK257.out) hb); have n6_ := sB HB hb; clear HO248; clear HO251; clear HO256; clear BK242; clear BK257; clear HB; have HO248 := n0_; have HO251 := n1_; have HO256 := n2_; have HO260 := n3_; have BK242 := n4_; have BK257 := n5_; have HB := n6_; clear n0_ n1_ n2_ n3_ n4_ n5_ n6_; (try clear hb); (try clear hb2); (try clear hk); (try clear hi); (try clear ho0); obtain ⟨Ao32, co32, eo32⟩ := Kd.R_slice HO260.out; subst eo32; obtain ⟨Ao33, co33, eo33⟩ := Kd.R_slice HO251.out; subst eo33) | ((with_reducible refine gate_callee (f := 9) rfl ?_); refine sC (some 25) Try.func9 #[.slice Ao32 t258.length co32, .slice Ao33 t249.length co33] (laws_eqAssignmentS.calls k _ _ t258 _ _ t249 true _ ?side1 ?side2 ?side3 ?side4 A11.out) ?_; (case side1 => repeat (first | exact (Kd.R_reads' HO260.out).2.2 | (with_reducible refine Kd.C_alloc ?_ _) | (with_reducible refine Kd.C_drewN ?_ _) | (with_reducible refine Kd.C_drew ?_))); (case side2 => exact (Kd.R_reads' HO260.out).2.1); (case side3 => repeat (first | exact (Kd.R_reads' HO251.out).2.2 | (with_reducible refine Kd.C_alloc ?_ _) | (with_reducible refine Kd.C_drewN ?_ _) | (with_reducible refine Kd.C_drew ?_))); (case side4 => exact (Kd.R_reads' HO251.out).2.1); rintro e w34 ⟨rfl, hb⟩; refine ⟨_, rfl, ?_⟩; have n0_ := Aside0.mk (Kd.R_below (by (with_reducible repeat (first | apply Kd.R_alloc | apply Kd.R_drewN | apply Kd.R_drew)); exact HO248.out) hb); have n1_ := Aside0.mk (Kd.R_below (by (with_reducible repeat (first | apply Kd.R_alloc | apply Kd.R_drewN | apply Kd.R_drew)); exact HO251.out) hb); have n2_ := Aside0.mk (Kd.R_below (by (with_reducible repeat (first | apply Kd.R_alloc | apply Kd.R_drewN | apply Kd.R_drew)); exact HO256.out) hb); have n3_ := Aside0.mk (Kd.R_below (by (with_reducible repeat (first | apply Kd.R_alloc | apply Kd.R_drewN | apply Kd.R_drew)); exact HO260.out) hb); have n4_ := sK BK242 hb; have n5_ := sK BK257 hb; have n6_ := sB HB hb; clear HO248; clear HO251; clear HO256; clear HO260; clear BK242; clear BK257; clear HB; have HO248 := n0_; have HO251 := n1_; have HO256 := n2_; have HO260 := n3_; have BK242 := n4_; have BK257 := n5_; have HB := n6_; clear n0_ n1_ n2_ n3_ n4_ n5_ n6_; (try clear hb); (try clear hb2); (try clear hk); (try clear hi)))
        have n0_ := Aside0.mk (Kd.R_drew HO248.out)
        have n1_ := Aside0.mk (Kd.R_drew HO251.out)
        have n2_ := Aside0.mk (Kd.R_drew HO256.out)
        have n3_ := Aside0.mk (Kd.R_drew HO260.out)
        have n4_ := Aside0.mk (blk_drew BK242.out)
        have n5_ := Aside0.mk (blk_drew BK257.out)
        have n6_ := Aside0.mk (below_drew1 HB.out)
        clear HO248
        clear HO251
        clear HO256
        clear HO260
        clear BK242
        clear BK257
        clear HB
        have HO248 := n0_
        have HO251 := n1_
        have HO256 := n2_
        have HO260 := n3_
        have BK242 := n4_
        have BK257 := n5_
        have HB := n6_
        clear n0_ n1_ n2_ n3_ n4_ n5_ n6_
        refine start_ (n := 5) (S := fun w' => w'.cell? ⟨gb257, 0, none⟩ = some (.int .i64 t252) ∧ w'.cell? ⟨gb257, 1, none⟩ = some (.int .i64 t253) ∧ w'.cell? ⟨gb257, 2, none⟩ = some (.slice Ao30 t254.length co30) ∧ w'.cell? ⟨gb242, 0, none⟩ = some (.int .i64 a0_0) ∧ w'.cell? ⟨gb242, 1, none⟩ = some (.int .i64 a0_1) ∧ w'.cell? ⟨gb242, 2, none⟩ = some (.slice A0_2 l0_2.length c0_2)) (ds := []) #[false, false, false, false, false] (by kernel_rfl) rfl rfl ⟨(blk_cell BK257.out 0).trans rfl, (blk_cell BK257.out 1).trans rfl, (blk_cell BK257.out 2).trans rfl, (blk_cell BK242.out 0).trans rfl, (blk_cell BK242.out 1).trans rfl, (blk_cell BK242.out 2).trans rfl⟩ (fun hHeld => ?_)
        generalize w34.drew = w35 at HO248 HO251 HO256 HO260 BK242 BK257 HB hHeld ⊢
        refine take_ (i := 0) (N := some 27) (v := ?_) (a' := ?_) #[true, false, false, false, false] rfl rfl (by kernel_rfl) (fun _ _ _ h => h) (Or.inl ⟨by rfl, ?_⟩) hHeld ?_ ?_
        rotate_left
        · rintro w' ⟨s0, s1, s2, s3, s4, s5⟩
          go_simp
          with_reducible rfl
        rotate_left
        · simp only [Act.put, List.setIfInBounds_toArray, List.set_cons_zero, List.set_cons_succ, i64_w, i32_w]
          rfl
        refine take_ (i := 1) (N := some 28) (v := ?_) (a' := ?_) #[true, true, false, false, false] rfl rfl (by kernel_rfl) (fun _ _ _ h => h) (Or.inl ⟨by rfl, ?_⟩) hHeld ?_ ?_
        rotate_left
        · rintro w' ⟨s0, s1, s2, s3, s4, s5⟩
          go_simp
          with_reducible rfl
        rotate_left
        · simp only [Act.put, List.setIfInBounds_toArray, List.set_cons_zero, List.set_cons_succ, i64_w, i32_w]
          rfl
        refine one_ (i := 2) (N := some 29) #[true, true, true, false, false] rfl rfl (by kernel_rfl) (by decide) (fun K hK => ?_)
        refine goes_ Try.func7 (by kernel_rfl) rfl #[.agg #[.int .i64 a0_0, .int .i64 a0_1, .slice A0_2 l0_2.length c0_2]] (by rfl) rfl rfl (by (try simp only [List.map_toArray, List.map_cons, List.map_nil]); first | done | rfl | (simp only [List.length_drop, List.length_take]; rfl)) ?_
        with_reducible refine (laws_toMatch.calls k a0_0 a0_1 _ _ l0_2 t262 t263 t264 _ ?side1 ?side2 A13.out).mono ?_
        (case side1 => repeat (first | exact (Kd.C_below HR0_2.out HB.out) | (with_reducible refine Kd.C_alloc ?_ _) | (with_reducible refine Kd.C_drewN ?_ _) | (with_reducible refine Kd.C_drew ?_)))
        (case side2 => exact HC0_2.out)
        rintro e w36 ⟨v265, rfl, ho0, hb⟩
        refine ⟨_, rfl, ?_⟩
        have n0_ := Aside0.mk (Kd.R_elder' (by (with_reducible repeat (first | apply Kd.R_alloc | apply Kd.R_drewN | apply Kd.R_drew)); exact HO248.out) (Kd.R_base ho0) hb)
        have n1_ := Aside0.mk (Kd.R_below (by (with_reducible repeat (first | apply Kd.R_alloc | apply Kd.R_drewN | apply Kd.R_drew)); exact HO251.out) hb)
        have n2_ := Aside0.mk (Kd.R_elder' (by (with_reducible repeat (first | apply Kd.R_alloc | apply Kd.R_drewN | apply Kd.R_drew)); exact HO256.out) (Kd.R_base ho0) hb)
        have n3_ := Aside0.mk (Kd.R_below (by (with_reducible repeat (first | apply Kd.R_alloc | apply Kd.R_drewN | apply Kd.R_drew)); exact HO260.out) hb)
        have n4_ := Aside0.mk (Kd.R_lower (Kd.R_new' (Kd.R_new' ho0 (Kd.R_lt (by (with_reducible repeat (first | apply Kd.R_alloc | apply Kd.R_drewN | apply Kd.R_drew)); exact HO248.out))) (Kd.R_lt (by (with_reducible repeat (first | apply Kd.R_alloc | apply Kd.R_drewN | apply Kd.R_drew)); exact HO256.out))) (below_size (by repeat (first | (with_reducible first | exact HB.out | apply below_alloc | apply pw_below_drewN | apply below_drew1 | refine below_set ?_ GE242.out | refine below_set ?_ GE257.out) | exact HB.out))))
        have n5_ := sK BK242 hb
        have n6_ := sK BK257 hb
        have n7_ := sB HB hb
        clear HO248
        clear HO251
        clear HO256
        clear HO260
        clear BK242
        clear BK257
        clear HB
        have HO248 := n0_
        have HO251 := n1_
        have HO256 := n2_
        have HO260 := n3_
        have HO266 := n4_
        have BK242 := n5_
        have BK257 := n6_
        have HB := n7_
        clear n0_ n1_ n2_ n3_ n4_ n5_ n6_ n7_
        (try clear hb)
        (try clear hb2)
        (try clear hk)
        (try clear hi)
        (try clear ho0)
        obtain ⟨Ao37, co37, eo37⟩ := Kd.R_slice HO266.out
        (first | subst eo37 | (injection eo37 with f1_ f2_ f3_; have f4_ := f1_.symm; have f5_ := f3_.symm; clear f1_ f2_ f3_; subst f4_; subst f5_))
        refine hK.out _ _ ⟨(blk_cell BK257.out 0).trans rfl, (blk_cell BK257.out 1).trans rfl, (blk_cell BK257.out 2).trans rfl, (blk_cell BK242.out 0).trans rfl, (blk_cell BK242.out 1).trans rfl, (blk_cell BK242.out 2).trans rfl⟩ (fun hHeld => ?_)
        clear hK K
        refine norm_ (a' := ?_) ?_ ?_
        rotate_left
        · show Act.put _ (some 29) _ = _
          simp only [Act.put, List.setIfInBounds_toArray, List.set_cons_zero, List.set_cons_succ, i64_w, i32_w]
          rfl
        refine one_ (i := 3) (N := some 30) #[true, true, true, true, false] rfl rfl (by kernel_rfl) (by decide) (fun K hK => ?_)
        refine goes_ Try.func10 (by kernel_rfl) rfl #[.agg #[.int .i64 t252, .int .i64 t253, .slice Ao30 t254.length co30], .agg #[.int .i64 t262, .int .i64 t263, .slice Ao37 t264.length co37]] (by rfl) rfl rfl (by (try simp only [List.map_toArray, List.map_cons, List.map_nil]); first | done | rfl | (simp only [List.length_drop, List.length_take]; rfl)) ?_
        with_reducible refine (laws_eqMatch.calls k t252 t253 _ _ t254 t262 t263 _ _ t264 true _ ?side1 ?side2 ?side3 ?side4 A14.out).mono ?_
        (case side1 => repeat (first | exact (Kd.R_reads' HO256.out).2.2 | (with_reducible refine Kd.C_alloc ?_ _) | (with_reducible refine Kd.C_drewN ?_ _) | (with_reducible refine Kd.C_drew ?_)))
        (case side2 => exact (Kd.R_reads' HO256.out).2.1)
        (case side3 => repeat (first | exact (Kd.R_reads' HO266.out).2.2 | (with_reducible refine Kd.C_alloc ?_ _) | (with_reducible refine Kd.C_drewN ?_ _) | (with_reducible refine Kd.C_drew ?_)))
        (case side4 => exact (Kd.R_reads' HO266.out).2.1)
        rintro e w38 ⟨rfl, hb⟩
        refine ⟨_, rfl, ?_⟩
        have n0_ := Aside0.mk (Kd.R_below (by (with_reducible repeat (first | apply Kd.R_alloc | apply Kd.R_drewN | apply Kd.R_drew)); exact HO248.out) hb)
        have n1_ := Aside0.mk (Kd.R_below (by (with_reducible repeat (first | apply Kd.R_alloc | apply Kd.R_drewN | apply Kd.R_drew)); exact HO251.out) hb)
        have n2_ := Aside0.mk (Kd.R_below (by (with_reducible repeat (first | apply Kd.R_alloc | apply Kd.R_drewN | apply Kd.R_drew)); exact HO256.out) hb)
        have n3_ := Aside0.mk (Kd.R_below (by (with_reducible repeat (first | apply Kd.R_alloc | apply Kd.R_drewN | apply Kd.R_drew)); exact HO260.out) hb)
        have n4_ := Aside0.mk (Kd.R_below (by (with_reducible repeat (first | apply Kd.R_alloc | apply Kd.R_drewN | apply Kd.R_drew)); exact HO266.out) hb)
        have n5_ := sK BK242 hb
        have n6_ := sK BK257 hb
        have n7_ := sB HB hb
        clear HO248
        clear HO251
        clear HO256
        clear HO260
        clear HO266
        clear BK242
        clear BK257
        clear HB
        have HO248 := n0_
        have HO251 := n1_
        have HO256 := n2_
        have HO260 := n3_
        have HO266 := n4_
        have BK242 := n5_
        have BK257 := n6_
        have HB := n7_
        clear n0_ n1_ n2_ n3_ n4_ n5_ n6_ n7_
        (try clear hb)
        (try clear hb2)
        (try clear hk)
        (try clear hi)
        refine hK.out _ _ ⟨(blk_cell BK257.out 0).trans rfl, (blk_cell BK257.out 1).trans rfl, (blk_cell BK257.out 2).trans rfl, (blk_cell BK242.out 0).trans rfl, (blk_cell BK242.out 1).trans rfl, (blk_cell BK242.out 2).trans rfl⟩ (fun hHeld => ?_)
        clear hK K
        refine norm_ (a' := ?_) ?_ ?_
        rotate_left
        · show Act.put _ (some 30) _ = _
          simp only [Act.put, List.setIfInBounds_toArray, List.set_cons_zero, List.set_cons_succ, i64_w, i32_w]
          rfl
        refine pure_ (i := 4) (N := some 31) (v := ?_) (a' := ?_) #[true, true, true, true, true] rfl rfl (by kernel_rfl) (fun _ _ _ h => h) (Or.inl ⟨by rfl, ?_⟩) ?_ ?_
        rotate_left
        · intro w'
          go_simp
          with_reducible rfl
        rotate_left
        · simp only [Act.put, List.setIfInBounds_toArray, List.set_cons_zero, List.set_cons_succ, i64_w, i32_w]
          rfl
        refine done_ (by kernel_rfl) ?_
        obtain ⟨hcz39_0, hcz39_1, hcz39_2, hfz39_0, hfz39_1, hfz39_2⟩ := cells3 BK257.out
        go_upto_region 14 with (first | ((with_reducible refine gate_callee (f := 11) rfl ?_); refine sC (some 34) Try.func11 #[.agg #[.int .i64 t252, .int .i64 t253, .slice Ao30 t254.length co30], .int .i64 1] (laws_markMatch.calls k t252 t253 (fun k_ => some k_ = (.slice Ao30 t254.length co30 : Value).ownBlock) (.slice Ao30 t254.length co30) t254 1 t268 t269 w _ ?side1 ?side2 A16.out) ?_; (case side1 => repeat (first | (with_reducible first | exact HB.out | apply below_alloc | apply pw_below_drewN | apply below_drew1 | refine below_set ?_ GE242.out | refine below_set ?_ GE257.out) | exact HB.out)); (case side2 => exact Kd.R_tight rfl HO256.out); rintro e w40 ⟨rfl, hy0, hb, hkp⟩; refine ⟨_, rfl, ?_⟩; have n0_ := Aside0.mk (blk_kept (by (with_reducible repeat (first | refine blk_drewN ?_ _ | refine blk_drew ?_ | refine blk_alloc ?_ _)); exact BK242.out) hkp (fun hs_ => (fun e_ => (Kd.R_ne HO256.out BK242.out (by decide)) e_) hs_)); have n1_ := Aside0.mk (Kd.R_mono (ok' := fun k_ => some k_ ≠ (.slice Ao30 t254.length co30 : Value).ownBlock ∧ some k_ ≠ (.slice Ao37 t264.length co37 : Value).ownBlock) (Kd.R_keptB (HO248.out) hkp (fun k_ hk_ hs_ => (hk_.1.2) hs_)) (fun k_ hk_ => ⟨hk_.1.1.2, hk_.1.2⟩)); have n2_ := Aside0.mk (Kd.R_mono (ok' := fun k_ => some k_ ≠ (.slice Ao32 t258.length co32 : Value).ownBlock) (Kd.R_keptB ((Kd.R_apart' HO251.out (Kd.R_typed HO256.out) (by decide))) hkp (fun k_ hk_ hs_ => (hk_.2) hs_)) (fun k_ hk_ => hk_.1.1.2)); have n3_ := Aside0.mk (Kd.R_reok rfl hy0 (fun k_ e_ => HO256.out.1 k_ e_)); have n4_ := Aside0.mk (blk_kept (by (with_reducible repeat (first | refine blk_drewN ?_ _ | refine blk_drew ?_ | refine blk_alloc ?_ _)); exact BK257.out) hkp (fun hs_ => (fun e_ => (Kd.R_ne HO256.out BK257.out (by decide)) e_) hs_)); have n5_ := Aside0.mk (Kd.R_mono (ok' := fun k_ => some k_ ≠ (.slice Ao33 t249.length co33 : Value).ownBlock) (Kd.R_keptB ((Kd.R_apart' HO260.out (Kd.R_typed HO256.out) (by decide))) hkp (fun k_ hk_ hs_ => (hk_.2) hs_)) (fun k_ hk_ => hk_.1.1.2)); have n6_ := Aside0.mk (Kd.R_mono (ok' := fun k_ => some k_ ≠ (.slice Ao23 t246.length co23 : Value).ownBlock ∧ some k_ ≠ (.slice Ao30 t254.length co30 : Value).ownBlock) (Kd.R_keptB (HO266.out) hkp (fun k_ hk_ hs_ => (hk_.2) hs_)) (fun k_ hk_ => ⟨hk_.1.1.2, hk_.1.2⟩)); have n7_ := Aside0.mk (hb); clear BK242; clear HO248; clear HO251; clear HO256; clear BK257; clear HO260; clear HO266; clear HB; have BK242 := n0_; have HO248 := n1_; have HO251 := n2_; have HO256 := n3_; have BK257 := n4_; have HO260 := n5_; have HO266 := n6_; have HB := n7_; clear n0_ n1_ n2_ n3_ n4_ n5_ n6_ n7_; (try clear hb); (try clear hkp); (try clear hy0)))
        (try simp only [Act.put, List.setIfInBounds_toArray, List.set_cons_zero, List.set_cons_succ])
        go_cut [42] (fun v42 wc => ∃ (kq : Nat) (x42_16 : Bool), v42 = .bool x42_16 ∧ Aside0 (laws_FnExactAssignmentsOf.j0 kq t249 t258 x42_16 a0_0 a0_1 l0_2 = some true) ∧ Aside0 (kq ≤ k) ∧ Aside0 (Kd.R k41 41 wc w.heap.size (fun k_ => some k_ ≠ ((.slice Ao32 t258.length co32) : Value).ownBlock) (.slice Ao33 t249.length co33) t249) ∧ Aside0 (Kd.R k41 41 wc w.heap.size (fun k_ => some k_ ≠ ((.slice Ao33 t249.length co33) : Value).ownBlock) (.slice Ao32 t258.length co32) t258) ∧ Aside0 (Kd.R k39 39 wc w.heap.size (fun _ => True) (.slice Ao30 t254.length co30) t269) ∧ Aside0 (wc.heap[gb242]? = some (.cells #[.int .i64 a0_0, .int .i64 a0_1, (.slice A0_2 l0_2.length c0_2)] 24 (0, 0))) ∧ Aside0 (wc.heap[gb257]? = some (.cells #[.int .i64 t252, .int .i64 t253, (.slice Ao30 t254.length co30)] 30 (0, 0))) ∧ Aside0 (Below w.heap.size w wc))
        case first =>
          have H := HC17.out
          clear HC17
          by_cases c41 : t268 < 0
          · rw [if_pos c41] at H
            have c41b0 : decide (t268 < 0) = true := decide_eq_true c41
            clear c41
            (first | rw [c41b0] | (simp only [i64_w, i32_w]; rw [c41b0]) | rw [c41b2] | skip)
            have H' := Aside0.mk H
            clear H
            go_wp2
            go_meet
            case rel => exact ⟨_, (true), (by first | rfl | (simp; done) | (simp [*]; done)), H', ⟨by first | omega | exact Nat.le_refl _⟩, ⟨by (with_reducible repeat (first | apply Kd.R_alloc | apply Kd.R_drewN | apply Kd.R_drew)); exact HO251.out⟩, ⟨by (with_reducible repeat (first | apply Kd.R_alloc | apply Kd.R_drewN | apply Kd.R_drew)); exact HO260.out⟩, ⟨by (with_reducible repeat (first | apply Kd.R_alloc | apply Kd.R_drewN | apply Kd.R_drew)); exact Kd.R_mono HO256.out (fun _ hk => trivial)⟩, ⟨by (with_reducible repeat (first | refine blk_drewN ?_ _ | refine blk_drew ?_ | refine blk_alloc ?_ _)); exact BK242.out⟩, ⟨by (with_reducible repeat (first | refine blk_drewN ?_ _ | refine blk_drew ?_ | refine blk_alloc ?_ _)); exact BK257.out⟩, ⟨by repeat (first | (with_reducible first | exact HB.out | apply below_alloc | apply pw_below_drewN | apply below_drew1 | refine below_set ?_ GE242.out | refine below_set ?_ GE257.out) | exact HB.out)⟩⟩
          · rw [if_neg c41] at H
            have c41b0 : decide (t268 < 0) = false := decide_eq_false c41
            clear c41
            (first | rw [c41b0] | (simp only [i64_w, i32_w]; rw [c41b0]) | rw [c41b2] | skip)
            replace H := Option.bind_eq_some_iff.mp H
            obtain ⟨t270, A420, H⟩ := H
            replace H : (laws_FnExactAssignmentsOf.j0 k t249 t258 (!t270) a0_0 a0_1 l0_2) = some true := H
            have A42 := Aside0.mk A420
            clear A420
            have H' := Aside0.mk H
            clear H
            go_wp2_with (first | (go_at_call 9; (with_reducible refine (laws_eqAssignmentS.calls k _ _ t258 _ _ t249 t270 _ ?side1 ?side2 ?side3 ?side4 A42.out).mono ?_); (case side1 => repeat (first | exact (Kd.R_reads' HO260.out).2.2 | (with_reducible refine Kd.C_alloc ?_ _) | (with_reducible refine Kd.C_drewN ?_ _) | (with_reducible refine Kd.C_drew ?_))); (case side2 => exact (Kd.R_reads' HO260.out).2.1); (case side3 => repeat (first | exact (Kd.R_reads' HO251.out).2.2 | (with_reducible refine Kd.C_alloc ?_ _) | (with_reducible refine Kd.C_drewN ?_ _) | (with_reducible refine Kd.C_drew ?_))); (case side4 => exact (Kd.R_reads' HO251.out).2.1); rintro e w43 ⟨rfl, hb⟩; have n0_ := Aside0.mk (Kd.R_below (by (with_reducible repeat (first | apply Kd.R_alloc | apply Kd.R_drewN | apply Kd.R_drew)); exact HO248.out) hb); have n1_ := Aside0.mk (Kd.R_below (by (with_reducible repeat (first | apply Kd.R_alloc | apply Kd.R_drewN | apply Kd.R_drew)); exact HO251.out) hb); have n2_ := Aside0.mk (Kd.R_below (by (with_reducible repeat (first | apply Kd.R_alloc | apply Kd.R_drewN | apply Kd.R_drew)); exact HO256.out) hb); have n3_ := Aside0.mk (Kd.R_below (by (with_reducible repeat (first | apply Kd.R_alloc | apply Kd.R_drewN | apply Kd.R_drew)); exact HO260.out) hb); have n4_ := Aside0.mk (Kd.R_below (by (with_reducible repeat (first | apply Kd.R_alloc | apply Kd.R_drewN | apply Kd.R_drew)); exact HO266.out) hb); have n5_ := sK BK242 hb; have n6_ := sK BK257 hb; have n7_ := sB HB hb; clear HO248; clear HO251; clear HO256; clear HO260; clear HO266; clear BK242; clear BK257; clear HB; have HO248 := n0_; have HO251 := n1_; have HO256 := n2_; have HO260 := n3_; have HO266 := n4_; have BK242 := n5_; have BK257 := n6_; have HB := n7_; clear n0_ n1_ n2_ n3_ n4_ n5_ n6_ n7_; (try clear hb); (try clear hb2); (try clear hk); (try clear hi)))
            go_meet
            case rel => exact ⟨_, (!t270), (by first | rfl | (simp; done) | (simp [*]; done)), H', ⟨by first | omega | exact Nat.le_refl _⟩, ⟨by (with_reducible repeat (first | apply Kd.R_alloc | apply Kd.R_drewN | apply Kd.R_drew)); exact HO251.out⟩, ⟨by (with_reducible repeat (first | apply Kd.R_alloc | apply Kd.R_drewN | apply Kd.R_drew)); exact HO260.out⟩, ⟨by (with_reducible repeat (first | apply Kd.R_alloc | apply Kd.R_drewN | apply Kd.R_drew)); exact Kd.R_mono HO256.out (fun _ hk => trivial)⟩, ⟨by (with_reducible repeat (first | refine blk_drewN ?_ _ | refine blk_drew ?_ | refine blk_alloc ?_ _)); exact BK242.out⟩, ⟨by (with_reducible repeat (first | refine blk_drewN ?_ _ | refine blk_drew ?_ | refine blk_alloc ?_ _)); exact BK257.out⟩, ⟨by repeat (first | (with_reducible first | exact HB.out | apply below_alloc | apply pw_below_drewN | apply below_drew1 | refine below_set ?_ GE242.out | refine below_set ?_ GE257.out) | exact HB.out)⟩⟩
        case rest =>
          clear HC17
          try clear c1
          try clear c2
          try clear p2
          try clear c3
          try clear c3b0
          try clear c4
          try clear c5
          try clear c7
          try clear c9
          try clear c10
          try clear c11
          try clear c12
          try clear c14
          try clear c15
          try clear c28
          try clear c41
          try clear c41b0
          try clear c41b2
          try clear hcz19_0
          try clear hcz19_1
          try clear hcz19_2
          try clear hcz21_0
          try clear hcz21_1
          try clear hcz21_2
          try clear hcz25_0
          try clear hcz25_1
          try clear hcz25_2
          try clear hcz29_0
          try clear hcz29_1
          try clear hcz29_2
          try clear hcz39_0
          try clear hcz39_1
          try clear hcz39_2
          try clear hcz5_0
          try clear hcz5_1
          try clear hcz5_2
          try clear hfz19_0
          try clear hfz19_1
          try clear hfz19_2
          try clear hfz21_0
          try clear hfz21_1
          try clear hfz21_2
          try clear hfz25_0
          try clear hfz25_1
          try clear hfz25_2
          try clear hfz29_0
          try clear hfz29_1
          try clear hfz29_2
          try clear hfz39_0
          try clear hfz39_1
          try clear hfz39_2
          try clear hfz5_0
          try clear hfz5_1
          try clear hfz5_2
          obtain ⟨kq, x42_16, rfl, HA, HJ16, HO_4, HO_6, HO_258002, BK242, BK257, HB⟩ := hcut
          have hl258002_16 := (Kd.R_reads' HO_258002.out).1
          rw [hl258002_16] at HO_258002
          (try simp only [hl258002_16])
          (try simp only [hl258002_16] at BK242)
          (try simp only [hl258002_16] at BK257)
          (try simp only [hl258002_16] at HO_4)
          (try simp only [hl258002_16] at HO_6)
          cases kq with
          | zero => exact absurd HA.out (by simp [laws_FnExactAssignmentsOf.j0])
          | succ kj16 =>
            have H := HA.out
            clear HA
            simp only [laws_FnExactAssignmentsOf.j0] at H
            by_cases c44 : x42_16 = true
            · subst c44
              have H1 : (some false) = some true := by rw [if_pos rfl] at H; exact H
              clear H
              have H := H1
              clear H1
              exact absurd H (by simp)
            · replace c44 := Bool.eq_false_iff.mpr c44
              subst c44
              have H1 : ((laws_markAssignmentS.f kj16 t258 1).bind fun bt271 => ((laws_heldAssignmentS.f kj16 bt271.2 1).bind fun t273 => (if t273 < 0 then (some false) else (if t273 = bt271.1 then ((laws_toMatch.f kj16 a0_0 a0_1 l0_2).bind fun bt274 => ((impl_AssignmentsOf.f kj16 bt274.1 bt274.2.1 bt274.2.2).bind fun t279 => ((laws_eqAssignmentS.f kj16 t279 t249).bind fun t282 => (if t282 = true then ((laws_heldAssignmentS.f kj16 bt271.2 1).bind fun t283 => (if t283 < 0 then (some false) else (if t283 = bt271.1 then (some true) else (some false)))) else (some false))))) else (some false))))) = some true := by rw [if_neg (show ¬ (false = true) by decide)] at H; exact H
              clear H
              have H := H1
              clear H1
              replace H := Option.bind_eq_some_iff.mp H
              obtain ⟨⟨t271, t272⟩, A450, H⟩ := H
              replace H : ((laws_heldAssignmentS.f kj16 t272 1).bind fun t273 => (if t273 < 0 then (some false) else (if t273 = t271 then ((laws_toMatch.f kj16 a0_0 a0_1 l0_2).bind fun bt274 => ((impl_AssignmentsOf.f kj16 bt274.1 bt274.2.1 bt274.2.2).bind fun t279 => ((laws_eqAssignmentS.f kj16 t279 t249).bind fun t282 => (if t282 = true then ((laws_heldAssignmentS.f kj16 t272 1).bind fun t283 => (if t283 < 0 then (some false) else (if t283 = t271 then (some true) else (some false)))) else (some false))))) else (some false)))) = some true := H
              have A45 := Aside0.mk A450
              clear A450
              replace H := Option.bind_eq_some_iff.mp H
              obtain ⟨t273, A460, H⟩ := H
              replace H : (if t273 < 0 then (some false) else (if t273 = t271 then ((laws_toMatch.f kj16 a0_0 a0_1 l0_2).bind fun bt274 => ((impl_AssignmentsOf.f kj16 bt274.1 bt274.2.1 bt274.2.2).bind fun t279 => ((laws_eqAssignmentS.f kj16 t279 t249).bind fun t282 => (if t282 = true then ((laws_heldAssignmentS.f kj16 t272 1).bind fun t283 => (if t283 < 0 then (some false) else (if t283 = t271 then (some true) else (some false)))) else (some false))))) else (some false))) = some true := H
              have A46 := Aside0.mk A460
              clear A460
              by_cases c47 : t273 < 0
              · rw [if_pos c47] at H
                have c47b0 : decide (t273 < 0) = true := decide_eq_true c47
                clear c47
                exact absurd H (by simp)
              · rw [if_neg c47] at H
                have c47b0 : decide (t273 < 0) = false := decide_eq_false c47
                clear c47
                by_cases c48 : t273 = t271
                · rw [if_pos c48] at H
                  have c48b0 : (t273 == t271) = true := beq_iff_eq.mpr c48
                  have c48b1 : (t273 != t271) = false := bne_eq_false_iff_eq.mpr c48
                  clear c48
                  replace H := Option.bind_eq_some_iff.mp H
                  obtain ⟨⟨t274, t275, t276⟩, A490, H⟩ := H
                  replace H : ((impl_AssignmentsOf.f kj16 t274 t275 t276).bind fun t279 => ((laws_eqAssignmentS.f kj16 t279 t249).bind fun t282 => (if t282 = true then ((laws_heldAssignmentS.f kj16 t272 1).bind fun t283 => (if t283 < 0 then (some false) else (if t283 = t271 then (some true) else (some false)))) else (some false)))) = some true := H
                  have A49 := Aside0.mk A490
                  clear A490
                  replace H := Option.bind_eq_some_iff.mp H
                  obtain ⟨t279, A500, H⟩ := H
                  replace H : ((laws_eqAssignmentS.f kj16 t279 t249).bind fun t282 => (if t282 = true then ((laws_heldAssignmentS.f kj16 t272 1).bind fun t283 => (if t283 < 0 then (some false) else (if t283 = t271 then (some true) else (some false)))) else (some false))) = some true := H
                  have A50 := Aside0.mk A500
                  clear A500
                  replace H := Option.bind_eq_some_iff.mp H
                  obtain ⟨t282, A510, H⟩ := H
                  replace H : (if t282 = true then ((laws_heldAssignmentS.f kj16 t272 1).bind fun t283 => (if t283 < 0 then (some false) else (if t283 = t271 then (some true) else (some false)))) else (some false)) = some true := H
                  have A51 := Aside0.mk A510
                  clear A510
                  by_cases c52 : t282 = true
                  · subst c52
                    have H1 : ((laws_heldAssignmentS.f kj16 t272 1).bind fun t283 => (if t283 < 0 then (some false) else (if t283 = t271 then (some true) else (some false)))) = some true := by rw [if_pos rfl] at H; exact H
                    clear H
                    have H := H1
                    clear H1
                    replace H := Option.bind_eq_some_iff.mp H
                    obtain ⟨t283, A530, H⟩ := H
                    replace H : (if t283 < 0 then (some false) else (if t283 = t271 then (some true) else (some false))) = some true := H
                    have A53 := Aside0.mk A530
                    clear A530
                    by_cases c54 : t283 < 0
                    · rw [if_pos c54] at H
                      have c54b0 : decide (t283 < 0) = true := decide_eq_true c54
                      clear c54
                      exact absurd H (by simp)
                    · rw [if_neg c54] at H
                      have c54b0 : decide (t283 < 0) = false := decide_eq_false c54
                      clear c54
                      by_cases c55 : t283 = t271
                      · rw [if_pos c55] at H
                        have c55b0 : (t283 == t271) = true := beq_iff_eq.mpr c55
                        have c55b1 : (t283 != t271) = false := bne_eq_false_iff_eq.mpr c55
                        clear c55
                        clear H
                        go_wp2_with (first | ((with_reducible refine gate_callee (f := 12) rfl ?_); refine sC (some 45) Try.func12 #[.slice Ao32 t258.length co32, .int .i64 1] (laws_markAssignmentS.calls kj16 (fun k_ => some k_ = (.slice Ao32 t258.length co32 : Value).ownBlock) (.slice Ao32 t258.length co32) t258 1 t271 t272 w _ ?side1 ?side2 A45.out) ?_; (case side1 => repeat (first | (with_reducible first | exact HB.out | apply below_alloc | apply pw_below_drewN | apply below_drew1 | refine below_set ?_ GE242.out | refine below_set ?_ GE257.out) | exact HB.out)); (case side2 => exact Kd.R_tight rfl HO_6.out); rintro e w56 ⟨rfl, hy0, hb, hkp⟩; refine ⟨_, rfl, ?_⟩; have n0_ := Aside0.mk (Kd.R_mono (ok' := fun k_ => some k_ ≠ (.slice Ao32 t258.length co32 : Value).ownBlock) (Kd.R_keptB (HO_4.out) hkp (fun k_ hk_ hs_ => (hk_) hs_)) (fun k_ hk_ => hk_.1)); have n1_ := Aside0.mk (Kd.R_reok rfl hy0 (fun k_ e_ => HO_6.out.1 k_ e_)); have n2_ := Aside0.mk (Kd.R_mono (ok' := fun k_ => True) (Kd.R_keptB ((Kd.R_apart' HO_258002.out (Kd.R_typed HO_6.out) (by decide))) hkp (fun k_ hk_ hs_ => (hk_.2) hs_)) (fun k_ hk_ => trivial)); have n3_ := Aside0.mk (blk_kept (by (with_reducible repeat (first | refine blk_drewN ?_ _ | refine blk_drew ?_ | refine blk_alloc ?_ _)); exact BK242.out) hkp (fun hs_ => (fun e_ => (Kd.R_ne HO_6.out BK242.out (by decide)) e_) hs_)); have n4_ := Aside0.mk (blk_kept (by (with_reducible repeat (first | refine blk_drewN ?_ _ | refine blk_drew ?_ | refine blk_alloc ?_ _)); exact BK257.out) hkp (fun hs_ => (fun e_ => (Kd.R_ne HO_6.out BK257.out (by decide)) e_) hs_)); have n5_ := Aside0.mk (hb); clear HO_4; clear HO_6; clear HO_258002; clear BK242; clear BK257; clear HB; have HO_4 := n0_; have HO_6 := n1_; have HO_258002 := n2_; have BK242 := n3_; have BK257 := n4_; have HB := n5_; clear n0_ n1_ n2_ n3_ n4_ n5_; (try clear hb); (try clear hkp); (try clear hy0)) | ((with_reducible refine gate_callee (f := 13) rfl ?_); refine goesL_ (some 48) rfl rfl Try.func13 (by kernel_rfl) rfl #[.slice Ao32 t272.length co32, .int .i64 1] rfl (by (try simp only [List.map_toArray, List.map_cons, List.map_nil]); first | done | (rw [show t272.length = t258.length from (Kd.R_reads' HO_6.out).1.symm] <;> rfl) | rfl | (simp only [List.length_drop, List.length_take]; rfl)) ?_; (with_reducible refine (laws_heldAssignmentS.calls kj16 _ _ t272 1 t273 _ ?side1 ?side2 A46.out).mono ?_); (case side1 => repeat (first | exact (Kd.R_reads' HO_6.out).2.2 | (with_reducible refine Kd.C_alloc ?_ _) | (with_reducible refine Kd.C_drewN ?_ _) | (with_reducible refine Kd.C_drew ?_))); (case side2 => rw [show t272.length = t258.length from (Kd.R_reads' HO_6.out).1.symm]; exact (Kd.R_reads' HO_6.out).2.1); rintro e w57 ⟨rfl, hb⟩; refine ⟨_, rfl, ?_⟩; have n0_ := Aside0.mk (Kd.R_below (by (with_reducible repeat (first | apply Kd.R_alloc | apply Kd.R_drewN | apply Kd.R_drew)); exact HO_4.out) hb); have n1_ := Aside0.mk (Kd.R_below (by (with_reducible repeat (first | apply Kd.R_alloc | apply Kd.R_drewN | apply Kd.R_drew)); exact HO_6.out) hb); have n2_ := Aside0.mk (Kd.R_below (by (with_reducible repeat (first | apply Kd.R_alloc | apply Kd.R_drewN | apply Kd.R_drew)); exact HO_258002.out) hb); have n3_ := sK BK242 hb; have n4_ := sK BK257 hb; have n5_ := sB HB hb; clear HO_4; clear HO_6; clear HO_258002; clear BK242; clear BK257; clear HB; have HO_4 := n0_; have HO_6 := n1_; have HO_258002 := n2_; have BK242 := n3_; have BK257 := n4_; have HB := n5_; clear n0_ n1_ n2_ n3_ n4_ n5_; (try clear hb); (try clear hb2); (try clear hk); (try clear hi); have hnb58 := NB242_257.out; have hnc58 := NB257_242.out; obtain ⟨hcz59_0, hcz59_1, hcz59_2, hfz59_0, hfz59_1, hfz59_2⟩ := cells3 BK242.out) | ((with_reducible refine gate_callee (f := 7) rfl ?_); refine sC (some 55) Try.func7 #[.agg #[.int .i64 a0_0, .int .i64 a0_1, .slice A0_2 l0_2.length c0_2]] (laws_toMatch.calls kj16 a0_0 a0_1 _ _ l0_2 t274 t275 t276 _ ?side1 ?side2 A49.out) ?_; (case side1 => repeat (first | exact (Kd.C_below HR0_2.out HB.out) | (with_reducible refine Kd.C_alloc ?_ _) | (with_reducible refine Kd.C_drewN ?_ _) | (with_reducible refine Kd.C_drew ?_))); (case side2 => exact HC0_2.out); rintro e w60 ⟨v277, rfl, ho0, hb⟩; refine ⟨_, rfl, ?_⟩; have n0_ := Aside0.mk (Kd.R_below (by (with_reducible repeat (first | apply Kd.R_alloc | apply Kd.R_drewN | apply Kd.R_drew)); exact HO_4.out) hb); have n1_ := Aside0.mk (Kd.R_below (by (with_reducible repeat (first | apply Kd.R_alloc | apply Kd.R_drewN | apply Kd.R_drew)); exact HO_6.out) hb); have n2_ := Aside0.mk (Kd.R_elder' (by (with_reducible repeat (first | apply Kd.R_alloc | apply Kd.R_drewN | apply Kd.R_drew)); exact HO_258002.out) (Kd.R_base ho0) hb); have n3_ := Aside0.mk (Kd.R_lower (Kd.R_new' ho0 (Kd.R_lt (by (with_reducible repeat (first | apply Kd.R_alloc | apply Kd.R_drewN | apply Kd.R_drew)); exact HO_258002.out))) (below_size (by repeat (first | (with_reducible first | exact HB.out | apply below_alloc | apply pw_below_drewN | apply below_drew1 | refine below_set ?_ GE242.out | refine below_set ?_ GE257.out) | exact HB.out)))); have n4_ := sK BK242 hb; have n5_ := sK BK257 hb; have n6_ := sB HB hb; clear HO_4; clear HO_6; clear HO_258002; clear BK242; clear BK257; clear HB; have HO_4 := n0_; have HO_6 := n1_; have HO_258002 := n2_; have HO278 := n3_; have BK242 := n4_; have BK257 := n5_; have HB := n6_; clear n0_ n1_ n2_ n3_ n4_ n5_ n6_; (try clear hb); (try clear hb2); (try clear hk); (try clear hi); (try clear ho0); obtain ⟨Ao61, co61, eo61⟩ := Kd.R_slice HO278.out; subst eo61) | ((with_reducible refine gate_callee (f := 15) rfl ?_); refine sC (some 56) Try.func15 #[.agg #[.int .i64 t274, .int .i64 t275, .slice Ao61 t276.length co61]] (impl_AssignmentsOf.calls kj16 t274 t275 _ _ t276 t279 _ ?side1 ?side2 A50.out) ?_; (case side1 => repeat (first | exact (Kd.R_reads' HO278.out).2.2 | (with_reducible refine Kd.C_alloc ?_ _) | (with_reducible refine Kd.C_drewN ?_ _) | (with_reducible refine Kd.C_drew ?_))); (case side2 => exact (Kd.R_reads' HO278.out).2.1); rintro e w62 ⟨v280, rfl, ho0, hb⟩; refine ⟨_, rfl, ?_⟩; have n0_ := Aside0.mk (Kd.R_elder' (by (with_reducible repeat (first | apply Kd.R_alloc | apply Kd.R_drewN | apply Kd.R_drew)); exact HO_4.out) (Kd.R_base ho0) hb); have n1_ := Aside0.mk (Kd.R_elder' (by (with_reducible repeat (first | apply Kd.R_alloc | apply Kd.R_drewN | apply Kd.R_drew)); exact HO_6.out) (Kd.R_base ho0) hb); have n2_ := Aside0.mk (Kd.R_below (by (with_reducible repeat (first | apply Kd.R_alloc | apply Kd.R_drewN | apply Kd.R_drew)); exact HO_258002.out) hb); have n3_ := Aside0.mk (Kd.R_below (by (with_reducible repeat (first | apply Kd.R_alloc | apply Kd.R_drewN | apply Kd.R_drew)); exact HO278.out) hb); have n4_ := Aside0.mk (Kd.R_lower (Kd.R_new' (Kd.R_new' ho0 (Kd.R_lt (by (with_reducible repeat (first | apply Kd.R_alloc | apply Kd.R_drewN | apply Kd.R_drew)); exact HO_4.out))) (Kd.R_lt (by (with_reducible repeat (first | apply Kd.R_alloc | apply Kd.R_drewN | apply Kd.R_drew)); exact HO_6.out))) (below_size (by repeat (first | (with_reducible first | exact HB.out | apply below_alloc | apply pw_below_drewN | apply below_drew1 | refine below_set ?_ GE242.out | refine below_set ?_ GE257.out) | exact HB.out)))); have n5_ := sK BK242 hb; have n6_ := sK BK257 hb; have n7_ := sB HB hb; clear HO_4; clear HO_6; clear HO_258002; clear HO278; clear BK242; clear BK257; clear HB; have HO_4 := n0_; have HO_6 := n1_; have HO_258002 := n2_; have HO278 := n3_; have HO281 := n4_; have BK242 := n5_; have BK257 := n6_; have HB := n7_; clear n0_ n1_ n2_ n3_ n4_ n5_ n6_ n7_; (try clear hb); (try clear hb2); (try clear hk); (try clear hi); (try clear ho0); obtain ⟨Ao63, co63, eo63⟩ := Kd.R_slice HO281.out; subst eo63) | ((with_reducible refine gate_callee (f := 9) rfl ?_); refine sC (some 59) Try.func9 #[.slice Ao63 t279.length co63, .slice Ao33 t249.length co33] (laws_eqAssignmentS.calls kj16 _ _ t279 _ _ t249 true _ ?side1 ?side2 ?side3 ?side4 A51.out) ?_; (case side1 => repeat (first | exact (Kd.R_reads' HO281.out).2.2 | (with_reducible refine Kd.C_alloc ?_ _) | (with_reducible refine Kd.C_drewN ?_ _) | (with_reducible refine Kd.C_drew ?_))); (case side2 => exact (Kd.R_reads' HO281.out).2.1); (case side3 => repeat (first | exact (Kd.R_reads' HO_4.out).2.2 | (with_reducible refine Kd.C_alloc ?_ _) | (with_reducible refine Kd.C_drewN ?_ _) | (with_reducible refine Kd.C_drew ?_))); (case side4 => exact (Kd.R_reads' HO_4.out).2.1); rintro e w64 ⟨rfl, hb⟩; refine ⟨_, rfl, ?_⟩; have n0_ := Aside0.mk (Kd.R_below (by (with_reducible repeat (first | apply Kd.R_alloc | apply Kd.R_drewN | apply Kd.R_drew)); exact HO_4.out) hb); have n1_ := Aside0.mk (Kd.R_below (by (with_reducible repeat (first | apply Kd.R_alloc | apply Kd.R_drewN | apply Kd.R_drew)); exact HO_6.out) hb); have n2_ := Aside0.mk (Kd.R_below (by (with_reducible repeat (first | apply Kd.R_alloc | apply Kd.R_drewN | apply Kd.R_drew)); exact HO_258002.out) hb); have n3_ := Aside0.mk (Kd.R_below (by (with_reducible repeat (first | apply Kd.R_alloc | apply Kd.R_drewN | apply Kd.R_drew)); exact HO278.out) hb); have n4_ := Aside0.mk (Kd.R_below (by (with_reducible repeat (first | apply Kd.R_alloc | apply Kd.R_drewN | apply Kd.R_drew)); exact HO281.out) hb); have n5_ := sK BK242 hb; have n6_ := sK BK257 hb; have n7_ := sB HB hb; clear HO_4; clear HO_6; clear HO_258002; clear HO278; clear HO281; clear BK242; clear BK257; clear HB; have HO_4 := n0_; have HO_6 := n1_; have HO_258002 := n2_; have HO278 := n3_; have HO281 := n4_; have BK242 := n5_; have BK257 := n6_; have HB := n7_; clear n0_ n1_ n2_ n3_ n4_ n5_ n6_ n7_; (try clear hb); (try clear hb2); (try clear hk); (try clear hi)) | ((with_reducible refine gate_callee (f := 13) rfl ?_); refine goesL_ (some 63) rfl rfl Try.func13 (by kernel_rfl) rfl #[.slice Ao32 t272.length co32, .int .i64 1] rfl (by (try simp only [List.map_toArray, List.map_cons, List.map_nil]); first | done | (rw [show t272.length = t258.length from (Kd.R_reads' HO_6.out).1.symm] <;> rfl) | rfl | (simp only [List.length_drop, List.length_take]; rfl)) ?_; (with_reducible refine (laws_heldAssignmentS.calls kj16 _ _ t272 1 t283 _ ?side1 ?side2 A53.out).mono ?_); (case side1 => repeat (first | exact (Kd.R_reads' HO_6.out).2.2 | (with_reducible refine Kd.C_alloc ?_ _) | (with_reducible refine Kd.C_drewN ?_ _) | (with_reducible refine Kd.C_drew ?_))); (case side2 => rw [show t272.length = t258.length from (Kd.R_reads' HO_6.out).1.symm]; exact (Kd.R_reads' HO_6.out).2.1); rintro e w65 ⟨rfl, hb⟩; refine ⟨_, rfl, ?_⟩; have n0_ := Aside0.mk (Kd.R_below (by (with_reducible repeat (first | apply Kd.R_alloc | apply Kd.R_drewN | apply Kd.R_drew)); exact HO_4.out) hb); have n1_ := Aside0.mk (Kd.R_below (by (with_reducible repeat (first | apply Kd.R_alloc | apply Kd.R_drewN | apply Kd.R_drew)); exact HO_6.out) hb); have n2_ := Aside0.mk (Kd.R_below (by (with_reducible repeat (first | apply Kd.R_alloc | apply Kd.R_drewN | apply Kd.R_drew)); exact HO_258002.out) hb); have n3_ := Aside0.mk (Kd.R_below (by (with_reducible repeat (first | apply Kd.R_alloc | apply Kd.R_drewN | apply Kd.R_drew)); exact HO278.out) hb); have n4_ := Aside0.mk (Kd.R_below (by (with_reducible repeat (first | apply Kd.R_alloc | apply Kd.R_drewN | apply Kd.R_drew)); exact HO281.out) hb); have n5_ := sK BK242 hb; have n6_ := sK BK257 hb; have n7_ := sB HB hb; clear HO_4; clear HO_6; clear HO_258002; clear HO278; clear HO281; clear BK242; clear BK257; clear HB; have HO_4 := n0_; have HO_6 := n1_; have HO_258002 := n2_; have HO278 := n3_; have HO281 := n4_; have BK242 := n5_; have BK257 := n6_; have HB := n7_; clear n0_ n1_ n2_ n3_ n4_ n5_ n6_ n7_; (try clear hb); (try clear hb2); (try clear hk); (try clear hi)))
                        go_ret
                        exact ⟨by first | rfl | (simp [errW_none, errW_some] <;> rfl) | (simp [*, errW_none, errW_some] <;> rfl), by repeat (first | (with_reducible first | exact HB.out | apply below_alloc | apply pw_below_drewN | apply below_drew1 | refine below_set ?_ GE242.out | refine below_set ?_ GE257.out) | exact HB.out)⟩
                      · rw [if_neg c55] at H
                        have c55b0 : (t283 == t271) = false := beq_eq_false_iff_ne.mpr c55
                        have c55b1 : (t283 != t271) = true := bne_iff_ne.mpr c55
                        exact absurd H (by simp)
                  · replace c52 := Bool.eq_false_iff.mpr c52
                    subst c52
                    have H1 : (some false) = some true := by rw [if_neg (show ¬ (false = true) by decide)] at H; exact H
                    clear H
                    have H := H1
                    clear H1
                    exact absurd H (by simp)
                · rw [if_neg c48] at H
                  have c48b0 : (t273 == t271) = false := beq_eq_false_iff_ne.mpr c48
                  have c48b1 : (t273 != t271) = true := bne_iff_ne.mpr c48
                  exact absurd H (by simp)
      · replace c15 := Bool.eq_false_iff.mpr c15
        subst c15
        have H1 : (some false) = some true := by rw [if_neg (show ¬ (false = true) by decide)] at H; exact H
        clear H
        have H := H1
        clear H1
        exact absurd H (by simp)
    · replace c12 := Bool.eq_false_iff.mpr c12
      subst c12
      have H1 : (some false) = some true := by rw [if_neg (show ¬ (false = true) by decide)] at H; exact H
      clear H
      have H := H1
      clear H1
      exact absurd H (by simp)

end Go.Proofs.Ytlcllofghiialaa.PFnExactAssignmentsOf
