/- Printed functions: spec_ValidValue, spec_l07ValidValues, spec_l07FieldNames. -/
import Derived.Test.YtnjkhdhaiicefaaYGfP0
import Derived.Test.YtnjkhdhaiicefaaYGfPE
import Derived.Test.YtnjkhdhaiicefaaYGfP4
import Derived.Test.YtnjkhdhaiicefaaYGfP5
import Derived.Test.YtnjkhdhaiicefaaYGfP7
namespace Go.Proofs.Ytnjkhdhaiicefaa.PFnExactGetField
open Go.RowKit Go.Proofs.YtnjkhdhaiicefaaG Go.Proofs.YtnjkhdhaiicefaaW.PrintWords Go.Proofs.YtnjkhdhaiicefaaW.PrintLast Go.Proofs.YtnjkhdhaiicefaaW.PrintMore
attribute [local go_sem] max2_int min2_int max_two min_two max_three min_three max_four min_four   -- for this text's walks alone
set_option linter.unusedVariables false
set_option linter.unusedSimpArgs false
section
attribute [local go_sem high] eqA29
/-! ### spec_ValidValue: function 120 -/
mutual
def spec_ValidValue.j0 : Nat → Int → Bool → Int → Int → ByteArray → Int → Option (Bool)
 | 0, _, _, _, _, _, _ => none
 | k + 1, x4, x34, x168000, x168001, x168002, x168003 => if x34 = true then ((spec_l06Plain.f x168000 x168001 x168002 x168003 false false true).bind fun t173 => (if t173 = true then ((spec_l00In.f x168003 1 1000000).bind fun t174 => (some t174)) else (some false))) else (if x4 = 7 then (spec_ValidValue.j1 k (x4 == 7) x168000 x168001 x168002 x168003) else (spec_ValidValue.j1 k (x4 == 8) x168000 x168001 x168002 x168003))
def spec_ValidValue.j1 : Nat → Bool → Int → Int → ByteArray → Int → Option (Bool)
 | 0, _, _, _, _, _ => none
 | k + 1, x45, x168000, x168001, x168002, x168003 => if x45 = true then ((spec_l06Plain.f x168000 x168001 x168002 x168003 false true false).bind fun t175 => (if t175 = true then ((spec_IsName.f k x168002).bind fun t176 => (some t176)) else (some false))) else (some false)
end
def spec_ValidValue.f (k : Nat) (a0_0 : Int) (a0_1 : Int) (a0_2 : ByteArray) (a0_3 : Int) : Option (Bool) := if a0_0 = 1 then ((spec_l06Plain.f a0_0 a0_1 a0_2 a0_3 false true false).bind fun t168 => (if t168 = true then (some (decide ((a0_2.size : Int) ≤ 200))) else (some false))) else (if a0_0 = 2 then ((spec_l06Plain.f a0_0 a0_1 a0_2 a0_3 true false false).bind fun t169 => (if t169 = true then ((spec_l00In.f a0_1 (-1000000000000) 1000000000000).bind fun t170 => (some t170)) else (some false))) else (if a0_0 = 3 then ((spec_l06Plain.f a0_0 a0_1 a0_2 a0_3 false true false).bind fun t171 => (if t171 = true then ((spec_l00In.f (a0_2.size : Int) 1 1200).bind fun t172 => (some t172)) else (some false))) else (if a0_0 = 4 then (spec_ValidValue.j0 k a0_0 (a0_0 == 4) a0_0 a0_1 a0_2 a0_3) else (if a0_0 = 5 then (spec_ValidValue.j0 k a0_0 (a0_0 == 5) a0_0 a0_1 a0_2 a0_3) else (spec_ValidValue.j0 k a0_0 (a0_0 == 6) a0_0 a0_1 a0_2 a0_3)))))
set_option maxHeartbeats 8000000 in
set_option maxRecDepth 100000 in
theorem spec_ValidValue.calls (k : Nat) (a0_0 : Int) (a0_1 : Int) (a0_2 : ByteArray) (a0_3 : Int) (r : Bool) (w : World) (h : spec_ValidValue.f k a0_0 a0_1 a0_2 a0_3 = some r) :
  Calls Try.prog 120 #[.agg #[.int .i64 a0_0, .int .i64 a0_1, .string a0_2, .int .i64 a0_3]] w fun e w' => e = .returned (.bool r) ∧ Below w.heap.size w w' := by
 have hu29 := Try.underlying29
 have HB := Aside0.mk (Below.refl w.heap.size w)
 have H : (if a0_0 = 1 then ((spec_l06Plain.f a0_0 a0_1 a0_2 a0_3 false true false).bind fun t168 => (if t168 = true then (some (decide ((a0_2.size : Int) ≤ 200))) else (some false))) else (if a0_0 = 2 then ((spec_l06Plain.f a0_0 a0_1 a0_2 a0_3 true false false).bind fun t169 => (if t169 = true then ((spec_l00In.f a0_1 (-1000000000000) 1000000000000).bind fun t170 => (some t170)) else (some false))) else (if a0_0 = 3 then ((spec_l06Plain.f a0_0 a0_1 a0_2 a0_3 false true false).bind fun t171 => (if t171 = true then ((spec_l00In.f (a0_2.size : Int) 1 1200).bind fun t172 => (some t172)) else (some false))) else (if a0_0 = 4 then (spec_ValidValue.j0 k a0_0 (a0_0 == 4) a0_0 a0_1 a0_2 a0_3) else (if a0_0 = 5 then (spec_ValidValue.j0 k a0_0 (a0_0 == 5) a0_0 a0_1 a0_2 a0_3) else (spec_ValidValue.j0 k a0_0 (a0_0 == 6) a0_0 a0_1 a0_2 a0_3)))))) = some r := h
 clear h
 by_cases c2 : a0_0 = 1
 ·rw [if_pos c2] at H
  have c2b0 : (a0_0 == 1) = true := beq_iff_eq.mpr c2
  have c2b1 : (a0_0 != 1) = false := bne_eq_false_iff_eq.mpr c2
  clear c2
  obtain ⟨t168, A3, H⟩ := sO H
  by_cases c4 : t168 = true
  ·subst c4
   rewrite [if_pos rfl] at H
   obtain rfl := Option.some.inj H
   go_enter Try.func120, Try.ntmps120
   go_wp2_with (first | ((with_reducible refine gate_dst (N := 1) rfl ?_); (try (refine gate_guard (by rfl) ?_; dsimp only)); refine sV (N := 1) (cs := #[.int .i64 a0_0, .int .i64 a0_1, .string a0_2, .int .i64 a0_3]) (t := 29) ?_; intro gb167 hg w5 hbox hb; have n0_ := sB HB hb; have n1_ := Aside0.mk (hbox); have n2_ := sG HB hg; have n3_ := sG HB hg; clear HB; have HB := n0_; have BK167 := n1_; have GW167 := n2_; have GE167 := n3_; clear n0_ n1_ n2_ n3_; clear hb hbox hg; obtain ⟨hcz6_0, hcz6_1, hcz6_2, hcz6_3, hfz6_0, hfz6_1, hfz6_2, hfz6_3⟩ := cells4 BK167.out) | ((with_reducible refine gate_callee (f := 155) rfl ?_); refine sC (some 8) Try.func155 #[.agg #[.int .i64 a0_0, .int .i64 a0_1, .string a0_2, .int .i64 a0_3], .bool false, .bool true, .bool false] (spec_l06Plain.calls a0_0 a0_1 a0_2 a0_3 false true false true _ A3.out) ?_; rintro e w7 ⟨rfl, hb⟩; refine ⟨_, rfl, ?_⟩; have n0_ := sK BK167 hb; have n1_ := sB HB hb; clear BK167; clear HB; have BK167 := n0_; have HB := n1_; clear n0_ n1_; (try clear hb); (try clear hb2); (try clear hk); (try clear hi); obtain ⟨hcz8_0, hcz8_1, hcz8_2, hcz8_3, hfz8_0, hfz8_1, hfz8_2, hfz8_3⟩ := cells4 BK167.out))
   go_ret
   exact ⟨sq, sb⟩
  replace c4 := Bool.eq_false_iff.mpr c4
  subst c4
  rewrite [if_neg (show ¬ (false = true) by decide)] at H
  obtain rfl := Option.some.inj H
  go_enter Try.func120, Try.ntmps120
  go_wp2_with (first | ((with_reducible refine gate_dst (N := 1) rfl ?_); (try (refine gate_guard (by rfl) ?_; dsimp only)); refine sV (N := 1) (cs := #[.int .i64 a0_0, .int .i64 a0_1, .string a0_2, .int .i64 a0_3]) (t := 29) ?_; intro gb167 hg w9 hbox hb; have n0_ := sB HB hb; have n1_ := Aside0.mk (hbox); have n2_ := sG HB hg; have n3_ := sG HB hg; clear HB; have HB := n0_; have BK167 := n1_; have GW167 := n2_; have GE167 := n3_; clear n0_ n1_ n2_ n3_; clear hb hbox hg; obtain ⟨hcz10_0, hcz10_1, hcz10_2, hcz10_3, hfz10_0, hfz10_1, hfz10_2, hfz10_3⟩ := cells4 BK167.out) | ((with_reducible refine gate_callee (f := 155) rfl ?_); refine sC (some 8) Try.func155 #[.agg #[.int .i64 a0_0, .int .i64 a0_1, .string a0_2, .int .i64 a0_3], .bool false, .bool true, .bool false] (spec_l06Plain.calls a0_0 a0_1 a0_2 a0_3 false true false false _ A3.out) ?_; rintro e w11 ⟨rfl, hb⟩; refine ⟨_, rfl, ?_⟩; have n0_ := sK BK167 hb; have n1_ := sB HB hb; clear BK167; clear HB; have BK167 := n0_; have HB := n1_; clear n0_ n1_; (try clear hb); (try clear hb2); (try clear hk); (try clear hi)))
  go_ret
  exact ⟨sq, sb⟩
 rw [if_neg c2] at H
 have c2b0 : (a0_0 == 1) = false := beq_eq_false_iff_ne.mpr c2
 have c2b1 : (a0_0 != 1) = true := bne_iff_ne.mpr c2
 by_cases c12 : a0_0 = 2
 ·rw [if_pos c12] at H
  have c12b0 : (a0_0 == 2) = true := beq_iff_eq.mpr c12
  have c12b1 : (a0_0 != 2) = false := bne_eq_false_iff_eq.mpr c12
  clear c12
  obtain ⟨t169, A13, H⟩ := sO H
  by_cases c14 : t169 = true
  ·subst c14
   rewrite [if_pos rfl] at H
   obtain ⟨t170, A15, H⟩ := sO H
   obtain rfl := Option.some.inj H
   go_enter Try.func120, Try.ntmps120
   go_wp2_with (first | ((with_reducible refine gate_dst (N := 1) rfl ?_); (try (refine gate_guard (by rfl) ?_; dsimp only)); refine sV (N := 1) (cs := #[.int .i64 a0_0, .int .i64 a0_1, .string a0_2, .int .i64 a0_3]) (t := 29) ?_; intro gb167 hg w16 hbox hb; have n0_ := sB HB hb; have n1_ := Aside0.mk (hbox); have n2_ := sG HB hg; have n3_ := sG HB hg; clear HB; have HB := n0_; have BK167 := n1_; have GW167 := n2_; have GE167 := n3_; clear n0_ n1_ n2_ n3_; clear hb hbox hg; obtain ⟨hcz17_0, hcz17_1, hcz17_2, hcz17_3, hfz17_0, hfz17_1, hfz17_2, hfz17_3⟩ := cells4 BK167.out) | ((with_reducible refine gate_callee (f := 155) rfl ?_); refine sC (some 18) Try.func155 #[.agg #[.int .i64 a0_0, .int .i64 a0_1, .string a0_2, .int .i64 a0_3], .bool true, .bool false, .bool false] (spec_l06Plain.calls a0_0 a0_1 a0_2 a0_3 true false false true _ A13.out) ?_; rintro e w18 ⟨rfl, hb⟩; refine ⟨_, rfl, ?_⟩; have n0_ := sK BK167 hb; have n1_ := sB HB hb; clear BK167; clear HB; have BK167 := n0_; have HB := n1_; clear n0_ n1_; (try clear hb); (try clear hb2); (try clear hk); (try clear hi); obtain ⟨hcz19_0, hcz19_1, hcz19_2, hcz19_3, hfz19_0, hfz19_1, hfz19_2, hfz19_3⟩ := cells4 BK167.out) | (go_at_call 112; (with_reducible refine (spec_l00In.calls a0_1 (-1000000000000) 1000000000000 t170 _ A15.out).mono ?_); rintro e w' ⟨rfl, ⟨nd, rfl⟩⟩))
   go_ret
   exact ⟨sq, sb⟩
  replace c14 := Bool.eq_false_iff.mpr c14
  subst c14
  rewrite [if_neg (show ¬ (false = true) by decide)] at H
  obtain rfl := Option.some.inj H
  go_enter Try.func120, Try.ntmps120
  go_wp2_with (first | ((with_reducible refine gate_dst (N := 1) rfl ?_); (try (refine gate_guard (by rfl) ?_; dsimp only)); refine sV (N := 1) (cs := #[.int .i64 a0_0, .int .i64 a0_1, .string a0_2, .int .i64 a0_3]) (t := 29) ?_; intro gb167 hg w20 hbox hb; have n0_ := sB HB hb; have n1_ := Aside0.mk (hbox); have n2_ := sG HB hg; have n3_ := sG HB hg; clear HB; have HB := n0_; have BK167 := n1_; have GW167 := n2_; have GE167 := n3_; clear n0_ n1_ n2_ n3_; clear hb hbox hg; obtain ⟨hcz21_0, hcz21_1, hcz21_2, hcz21_3, hfz21_0, hfz21_1, hfz21_2, hfz21_3⟩ := cells4 BK167.out) | ((with_reducible refine gate_callee (f := 155) rfl ?_); refine sC (some 18) Try.func155 #[.agg #[.int .i64 a0_0, .int .i64 a0_1, .string a0_2, .int .i64 a0_3], .bool true, .bool false, .bool false] (spec_l06Plain.calls a0_0 a0_1 a0_2 a0_3 true false false false _ A13.out) ?_; rintro e w22 ⟨rfl, hb⟩; refine ⟨_, rfl, ?_⟩; have n0_ := sK BK167 hb; have n1_ := sB HB hb; clear BK167; clear HB; have BK167 := n0_; have HB := n1_; clear n0_ n1_; (try clear hb); (try clear hb2); (try clear hk); (try clear hi)))
  go_ret
  exact ⟨sq, sb⟩
 rw [if_neg c12] at H
 have c12b0 : (a0_0 == 2) = false := beq_eq_false_iff_ne.mpr c12
 have c12b1 : (a0_0 != 2) = true := bne_iff_ne.mpr c12
 by_cases c23 : a0_0 = 3
 ·rw [if_pos c23] at H
  have c23b0 : (a0_0 == 3) = true := beq_iff_eq.mpr c23
  have c23b1 : (a0_0 != 3) = false := bne_eq_false_iff_eq.mpr c23
  clear c23
  obtain ⟨t171, A24, H⟩ := sO H
  by_cases c25 : t171 = true
  ·subst c25
   rewrite [if_pos rfl] at H
   obtain ⟨t172, A26, H⟩ := sO H
   obtain rfl := Option.some.inj H
   go_enter Try.func120, Try.ntmps120
   go_wp2_with (first | ((with_reducible refine gate_dst (N := 1) rfl ?_); (try (refine gate_guard (by rfl) ?_; dsimp only)); refine sV (N := 1) (cs := #[.int .i64 a0_0, .int .i64 a0_1, .string a0_2, .int .i64 a0_3]) (t := 29) ?_; intro gb167 hg w27 hbox hb; have n0_ := sB HB hb; have n1_ := Aside0.mk (hbox); have n2_ := sG HB hg; have n3_ := sG HB hg; clear HB; have HB := n0_; have BK167 := n1_; have GW167 := n2_; have GE167 := n3_; clear n0_ n1_ n2_ n3_; clear hb hbox hg; obtain ⟨hcz28_0, hcz28_1, hcz28_2, hcz28_3, hfz28_0, hfz28_1, hfz28_2, hfz28_3⟩ := cells4 BK167.out) | ((with_reducible refine gate_callee (f := 155) rfl ?_); refine sC (some 27) Try.func155 #[.agg #[.int .i64 a0_0, .int .i64 a0_1, .string a0_2, .int .i64 a0_3], .bool false, .bool true, .bool false] (spec_l06Plain.calls a0_0 a0_1 a0_2 a0_3 false true false true _ A24.out) ?_; rintro e w29 ⟨rfl, hb⟩; refine ⟨_, rfl, ?_⟩; have n0_ := sK BK167 hb; have n1_ := sB HB hb; clear BK167; clear HB; have BK167 := n0_; have HB := n1_; clear n0_ n1_; (try clear hb); (try clear hb2); (try clear hk); (try clear hi); obtain ⟨hcz30_0, hcz30_1, hcz30_2, hcz30_3, hfz30_0, hfz30_1, hfz30_2, hfz30_3⟩ := cells4 BK167.out) | (go_at_call 112; (with_reducible refine (spec_l00In.calls (a0_2.size : Int) 1 1200 t172 _ A26.out).mono ?_); rintro e w' ⟨rfl, ⟨nd, rfl⟩⟩))
   go_ret
   exact ⟨sq, sb⟩
  replace c25 := Bool.eq_false_iff.mpr c25
  subst c25
  rewrite [if_neg (show ¬ (false = true) by decide)] at H
  obtain rfl := Option.some.inj H
  go_enter Try.func120, Try.ntmps120
  go_wp2_with (first | ((with_reducible refine gate_dst (N := 1) rfl ?_); (try (refine gate_guard (by rfl) ?_; dsimp only)); refine sV (N := 1) (cs := #[.int .i64 a0_0, .int .i64 a0_1, .string a0_2, .int .i64 a0_3]) (t := 29) ?_; intro gb167 hg w31 hbox hb; have n0_ := sB HB hb; have n1_ := Aside0.mk (hbox); have n2_ := sG HB hg; have n3_ := sG HB hg; clear HB; have HB := n0_; have BK167 := n1_; have GW167 := n2_; have GE167 := n3_; clear n0_ n1_ n2_ n3_; clear hb hbox hg; obtain ⟨hcz32_0, hcz32_1, hcz32_2, hcz32_3, hfz32_0, hfz32_1, hfz32_2, hfz32_3⟩ := cells4 BK167.out) | ((with_reducible refine gate_callee (f := 155) rfl ?_); refine sC (some 27) Try.func155 #[.agg #[.int .i64 a0_0, .int .i64 a0_1, .string a0_2, .int .i64 a0_3], .bool false, .bool true, .bool false] (spec_l06Plain.calls a0_0 a0_1 a0_2 a0_3 false true false false _ A24.out) ?_; rintro e w33 ⟨rfl, hb⟩; refine ⟨_, rfl, ?_⟩; have n0_ := sK BK167 hb; have n1_ := sB HB hb; clear BK167; clear HB; have BK167 := n0_; have HB := n1_; clear n0_ n1_; (try clear hb); (try clear hb2); (try clear hk); (try clear hi)))
  go_ret
  exact ⟨sq, sb⟩
 rw [if_neg c23] at H
 have c23b0 : (a0_0 == 3) = false := beq_eq_false_iff_ne.mpr c23
 have c23b1 : (a0_0 != 3) = true := bne_iff_ne.mpr c23
 have HC34 := Aside0.mk H
 clear H
 go_enter Try.func120, Try.ntmps120
 go_upto_if 34 with (first | ((with_reducible refine gate_dst (N := 1) rfl ?_); (try (refine gate_guard (by rfl) ?_; dsimp only)); refine sV (N := 1) (cs := #[.int .i64 a0_0, .int .i64 a0_1, .string a0_2, .int .i64 a0_3]) (t := 29) ?_; intro gb167 hg w35 hbox hb; have n0_ := sB HB hb; have n1_ := Aside0.mk (hbox); have n2_ := sG HB hg; have n3_ := sG HB hg; clear HB; have HB := n0_; have BK167 := n1_; have GW167 := n2_; have GE167 := n3_; clear n0_ n1_ n2_ n3_; clear hb hbox hg; obtain ⟨hcz36_0, hcz36_1, hcz36_2, hcz36_3, hfz36_0, hfz36_1, hfz36_2, hfz36_3⟩ := cells4 BK167.out))
 (try simp only [Act.put, List.setIfInBounds_toArray, List.set_cons_zero, List.set_cons_succ])
 go_cut [34] (fun v34 wc => ∃ (kq : Nat) (x34_33 : Bool), v34 = .bool x34_33 ∧ Aside0 (spec_ValidValue.j0 kq a0_0 x34_33 a0_0 a0_1 a0_2 a0_3 = some r) ∧ Aside0 (kq ≤ k) ∧ Aside0 (wc.heap[gb167]? = some (.cells #[.int .i64 a0_0, .int .i64 a0_1, .string a0_2, .int .i64 a0_3] 29 (0, 0))) ∧ Aside0 (Below w.heap.size w wc))
 case first =>
  have H := HC34.out
  clear HC34
  by_cases c37 : a0_0 = 4
  ·rw [if_pos c37] at H
   have c37b0 : (a0_0 == 4) = true := beq_iff_eq.mpr c37
   have c37b1 : (a0_0 != 4) = false := bne_eq_false_iff_eq.mpr c37
   clear c37
   (first | rw [c37b0] | (simp only [i64_w, i32_w]; rw [c37b0]) | rw [c37b2] | skip)
   have H' := Aside0.mk H
   clear H
   go_wp2
   go_meet
   case rel => exact ⟨_, ((a0_0 == 4)), sr, H', ⟨by first | omega | exact Nat.le_refl _⟩, ⟨by exact sT BK167.out⟩, ⟨sb⟩⟩
  rw [if_neg c37] at H
  have c37b0 : (a0_0 == 4) = false := beq_eq_false_iff_ne.mpr c37
  have c37b1 : (a0_0 != 4) = true := bne_iff_ne.mpr c37
  (first | rw [c37b0] | (simp only [i64_w, i32_w]; rw [c37b0]) | rw [c37b2] | skip)
  by_cases c38 : a0_0 = 5
  ·rw [if_pos c38] at H
   have c38b0 : (a0_0 == 5) = true := beq_iff_eq.mpr c38
   have c38b1 : (a0_0 != 5) = false := bne_eq_false_iff_eq.mpr c38
   clear c38
   have H' := Aside0.mk H
   clear H
   go_wp2
   go_meet
   case rel => exact ⟨_, ((a0_0 == 5)), sr, H', ⟨by first | omega | exact Nat.le_refl _⟩, ⟨by exact sT BK167.out⟩, ⟨sb⟩⟩
  rw [if_neg c38] at H
  have c38b0 : (a0_0 == 5) = false := beq_eq_false_iff_ne.mpr c38
  have c38b1 : (a0_0 != 5) = true := bne_iff_ne.mpr c38
  have H' := Aside0.mk H
  clear H
  go_wp2
  go_meet
  case rel => exact ⟨_, ((a0_0 == 6)), sr, H', ⟨by first | omega | exact Nat.le_refl _⟩, ⟨by exact sT BK167.out⟩, ⟨sb⟩⟩
 case rest =>
  clear HC34
  try clear c1
  try clear c2
  try clear c2b0
  try clear c2b1
  try clear p2
  try clear c3
  try clear c4
  try clear c12
  try clear c12b0
  try clear c12b1
  try clear c14
  try clear c15
  try clear c23
  try clear c23b0
  try clear c23b1
  try clear c25
  try clear c37
  try clear c37b0
  try clear c37b1
  try clear c37b2
  try clear c38
  try clear c38b0
  try clear c38b1
  try clear hcz10_0
  try clear hcz10_1
  try clear hcz10_2
  try clear hcz10_3
  try clear hcz17_0
  try clear hcz17_1
  try clear hcz17_2
  try clear hcz17_3
  try clear hcz19_0
  try clear hcz19_1
  try clear hcz19_2
  try clear hcz19_3
  try clear hcz21_0
  try clear hcz21_1
  try clear hcz21_2
  try clear hcz21_3
  try clear hcz28_0
  try clear hcz28_1
  try clear hcz28_2
  try clear hcz28_3
  try clear hcz30_0
  try clear hcz30_1
  try clear hcz30_2
  try clear hcz30_3
  try clear hcz32_0
  try clear hcz32_1
  try clear hcz32_2
  try clear hcz32_3
  try clear hcz36_0
  try clear hcz36_1
  try clear hcz36_2
  try clear hcz36_3
  try clear hcz6_0
  try clear hcz6_1
  try clear hcz6_2
  try clear hcz6_3
  try clear hcz8_0
  try clear hcz8_1
  try clear hcz8_2
  try clear hcz8_3
  try clear hfz10_0
  try clear hfz10_1
  try clear hfz10_2
  try clear hfz10_3
  try clear hfz17_0
  try clear hfz17_1
  try clear hfz17_2
  try clear hfz17_3
  try clear hfz19_0
  try clear hfz19_1
  try clear hfz19_2
  try clear hfz19_3
  try clear hfz21_0
  try clear hfz21_1
  try clear hfz21_2
  try clear hfz21_3
  try clear hfz28_0
  try clear hfz28_1
  try clear hfz28_2
  try clear hfz28_3
  try clear hfz30_0
  try clear hfz30_1
  try clear hfz30_2
  try clear hfz30_3
  try clear hfz32_0
  try clear hfz32_1
  try clear hfz32_2
  try clear hfz32_3
  try clear hfz36_0
  try clear hfz36_1
  try clear hfz36_2
  try clear hfz36_3
  try clear hfz6_0
  try clear hfz6_1
  try clear hfz6_2
  try clear hfz6_3
  try clear hfz8_0
  try clear hfz8_1
  try clear hfz8_2
  try clear hfz8_3
  obtain ⟨kq, x34_33, rfl, HA, HJ33, BK167, HB⟩ := hcut
  cases kq with
  | zero => exact absurd HA.out (by simp [spec_ValidValue.j0])
  | succ kj33 =>
   have H := HA.out
   clear HA
   simp only [spec_ValidValue.j0] at H
   by_cases c39 : x34_33 = true
   ·subst c39
    rewrite [if_pos rfl] at H
    obtain ⟨t173, A40, H⟩ := sO H
    by_cases c41 : t173 = true
    ·subst c41
     rewrite [if_pos rfl] at H
     obtain ⟨t174, A42, H⟩ := sO H
     obtain rfl := Option.some.inj H
     obtain ⟨hcz43_0, hcz43_1, hcz43_2, hcz43_3, hfz43_0, hfz43_1, hfz43_2, hfz43_3⟩ := cells4 BK167.out
     go_wp2_with (first | ((with_reducible refine gate_callee (f := 155) rfl ?_); refine sC (some 39) Try.func155 #[.agg #[.int .i64 a0_0, .int .i64 a0_1, .string a0_2, .int .i64 a0_3], .bool false, .bool false, .bool true] (spec_l06Plain.calls a0_0 a0_1 a0_2 a0_3 false false true true _ A40.out) ?_; rintro e w44 ⟨rfl, hb⟩; refine ⟨_, rfl, ?_⟩; have n0_ := sK BK167 hb; have n1_ := sB HB hb; clear BK167; clear HB; have BK167 := n0_; have HB := n1_; clear n0_ n1_; (try clear hb); (try clear hb2); (try clear hk); (try clear hi); obtain ⟨hcz45_0, hcz45_1, hcz45_2, hcz45_3, hfz45_0, hfz45_1, hfz45_2, hfz45_3⟩ := cells4 BK167.out) | (go_at_call 112; (with_reducible refine (spec_l00In.calls a0_3 1 1000000 t174 _ A42.out).mono ?_); rintro e w' ⟨rfl, ⟨nd, rfl⟩⟩))
     go_ret
     exact ⟨sq, sb⟩
    replace c41 := Bool.eq_false_iff.mpr c41
    subst c41
    rewrite [if_neg (show ¬ (false = true) by decide)] at H
    obtain rfl := Option.some.inj H
    obtain ⟨hcz46_0, hcz46_1, hcz46_2, hcz46_3, hfz46_0, hfz46_1, hfz46_2, hfz46_3⟩ := cells4 BK167.out
    go_wp2_with (first | ((with_reducible refine gate_callee (f := 155) rfl ?_); refine sC (some 39) Try.func155 #[.agg #[.int .i64 a0_0, .int .i64 a0_1, .string a0_2, .int .i64 a0_3], .bool false, .bool false, .bool true] (spec_l06Plain.calls a0_0 a0_1 a0_2 a0_3 false false true false _ A40.out) ?_; rintro e w47 ⟨rfl, hb⟩; refine ⟨_, rfl, ?_⟩; have n0_ := sK BK167 hb; have n1_ := sB HB hb; clear BK167; clear HB; have BK167 := n0_; have HB := n1_; clear n0_ n1_; (try clear hb); (try clear hb2); (try clear hk); (try clear hi)))
    go_ret
    exact ⟨sq, sb⟩
   replace c39 := Bool.eq_false_iff.mpr c39
   subst c39
   rewrite [if_neg (show ¬ (false = true) by decide)] at H
   have HC48 := Aside0.mk H
   clear H
   go_upto_if 45 with (fail)
   go_cut [45] (fun v45 wc => ∃ (kq : Nat) (x45_47 : Bool), v45 = .bool x45_47 ∧ Aside0 (spec_ValidValue.j1 kq x45_47 a0_0 a0_1 a0_2 a0_3 = some r) ∧ Aside0 (kq ≤ kj33) ∧ Aside0 (wc.heap[gb167]? = some (.cells #[.int .i64 a0_0, .int .i64 a0_1, .string a0_2, .int .i64 a0_3] 29 (0, 0))) ∧ Aside0 (Below w.heap.size w wc))
   case first =>
    have H := HC48.out
    clear HC48
    by_cases c49 : a0_0 = 7
    ·rw [if_pos c49] at H
     have c49b0 : (a0_0 == 7) = true := beq_iff_eq.mpr c49
     have c49b1 : (a0_0 != 7) = false := bne_eq_false_iff_eq.mpr c49
     clear c49
     (first | rw [c49b0] | (simp only [i64_w, i32_w]; rw [c49b0]) | rw [c49b2] | skip)
     have H' := Aside0.mk H
     clear H
     go_wp2
     go_meet
     case rel => exact ⟨_, ((a0_0 == 7)), sr, H', ⟨by have := HJ33.out; first | omega | exact Nat.le_refl _⟩, ⟨by exact sT BK167.out⟩, ⟨sb⟩⟩
    rw [if_neg c49] at H
    have c49b0 : (a0_0 == 7) = false := beq_eq_false_iff_ne.mpr c49
    have c49b1 : (a0_0 != 7) = true := bne_iff_ne.mpr c49
    (first | rw [c49b0] | (simp only [i64_w, i32_w]; rw [c49b0]) | rw [c49b2] | skip)
    have H' := Aside0.mk H
    clear H
    go_wp2
    go_meet
    case rel => exact ⟨_, ((a0_0 == 8)), sr, H', ⟨by have := HJ33.out; first | omega | exact Nat.le_refl _⟩, ⟨by exact sT BK167.out⟩, ⟨sb⟩⟩
   case rest =>
    clear HC48
    try clear c1
    try clear c2
    try clear c2b0
    try clear c2b1
    try clear p2
    try clear c3
    try clear c4
    try clear c12
    try clear c12b0
    try clear c12b1
    try clear c14
    try clear c15
    try clear c23
    try clear c23b0
    try clear c23b1
    try clear c25
    try clear c37
    try clear c37b0
    try clear c37b1
    try clear c37b2
    try clear c38
    try clear c38b0
    try clear c38b1
    try clear c39
    try clear c41
    try clear c49
    try clear c49b0
    try clear c49b1
    try clear c49b2
    try clear hcz10_0
    try clear hcz10_1
    try clear hcz10_2
    try clear hcz10_3
    try clear hcz17_0
    try clear hcz17_1
    try clear hcz17_2
    try clear hcz17_3
    try clear hcz19_0
    try clear hcz19_1
    try clear hcz19_2
    try clear hcz19_3
    try clear hcz21_0
    try clear hcz21_1
    try clear hcz21_2
    try clear hcz21_3
    try clear hcz28_0
    try clear hcz28_1
    try clear hcz28_2
    try clear hcz28_3
    try clear hcz30_0
    try clear hcz30_1
    try clear hcz30_2
    try clear hcz30_3
    try clear hcz32_0
    try clear hcz32_1
    try clear hcz32_2
    try clear hcz32_3
    try clear hcz36_0
    try clear hcz36_1
    try clear hcz36_2
    try clear hcz36_3
    try clear hcz43_0
    try clear hcz43_1
    try clear hcz43_2
    try clear hcz43_3
    try clear hcz45_0
    try clear hcz45_1
    try clear hcz45_2
    try clear hcz45_3
    try clear hcz46_0
    try clear hcz46_1
    try clear hcz46_2
    try clear hcz46_3
    try clear hcz6_0
    try clear hcz6_1
    try clear hcz6_2
    try clear hcz6_3
    try clear hcz8_0
    try clear hcz8_1
    try clear hcz8_2
    try clear hcz8_3
    try clear hfz10_0
    try clear hfz10_1
    try clear hfz10_2
    try clear hfz10_3
    try clear hfz17_0
    try clear hfz17_1
    try clear hfz17_2
    try clear hfz17_3
    try clear hfz19_0
    try clear hfz19_1
    try clear hfz19_2
    try clear hfz19_3
    try clear hfz21_0
    try clear hfz21_1
    try clear hfz21_2
    try clear hfz21_3
    try clear hfz28_0
    try clear hfz28_1
    try clear hfz28_2
    try clear hfz28_3
    try clear hfz30_0
    try clear hfz30_1
    try clear hfz30_2
    try clear hfz30_3
    try clear hfz32_0
    try clear hfz32_1
    try clear hfz32_2
    try clear hfz32_3
    try clear hfz36_0
    try clear hfz36_1
    try clear hfz36_2
    try clear hfz36_3
    try clear hfz43_0
    try clear hfz43_1
    try clear hfz43_2
    try clear hfz43_3
    try clear hfz45_0
    try clear hfz45_1
    try clear hfz45_2
    try clear hfz45_3
    try clear hfz46_0
    try clear hfz46_1
    try clear hfz46_2
    try clear hfz46_3
    try clear hfz6_0
    try clear hfz6_1
    try clear hfz6_2
    try clear hfz6_3
    try clear hfz8_0
    try clear hfz8_1
    try clear hfz8_2
    try clear hfz8_3
    try clear p2
    obtain ⟨kq, x45_47, rfl, HA, HJ47, BK167, HB⟩ := hcut
    cases kq with
    | zero => exact absurd HA.out (by simp [spec_ValidValue.j1])
    | succ kj47 =>
     have H := HA.out
     clear HA
     simp only [spec_ValidValue.j1] at H
     by_cases c50 : x45_47 = true
     ·subst c50
      rewrite [if_pos rfl] at H
      obtain ⟨t175, A51, H⟩ := sO H
      by_cases c52 : t175 = true
      ·subst c52
       rewrite [if_pos rfl] at H
       obtain ⟨t176, A53, H⟩ := sO H
       obtain rfl := Option.some.inj H
       obtain ⟨hcz54_0, hcz54_1, hcz54_2, hcz54_3, hfz54_0, hfz54_1, hfz54_2, hfz54_3⟩ := cells4 BK167.out
       go_wp2_with (first | ((with_reducible refine gate_callee (f := 155) rfl ?_); refine sC (some 49) Try.func155 #[.agg #[.int .i64 a0_0, .int .i64 a0_1, .string a0_2, .int .i64 a0_3], .bool false, .bool true, .bool false] (spec_l06Plain.calls a0_0 a0_1 a0_2 a0_3 false true false true _ A51.out) ?_; rintro e w55 ⟨rfl, hb⟩; refine ⟨_, rfl, ?_⟩; have n0_ := sK BK167 hb; have n1_ := sB HB hb; clear BK167; clear HB; have BK167 := n0_; have HB := n1_; clear n0_ n1_; (try clear hb); (try clear hb2); (try clear hk); (try clear hi); obtain ⟨hcz56_0, hcz56_1, hcz56_2, hcz56_3, hfz56_0, hfz56_1, hfz56_2, hfz56_3⟩ := cells4 BK167.out) | (go_at_call 121; (with_reducible refine (spec_IsName.calls kj47 a0_2 t176 _ A53.out).mono ?_); rintro e w' ⟨rfl, ⟨nd, rfl⟩⟩))
       go_ret
       exact ⟨sq, sb⟩
      replace c52 := Bool.eq_false_iff.mpr c52
      subst c52
      rewrite [if_neg (show ¬ (false = true) by decide)] at H
      obtain rfl := Option.some.inj H
      obtain ⟨hcz57_0, hcz57_1, hcz57_2, hcz57_3, hfz57_0, hfz57_1, hfz57_2, hfz57_3⟩ := cells4 BK167.out
      go_wp2_with (first | ((with_reducible refine gate_callee (f := 155) rfl ?_); refine sC (some 49) Try.func155 #[.agg #[.int .i64 a0_0, .int .i64 a0_1, .string a0_2, .int .i64 a0_3], .bool false, .bool true, .bool false] (spec_l06Plain.calls a0_0 a0_1 a0_2 a0_3 false true false false _ A51.out) ?_; rintro e w58 ⟨rfl, hb⟩; refine ⟨_, rfl, ?_⟩; have n0_ := sK BK167 hb; have n1_ := sB HB hb; clear BK167; clear HB; have BK167 := n0_; have HB := n1_; clear n0_ n1_; (try clear hb); (try clear hb2); (try clear hk); (try clear hi)))
      go_ret
      exact ⟨sq, sb⟩
     replace c50 := Bool.eq_false_iff.mpr c50
     subst c50
     rewrite [if_neg (show ¬ (false = true) by decide)] at H
     obtain rfl := Option.some.inj H
     go_wp2
     go_ret
     exact ⟨sq, sb⟩
end

section
attribute [local go_sem high] eqA29
/-! ### spec_l07ValidValues: function 118 -/
def spec_l07ValidValues.l0 : Nat → List (S29) → Int → Option (Bool)
 | 0, _, _ => none
 | k + 1, x0, x5 => if x5 < (x0.length : Int) then (if 0 ≤ x5 then ((spec_ValidValue.f k ((rd_T29 x0 x5).f0) ((rd_T29 x0 x5).f1) ((rd_T29 x0 x5).f2) ((rd_T29 x0 x5).f3)).bind fun t178 => (if t178 = true then (spec_l07ValidValues.l0 k x0 (wrap64 (x5 + 1))) else (some false))) else (none)) else (some true)
def spec_l07ValidValues.f (k : Nat) (l0 : List (S29)) (a1 : Int) : Option (Bool) := if (l0.length : Int) > a1 then (some false) else (spec_l07ValidValues.l0 k l0 0)
set_option maxHeartbeats 8000000 in
set_option maxRecDepth 100000 in
theorem spec_l07ValidValues.calls (k : Nat) (A0 : Option Addr) (c0 : Nat) (l0 : List (S29)) (a1 : Int) (r : Bool) (w : World) (hr0 : Kd.C k29 w A0 l0.length l0) (hc0 : l0.length ≤ c0) (h : spec_l07ValidValues.f k l0 a1 = some r) :
  Calls Try.prog 118 #[.slice A0 l0.length c0, .int .i64 a1] w fun e w' => e = .returned (.bool r) ∧ Below w.heap.size w w' := by
 have hu29 := Try.underlying29
 have HR0 := Aside0.mk hr0
 have HC0 := Aside0.mk hc0
 clear hr0 hc0
 have HB := Aside0.mk (Below.refl w.heap.size w)
 have H : (if (l0.length : Int) > a1 then (some false) else (spec_l07ValidValues.l0 k l0 0)) = some r := h
 clear h
 by_cases c3 : (l0.length : Int) > a1
 ·rw [if_pos c3] at H
  have c3b0 : decide (a1 < (l0.length : Int)) = true := decide_eq_true c3
  clear c3
  obtain rfl := Option.some.inj H
  go_enter Try.func118, Try.ntmps118
  go_wp2
  go_ret
  exact ⟨sq, sb⟩
 rw [if_neg c3] at H
 have c3b0 : decide (a1 < (l0.length : Int)) = false := decide_eq_false c3
 clear c3
 have H' := Aside0.mk H
 clear H
 go_enter Try.func118, Try.ntmps118
 go_wp2
 go_loopg [5] k (fun kq v5 w' => ∃ (x5_1 : Int), v5 = .int .i64 x5_1 ∧ Aside0 (spec_l07ValidValues.l0 kq l0 x5_1 = some r) ∧ Aside0 (kq ≤ k) ∧ Aside0 (Below w.heap.size w w'))
 case atStart => exact ⟨(0), sr, H', ⟨Nat.le_refl _⟩, ⟨sb⟩⟩
 case round =>
  clear H'
  try clear c1
  try clear p2
  try clear c3
  try clear c3b0
  obtain ⟨x5_1, rfl, HA, HK1, HB⟩ := hrel
  cases gk with
  | zero => exact absurd HA.out (by simp [spec_l07ValidValues.l0])
  | succ k1 =>
   have H := HA.out
   clear HA
   simp only [spec_l07ValidValues.l0] at H
   by_cases c4 : x5_1 < (l0.length : Int)
   ·rw [if_pos c4] at H
    have c4b0 := decide_eq_true c4
    clear c4
    by_cases c5 : 0 ≤ x5_1
    ·rw [if_pos c5] at H
     have c5b0 := decide_eq_true c5
     clear c5
     obtain ⟨t178, A6, H⟩ := sO H
     by_cases c7 : t178 = true
     ·subst c7
      rewrite [if_pos rfl] at H
      have H' := Aside0.mk H
      clear H
      have p177 : 0 ≤ (x5_1 : Int) := of_decide_eq_true (by first | (with_reducible assumption) | assumption)
      have q177 : x5_1 < (l0.length : Int) := of_decide_eq_true (by first | (with_reducible assumption) | assumption)
      obtain ⟨ad177, e177, hx177_0, hx177_1, hx177_2, hx177_3⟩ := at_T29 HR0.out x5_1 p177 q177
      cases e177
      replace hx177_0 := sX HB hx177_0
      replace hx177_1 := sX HB hx177_1
      replace hx177_2 := sX HB hx177_2
      replace hx177_3 := sX HB hx177_3
      replace p177 := eq_true p177
      replace q177 := eq_true q177
      go_wp2_with (first | ((with_reducible refine gate_callee (f := 120) rfl ?_); refine sC (some 20) Try.func120 #[.agg #[.int .i64 ((rd_T29 l0 x5_1).f0), .int .i64 ((rd_T29 l0 x5_1).f1), .string ((rd_T29 l0 x5_1).f2), .int .i64 ((rd_T29 l0 x5_1).f3)]] (spec_ValidValue.calls k1 ((rd_T29 l0 x5_1).f0) ((rd_T29 l0 x5_1).f1) ((rd_T29 l0 x5_1).f2) ((rd_T29 l0 x5_1).f3) true _ A6.out) ?_; rintro e w8 ⟨rfl, hb⟩; refine ⟨_, rfl, ?_⟩; have n0_ := sB HB hb; clear HB; have HB := n0_; clear n0_; (try clear hb); (try clear hb2); (try clear hk); (try clear hi)))
      go_roundg k1
      case measure => have := HK1.out; omega
      case rel => exact ⟨(wrap64 (x5_1 + 1)), sr, H', ⟨by have := HK1.out; omega⟩, ⟨sb⟩⟩
     replace c7 := Bool.eq_false_iff.mpr c7
     subst c7
     rewrite [if_neg (show ¬ (false = true) by decide)] at H
     obtain rfl := Option.some.inj H
     have p177 : 0 ≤ (x5_1 : Int) := of_decide_eq_true (by first | (with_reducible assumption) | assumption)
     have q177 : x5_1 < (l0.length : Int) := of_decide_eq_true (by first | (with_reducible assumption) | assumption)
     obtain ⟨ad177, e177, hx177_0, hx177_1, hx177_2, hx177_3⟩ := at_T29 HR0.out x5_1 p177 q177
     cases e177
     replace hx177_0 := sX HB hx177_0
     replace hx177_1 := sX HB hx177_1
     replace hx177_2 := sX HB hx177_2
     replace hx177_3 := sX HB hx177_3
     replace p177 := eq_true p177
     replace q177 := eq_true q177
     go_wp2_with (first | ((with_reducible refine gate_callee (f := 120) rfl ?_); refine sC (some 20) Try.func120 #[.agg #[.int .i64 ((rd_T29 l0 x5_1).f0), .int .i64 ((rd_T29 l0 x5_1).f1), .string ((rd_T29 l0 x5_1).f2), .int .i64 ((rd_T29 l0 x5_1).f3)]] (spec_ValidValue.calls k1 ((rd_T29 l0 x5_1).f0) ((rd_T29 l0 x5_1).f1) ((rd_T29 l0 x5_1).f2) ((rd_T29 l0 x5_1).f3) false _ A6.out) ?_; rintro e w9 ⟨rfl, hb⟩; refine ⟨_, rfl, ?_⟩; have n0_ := sB HB hb; clear HB; have HB := n0_; clear n0_; (try clear hb); (try clear hb2); (try clear hk); (try clear hi)))
     go_ret
     exact ⟨sq, sb⟩
    rw [if_neg c5] at H
    exact absurd H (by simp)
   rw [if_neg c4] at H
   have c4b0 := decide_eq_false c4
   clear c4
   obtain rfl := Option.some.inj H
   go_wp2
   go_ret
   exact ⟨sq, sb⟩
end

section
attribute [local go_sem high] eqA29
/-! ### spec_l07FieldNames: function 122 -/
def spec_l07FieldNames.l0 : Nat → List (S29) → Int → Option (Bool)
 | 0, _, _ => none
 | k + 1, x0, x3 => if x3 < (x0.length : Int) then (if 0 ≤ x3 then (if ((rd_T29 x0 x3).f0) = 1 then ((spec_IsName.f k ((rd_T29 x0 x3).f2)).bind fun t186 => (if t186 = true then (spec_l07FieldNames.l0 k x0 (wrap64 (x3 + 1))) else (some false))) else (some false)) else (none)) else (if (x0.length : Int) ≥ 1 then ((spec_l07ValidValues.f k x0 6).bind fun t187 => (if t187 = true then ((spec_l07Distinct.f k x0).bind fun t188 => (some t188)) else (some false))) else (some false))
def spec_l07FieldNames.f (k : Nat) (l0 : List (S29)) : Option (Bool) := spec_l07FieldNames.l0 k l0 0
set_option maxHeartbeats 8000000 in
set_option maxRecDepth 100000 in
theorem spec_l07FieldNames.calls (k : Nat) (A0 : Option Addr) (c0 : Nat) (l0 : List (S29)) (r : Bool) (w : World) (hr0 : Kd.C k29 w A0 l0.length l0) (hc0 : l0.length ≤ c0) (h : spec_l07FieldNames.f k l0 = some r) :
  Calls Try.prog 122 #[.slice A0 l0.length c0] w fun e w' => e = .returned (.bool r) ∧ Below w.heap.size w w' := by
 have HR0 := Aside0.mk hr0
 have HC0 := Aside0.mk hc0
 clear hr0 hc0
 have HB := Aside0.mk (Below.refl w.heap.size w)
 have H : (spec_l07FieldNames.l0 k l0 0) = some r := h
 clear h
 have H' := Aside0.mk H
 clear H
 go_enter Try.func122, Try.ntmps122
 go_wp2
 go_loopg [3] k (fun kq v3 w' => ∃ (x3_1 : Int), v3 = .int .i64 x3_1 ∧ Aside0 (spec_l07FieldNames.l0 kq l0 x3_1 = some r) ∧ Aside0 (kq ≤ k) ∧ Aside0 (Below w.heap.size w w'))
 case atStart => exact ⟨(0), sr, H', ⟨Nat.le_refl _⟩, ⟨sb⟩⟩
 case round =>
  clear H'
  try clear c1
  obtain ⟨x3_1, rfl, HA, HK1, HB⟩ := hrel
  cases gk with
  | zero => exact absurd HA.out (by simp [spec_l07FieldNames.l0])
  | succ k1 =>
   have H := HA.out
   clear HA
   simp only [spec_l07FieldNames.l0] at H
   by_cases c2 : x3_1 < (l0.length : Int)
   ·rw [if_pos c2] at H
    have c2b0 := decide_eq_true c2
    clear c2
    by_cases c3 : 0 ≤ x3_1
    ·rw [if_pos c3] at H
     have c3b0 := decide_eq_true c3
     clear c3
     by_cases c4 : ((rd_T29 l0 x3_1).f0) = 1
     ·rw [if_pos c4] at H
      have c4b0 : (((rd_T29 l0 x3_1).f0) == 1) = true := beq_iff_eq.mpr c4
      have c4b1 : (((rd_T29 l0 x3_1).f0) != 1) = false := bne_eq_false_iff_eq.mpr c4
      clear c4
      obtain ⟨t186, A5, H⟩ := sO H
      by_cases c6 : t186 = true
      ·subst c6
       rewrite [if_pos rfl] at H
       have H' := Aside0.mk H
       clear H
       have p184 : 0 ≤ (x3_1 : Int) := of_decide_eq_true (by first | (with_reducible assumption) | assumption)
       have q184 : x3_1 < (l0.length : Int) := of_decide_eq_true (by first | (with_reducible assumption) | assumption)
       obtain ⟨ad184, e184, hx184_0, hx184_1, hx184_2, hx184_3⟩ := at_T29 HR0.out x3_1 p184 q184
       cases e184
       replace hx184_0 := sX HB hx184_0
       replace hx184_1 := sX HB hx184_1
       replace hx184_2 := sX HB hx184_2
       replace hx184_3 := sX HB hx184_3
       replace p184 := eq_true p184
       replace q184 := eq_true q184
       have p185 : 0 ≤ (x3_1 : Int) := of_decide_eq_true (by first | (with_reducible assumption) | assumption)
       have q185 : x3_1 < (l0.length : Int) := of_decide_eq_true (by first | (with_reducible assumption) | assumption)
       obtain ⟨ad185, e185, hx185_0, hx185_1, hx185_2, hx185_3⟩ := at_T29 HR0.out x3_1 p185 q185
       obtain rfl : ad184 = ad185 := (by injection e185)
       replace hx185_0 := sX HB hx185_0
       replace hx185_1 := sX HB hx185_1
       replace hx185_2 := sX HB hx185_2
       replace hx185_3 := sX HB hx185_3
       replace p185 := eq_true p185
       replace q185 := eq_true q185
       go_wp2_with (first | (go_at_call 121; (with_reducible refine (spec_IsName.calls k1 ((rd_T29 l0 x3_1).f2) true _ A5.out).mono ?_); rintro e w' ⟨rfl, ⟨nd, rfl⟩⟩))
       go_roundg k1
       case measure => have := HK1.out; omega
       case rel => exact ⟨(wrap64 (x3_1 + 1)), sr, H', ⟨by have := HK1.out; omega⟩, ⟨sb⟩⟩
      replace c6 := Bool.eq_false_iff.mpr c6
      subst c6
      rewrite [if_neg (show ¬ (false = true) by decide)] at H
      obtain rfl := Option.some.inj H
      have p184 : 0 ≤ (x3_1 : Int) := of_decide_eq_true (by first | (with_reducible assumption) | assumption)
      have q184 : x3_1 < (l0.length : Int) := of_decide_eq_true (by first | (with_reducible assumption) | assumption)
      obtain ⟨ad184, e184, hx184_0, hx184_1, hx184_2, hx184_3⟩ := at_T29 HR0.out x3_1 p184 q184
      cases e184
      replace hx184_0 := sX HB hx184_0
      replace hx184_1 := sX HB hx184_1
      replace hx184_2 := sX HB hx184_2
      replace hx184_3 := sX HB hx184_3
      replace p184 := eq_true p184
      replace q184 := eq_true q184
      have p185 : 0 ≤ (x3_1 : Int) := of_decide_eq_true (by first | (with_reducible assumption) | assumption)
      have q185 : x3_1 < (l0.length : Int) := of_decide_eq_true (by first | (with_reducible assumption) | assumption)
      obtain ⟨ad185, e185, hx185_0, hx185_1, hx185_2, hx185_3⟩ := at_T29 HR0.out x3_1 p185 q185
      obtain rfl : ad184 = ad185 := (by injection e185)
      replace hx185_0 := sX HB hx185_0
      replace hx185_1 := sX HB hx185_1
      replace hx185_2 := sX HB hx185_2
      replace hx185_3 := sX HB hx185_3
      replace p185 := eq_true p185
      replace q185 := eq_true q185
      go_wp2_with (first | (go_at_call 121; (with_reducible refine (spec_IsName.calls k1 ((rd_T29 l0 x3_1).f2) false _ A5.out).mono ?_); rintro e w' ⟨rfl, ⟨nd, rfl⟩⟩))
      go_ret
      exact ⟨sq, sb⟩
     rw [if_neg c4] at H
     have c4b0 : (((rd_T29 l0 x3_1).f0) == 1) = false := beq_eq_false_iff_ne.mpr c4
     have c4b1 : (((rd_T29 l0 x3_1).f0) != 1) = true := bne_iff_ne.mpr c4
     obtain rfl := Option.some.inj H
     have p184 : 0 ≤ (x3_1 : Int) := of_decide_eq_true (by first | (with_reducible assumption) | assumption)
     have q184 : x3_1 < (l0.length : Int) := of_decide_eq_true (by first | (with_reducible assumption) | assumption)
     obtain ⟨ad184, e184, hx184_0, hx184_1, hx184_2, hx184_3⟩ := at_T29 HR0.out x3_1 p184 q184
     cases e184
     replace hx184_0 := sX HB hx184_0
     replace hx184_1 := sX HB hx184_1
     replace hx184_2 := sX HB hx184_2
     replace hx184_3 := sX HB hx184_3
     replace p184 := eq_true p184
     replace q184 := eq_true q184
     go_wp2
     go_ret
     exact ⟨sq, sb⟩
    rw [if_neg c3] at H
    exact absurd H (by simp)
   rw [if_neg c2] at H
   have c2b0 := decide_eq_false c2
   clear c2
   by_cases c7 : (l0.length : Int) ≥ 1
   ·rw [if_pos c7] at H
    have c7b0 : decide (1 ≤ (l0.length : Int)) = true := decide_eq_true c7
    have c7b1 : decide (1 ≤ l0.length) = true := decide_eq_true (by omega)
    clear c7
    obtain ⟨t187, A8, H⟩ := sO H
    by_cases c9 : t187 = true
    ·subst c9
     rewrite [if_pos rfl] at H
     obtain ⟨t188, A10, H⟩ := sO H
     obtain rfl := Option.some.inj H
     go_wp2_with (first | (go_at_call 118; (with_reducible refine (spec_l07ValidValues.calls k1 _ _ l0 6 true _ ?side1 ?side2 A8.out).mono ?_); (case side1 => exact sD (Kd.C_below HR0.out HB.out)); (case side2 => exact HC0.out); rintro e w11 ⟨rfl, hb⟩; have n0_ := sB HB hb; clear HB; have HB := n0_; clear n0_; (try clear hb); (try clear hb2); (try clear hk); (try clear hi)) | (go_at_call 119; (with_reducible refine (spec_l07Distinct.calls k1 _ _ l0 t188 _ ?side1 ?side2 A10.out).mono ?_); (case side1 => exact sD (Kd.C_below HR0.out HB.out)); (case side2 => exact HC0.out); rintro e w12 ⟨rfl, hb⟩; have n0_ := sB HB hb; clear HB; have HB := n0_; clear n0_; (try clear hb); (try clear hb2); (try clear hk); (try clear hi)))
     go_ret
     exact ⟨sq, sb⟩
    replace c9 := Bool.eq_false_iff.mpr c9
    subst c9
    rewrite [if_neg (show ¬ (false = true) by decide)] at H
    obtain rfl := Option.some.inj H
    go_wp2_with (first | (go_at_call 118; (with_reducible refine (spec_l07ValidValues.calls k1 _ _ l0 6 false _ ?side1 ?side2 A8.out).mono ?_); (case side1 => exact sD (Kd.C_below HR0.out HB.out)); (case side2 => exact HC0.out); rintro e w13 ⟨rfl, hb⟩; have n0_ := sB HB hb; clear HB; have HB := n0_; clear n0_; (try clear hb); (try clear hb2); (try clear hk); (try clear hi)))
    go_ret
    exact ⟨sq, sb⟩
   rw [if_neg c7] at H
   have c7b0 : decide (1 ≤ (l0.length : Int)) = false := decide_eq_false c7
   have c7b1 : decide (1 ≤ l0.length) = false := decide_eq_false (by omega)
   clear c7
   obtain rfl := Option.some.inj H
   go_wp2
   go_ret
   exact ⟨sq, sb⟩
end
end Go.Proofs.Ytnjkhdhaiicefaa.PFnExactGetField
