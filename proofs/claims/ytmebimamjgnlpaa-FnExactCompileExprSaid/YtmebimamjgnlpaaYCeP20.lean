/- Printed functions: laws_FnExactCompileExpr. -/
import Derived.Test.YtmebimamjgnlpaaYCeP0
import Derived.Test.YtmebimamjgnlpaaYCeP1
import Derived.Test.YtmebimamjgnlpaaYCeP2
import Derived.Test.YtmebimamjgnlpaaYCeP7
import Derived.Test.YtmebimamjgnlpaaYCeP14
import Derived.Test.YtmebimamjgnlpaaYCeP15
import Derived.Test.YtmebimamjgnlpaaYCeP16
import Derived.Test.YtmebimamjgnlpaaYCeP17
import Derived.Test.YtmebimamjgnlpaaYCeP18
import Derived.Test.YtmebimamjgnlpaaYCeP19
namespace Go.Proofs.Ytmebimamjgnlpaa.PFnExactCompileExpr
open Go.RowKit Go.Proofs.YtmebimamjgnlpaaG Go.Proofs.YtmebimamjgnlpaaW.PrintWords Go.Proofs.YtmebimamjgnlpaaW.PrintLast Go.Proofs.YtmebimamjgnlpaaW.PrintMore
attribute [local go_sem] max2_int min2_int max_two min_two max_three min_three max_four min_four   -- for this text's walks alone
set_option linter.unusedVariables false
set_option linter.unusedSimpArgs false
/-! ### laws_FnExactCompileExpr: function 5 -/
def laws_FnExactCompileExpr.j0 : Nat → List (S89) → List (S89) → Bool → Int → Int → ByteArray → List (S38) → Option (Bool)
 | 0, _, _, _, _, _, _, _ => none
 | k + 1, x4, x6, x42, x334000, x334001, x334002, x334003 => if x42 = true then (some false) else ((laws_markInstrS.f k x6 1).bind fun bt364 => ((laws_heldInstrS.f k bt364.2 1).bind fun t366 => (if t366 < 0 then (some false) else (if t366 = bt364.1 then ((laws_toExpr.f k x334000 x334001 x334002 x334003).bind fun bt367 => ((impl_CompileExpr.f k bt367.1 bt367.2.1 bt367.2.2.1 bt367.2.2.2).bind fun t373 => ((laws_eqInstrS.f k t373 x4).bind fun t376 => (if t376 = true then ((laws_heldInstrS.f k bt364.2 1).bind fun t377 => (if t377 < 0 then (some false) else (if t377 = bt364.1 then (some true) else (some false)))) else (some false))))) else (some false)))))
def laws_FnExactCompileExpr.f (k : Nat) (a0_0 : Int) (a0_1 : Int) (a0_2 : ByteArray) (l0_3 : List (S38)) : Option (Bool) := (laws_szExpr.f k a0_0 a0_1 a0_2 l0_3 1048576).bind fun t334 => (if t334 < 0 then (some true) else ((laws_toExpr.f k a0_0 a0_1 a0_2 l0_3).bind fun bt335 => ((spec_CompileExpr.f k bt335.1 bt335.2.1 bt335.2.2.1 bt335.2.2.2).bind fun t341 => ((laws_toExpr.f k a0_0 a0_1 a0_2 l0_3).bind fun bt344 => ((impl_CompileExpr.f k bt344.1 bt344.2.1 bt344.2.2.1 bt344.2.2.2).bind fun t351 => ((laws_eqInstrS.f k t351 t341).bind fun t354 => (if t354 = true then ((laws_toExpr.f k a0_0 a0_1 a0_2 l0_3).bind fun bt355 => ((laws_eqExpr.f k bt344.1 bt344.2.1 bt344.2.2.1 bt344.2.2.2 bt355.1 bt355.2.1 bt355.2.2.1 bt355.2.2.2).bind fun t361 => (if t361 = true then ((laws_markExpr.f bt344.1 bt344.2.1 bt344.2.2.1 bt344.2.2.2 1).bind fun t362 => (if t362 < 0 then (laws_FnExactCompileExpr.j0 k t341 t351 true a0_0 a0_1 a0_2 l0_3) else ((laws_eqInstrS.f k t351 t341).bind fun t363 => (laws_FnExactCompileExpr.j0 k t341 t351 (!t363) a0_0 a0_1 a0_2 l0_3)))) else (some false)))) else (some false))))))))
set_option maxHeartbeats 8000000 in
set_option maxRecDepth 100000 in
theorem laws_FnExactCompileExpr.calls (k : Nat) (a0_0 : Int) (a0_1 : Int) (a0_2 : ByteArray) (A0_3 : Option Addr) (c0_3 : Nat) (l0_3 : List (S38)) (w : World) (hr0_3 : Kd.C k38 w A0_3 l0_3.length l0_3) (hc0_3 : l0_3.length ≤ c0_3) (h : laws_FnExactCompileExpr.f k a0_0 a0_1 a0_2 l0_3 = some true) :
  Calls Try.prog 5 #[.agg #[.int .i64 a0_0, .int .i64 a0_1, .string a0_2, .slice A0_3 l0_3.length c0_3]] w fun e w' => e = .returned (.bool true) ∧ Below w.heap.size w w' := by
 have hu38 := Try.underlying38
 have hu26 := Try.underlying26
 have HR0_3 := Aside0.mk hr0_3
 have HC0_3 := Aside0.mk hc0_3
 clear hr0_3 hc0_3
 have HB := Aside0.mk (Below.refl w.heap.size w)
 have H : ((laws_szExpr.f k a0_0 a0_1 a0_2 l0_3 1048576).bind fun t334 => (if t334 < 0 then (some true) else ((laws_toExpr.f k a0_0 a0_1 a0_2 l0_3).bind fun bt335 => ((spec_CompileExpr.f k bt335.1 bt335.2.1 bt335.2.2.1 bt335.2.2.2).bind fun t341 => ((laws_toExpr.f k a0_0 a0_1 a0_2 l0_3).bind fun bt344 => ((impl_CompileExpr.f k bt344.1 bt344.2.1 bt344.2.2.1 bt344.2.2.2).bind fun t351 => ((laws_eqInstrS.f k t351 t341).bind fun t354 => (if t354 = true then ((laws_toExpr.f k a0_0 a0_1 a0_2 l0_3).bind fun bt355 => ((laws_eqExpr.f k bt344.1 bt344.2.1 bt344.2.2.1 bt344.2.2.2 bt355.1 bt355.2.1 bt355.2.2.1 bt355.2.2.2).bind fun t361 => (if t361 = true then ((laws_markExpr.f bt344.1 bt344.2.1 bt344.2.2.1 bt344.2.2.2 1).bind fun t362 => (if t362 < 0 then (laws_FnExactCompileExpr.j0 k t341 t351 true a0_0 a0_1 a0_2 l0_3) else ((laws_eqInstrS.f k t351 t341).bind fun t363 => (laws_FnExactCompileExpr.j0 k t341 t351 (!t363) a0_0 a0_1 a0_2 l0_3)))) else (some false)))) else (some false))))))))) = some true := h
 clear h
 obtain ⟨t334, A2, H⟩ := sO H
 by_cases c3 : t334 < 0
 ·rw [if_pos c3] at H
  have c3b0 := decide_eq_true c3
  clear c3
  clear H
  go_enter Try.func5, Try.ntmps5
  go_wp2_with (first | ((with_reducible refine gate_dst (N := 1) rfl ?_); refine sV (N := 1) (cs := #[.int .i64 a0_0, .int .i64 a0_1, .string a0_2, .slice A0_3 l0_3.length c0_3]) (t := 38) ?_; intro gb333 hg w4 hbox hb; have n0_ := sB HB hb; have n1_ := Aside0.mk (hbox); have n2_ := sG HB hg; have n3_ := sG HB hg; clear HB; have HB := n0_; have BK333 := n1_; have GW333 := n2_; have GE333 := n3_; clear n0_ n1_ n2_ n3_; clear hb hbox hg; obtain ⟨hcz5_0, hcz5_1, hcz5_2, hcz5_3, hfz5_0, hfz5_1, hfz5_2, hfz5_3⟩ := cells4 BK333.out) | ((with_reducible refine gate_callee (f := 18) rfl ?_); refine sC (some 13) Try.func18 #[.agg #[.int .i64 a0_0, .int .i64 a0_1, .string a0_2, .slice A0_3 l0_3.length c0_3], .int .i64 1048576] (laws_szExpr.calls k a0_0 a0_1 a0_2 _ _ l0_3 1048576 t334 _ ?side1 ?side2 A2.out) ?_; (case side1 => exact sD (Kd.C_below HR0_3.out HB.out)); (case side2 => exact HC0_3.out); rintro e w6 ⟨rfl, hb⟩; refine ⟨_, rfl, ?_⟩; have n0_ := sK BK333 hb; have n1_ := sB HB hb; clear BK333; clear HB; have BK333 := n0_; have HB := n1_; clear n0_ n1_; (try clear hb); (try clear hb2); (try clear hk); (try clear hi)))
  go_ret
  exact ⟨sq, sb⟩
 rw [if_neg c3] at H
 have c3b0 := decide_eq_false c3
 clear c3
 replace H := Option.bind_eq_some_iff.mp H
 obtain ⟨⟨t335, t336, t337, t338⟩, A70, H⟩ := H
 replace H : ((spec_CompileExpr.f k t335 t336 t337 t338).bind fun t341 => ((laws_toExpr.f k a0_0 a0_1 a0_2 l0_3).bind fun bt344 => ((impl_CompileExpr.f k bt344.1 bt344.2.1 bt344.2.2.1 bt344.2.2.2).bind fun t351 => ((laws_eqInstrS.f k t351 t341).bind fun t354 => (if t354 = true then ((laws_toExpr.f k a0_0 a0_1 a0_2 l0_3).bind fun bt355 => ((laws_eqExpr.f k bt344.1 bt344.2.1 bt344.2.2.1 bt344.2.2.2 bt355.1 bt355.2.1 bt355.2.2.1 bt355.2.2.2).bind fun t361 => (if t361 = true then ((laws_markExpr.f bt344.1 bt344.2.1 bt344.2.2.1 bt344.2.2.2 1).bind fun t362 => (if t362 < 0 then (laws_FnExactCompileExpr.j0 k t341 t351 true a0_0 a0_1 a0_2 l0_3) else ((laws_eqInstrS.f k t351 t341).bind fun t363 => (laws_FnExactCompileExpr.j0 k t341 t351 (!t363) a0_0 a0_1 a0_2 l0_3)))) else (some false)))) else (some false)))))) = some true := H
 have A7 := Aside0.mk A70
 clear A70
 obtain ⟨t341, A8, H⟩ := sO H
 replace H := Option.bind_eq_some_iff.mp H
 obtain ⟨⟨t344, t345, t346, t347⟩, A90, H⟩ := H
 replace H : ((impl_CompileExpr.f k t344 t345 t346 t347).bind fun t351 => ((laws_eqInstrS.f k t351 t341).bind fun t354 => (if t354 = true then ((laws_toExpr.f k a0_0 a0_1 a0_2 l0_3).bind fun bt355 => ((laws_eqExpr.f k t344 t345 t346 t347 bt355.1 bt355.2.1 bt355.2.2.1 bt355.2.2.2).bind fun t361 => (if t361 = true then ((laws_markExpr.f t344 t345 t346 t347 1).bind fun t362 => (if t362 < 0 then (laws_FnExactCompileExpr.j0 k t341 t351 true a0_0 a0_1 a0_2 l0_3) else ((laws_eqInstrS.f k t351 t341).bind fun t363 => (laws_FnExactCompileExpr.j0 k t341 t351 (!t363) a0_0 a0_1 a0_2 l0_3)))) else (some false)))) else (some false)))) = some true := H
 have A9 := Aside0.mk A90
 clear A90
 obtain ⟨t351, A10, H⟩ := sO H
 obtain ⟨t354, A11, H⟩ := sO H
 by_cases c12 : t354 = true
 ·subst c12
  rewrite [if_pos rfl] at H
  replace H := Option.bind_eq_some_iff.mp H
  obtain ⟨⟨t355, t356, t357, t358⟩, A130, H⟩ := H
  replace H : ((laws_eqExpr.f k t344 t345 t346 t347 t355 t356 t357 t358).bind fun t361 => (if t361 = true then ((laws_markExpr.f t344 t345 t346 t347 1).bind fun t362 => (if t362 < 0 then (laws_FnExactCompileExpr.j0 k t341 t351 true a0_0 a0_1 a0_2 l0_3) else ((laws_eqInstrS.f k t351 t341).bind fun t363 => (laws_FnExactCompileExpr.j0 k t341 t351 (!t363) a0_0 a0_1 a0_2 l0_3)))) else (some false))) = some true := H
  have A13 := Aside0.mk A130
  clear A130
  obtain ⟨t361, A14, H⟩ := sO H
  by_cases c15 : t361 = true
  ·subst c15
   rewrite [if_pos rfl] at H
   obtain ⟨t362, A16, H⟩ := sO H
   have HC17 := Aside0.mk H
   clear H
   go_enter Try.func5, Try.ntmps5
   try go_wp2_with (first | ((with_reducible refine gate_dst (N := 1) rfl ?_); refine sV (N := 1) (cs := #[.int .i64 a0_0, .int .i64 a0_1, .string a0_2, .slice A0_3 l0_3.length c0_3]) (t := 38) ?_; intro gb333 hg w18 hbox hb; have n0_ := sB HB hb; have n1_ := Aside0.mk (hbox); have n2_ := sG HB hg; have n3_ := sG HB hg; clear HB; have HB := n0_; have BK333 := n1_; have GW333 := n2_; have GE333 := n3_; clear n0_ n1_ n2_ n3_; clear hb hbox hg; obtain ⟨hcz19_0, hcz19_1, hcz19_2, hcz19_3, hfz19_0, hfz19_1, hfz19_2, hfz19_3⟩ := cells4 BK333.out) | ((with_reducible refine gate_callee (f := 18) rfl ?_); refine sC (some 13) Try.func18 #[.agg #[.int .i64 a0_0, .int .i64 a0_1, .string a0_2, .slice A0_3 l0_3.length c0_3], .int .i64 1048576] (laws_szExpr.calls k a0_0 a0_1 a0_2 _ _ l0_3 1048576 t334 _ ?side1 ?side2 A2.out) ?_; (case side1 => exact sD (Kd.C_below HR0_3.out HB.out)); (case side2 => exact HC0_3.out); rintro e w20 ⟨rfl, hb⟩; refine ⟨_, rfl, ?_⟩; have n0_ := sK BK333 hb; have n1_ := sB HB hb; clear BK333; clear HB; have BK333 := n0_; have HB := n1_; clear n0_ n1_; (try clear hb); (try clear hb2); (try clear hk); (try clear hi); obtain ⟨hcz21_0, hcz21_1, hcz21_2, hcz21_3, hfz21_0, hfz21_1, hfz21_2, hfz21_3⟩ := cells4 BK333.out) | ((with_reducible refine gate_callee (f := 20) rfl ?_); refine sC (some 17) Try.func20 #[.agg #[.int .i64 a0_0, .int .i64 a0_1, .string a0_2, .slice A0_3 l0_3.length c0_3]] (laws_toExpr.calls k a0_0 a0_1 a0_2 _ _ l0_3 t335 t336 t337 t338 _ ?side1 ?side2 A7.out) ?_; (case side1 => exact sD (Kd.C_below HR0_3.out HB.out)); (case side2 => exact HC0_3.out); rintro e w22 ⟨v339, rfl, ho0, hb⟩; refine ⟨_, rfl, ?_⟩; have n0_ := Aside0.mk (Kd.R_lower ho0 (below_size (by repeat (first | (with_reducible first | exact HB.out | apply below_alloc | apply pw_below_drewN | apply below_drew1 | refine below_set ?_ GE333.out) | exact HB.out)))); have n1_ := sK BK333 hb; have n2_ := sB HB hb; clear BK333; clear HB; have HO340 := n0_; have BK333 := n1_; have HB := n2_; clear n0_ n1_ n2_; (try clear hb); (try clear hb2); (try clear hk); (try clear hi); (try clear ho0); obtain ⟨Ao23, co23, eo23⟩ := Kd.R_slice HO340.out; subst eo23) | ((with_reducible refine gate_callee (f := 19) rfl ?_); refine sC (some 18) Try.func19 #[.agg #[.int .i64 t335, .int .i64 t336, .string t337, .slice Ao23 t338.length co23]] (spec_CompileExpr.calls k t335 t336 t337 _ _ t338 t341 _ ?side1 ?side2 A8.out) ?_; (case side1 => exact sD ((Kd.R_reads' HO340.out).2.2)); (case side2 => exact (Kd.R_reads' HO340.out).2.1); rintro e w24 ⟨v342, rfl, ho0, hb⟩; refine ⟨_, rfl, ?_⟩; have n0_ := Aside0.mk (Kd.R_below (sE HO340.out) hb); have n1_ := Aside0.mk (Kd.R_lower ho0 (below_size (by repeat (first | (with_reducible first | exact HB.out | apply below_alloc | apply pw_below_drewN | apply below_drew1 | refine below_set ?_ GE333.out) | exact HB.out)))); have n2_ := sK BK333 hb; have n3_ := sB HB hb; clear HO340; clear BK333; clear HB; have HO340 := n0_; have HO343 := n1_; have BK333 := n2_; have HB := n3_; clear n0_ n1_ n2_ n3_; (try clear hb); (try clear hb2); (try clear hk); (try clear hi); (try clear ho0); obtain ⟨hcz25_0, hcz25_1, hcz25_2, hcz25_3, hfz25_0, hfz25_1, hfz25_2, hfz25_3⟩ := cells4 BK333.out) | ((with_reducible refine gate_callee (f := 20) rfl ?_); refine sC (some 20) Try.func20 #[.agg #[.int .i64 a0_0, .int .i64 a0_1, .string a0_2, .slice A0_3 l0_3.length c0_3]] (laws_toExpr.calls k a0_0 a0_1 a0_2 _ _ l0_3 t344 t345 t346 t347 _ ?side1 ?side2 A9.out) ?_; (case side1 => exact sD (Kd.C_below HR0_3.out HB.out)); (case side2 => exact HC0_3.out); rintro e w26 ⟨v348, rfl, ho0, hb⟩; refine ⟨_, rfl, ?_⟩; have n0_ := Aside0.mk (Kd.R_elder' (sE HO340.out) (Kd.R_base ho0) hb); have n1_ := Aside0.mk (Kd.R_below (sE HO343.out) hb); have n2_ := Aside0.mk (Kd.R_lower (Kd.R_new' ho0 (Kd.R_lt (sE HO340.out))) (below_size (by repeat (first | (with_reducible first | exact HB.out | apply below_alloc | apply pw_below_drewN | apply below_drew1 | refine below_set ?_ GE333.out) | exact HB.out)))); have n3_ := sK BK333 hb; have n4_ := sB HB hb; clear HO340; clear HO343; clear BK333; clear HB; have HO340 := n0_; have HO343 := n1_; have HO349 := n2_; have BK333 := n3_; have HB := n4_; clear n0_ n1_ n2_ n3_ n4_; (try clear hb); (try clear hb2); (try clear hk); (try clear hi); (try clear ho0)) | ((with_reducible refine gate_dst (N := 5) rfl ?_); refine sV (N := 5) (cs := #[.int .i64 0, .int .i64 0, .string (⟨#[]⟩ : ByteArray), .slice none 0 0]) (t := 26) ?_; intro gb350 hg w27 hbox hb; have n0_ := Aside0.mk (Kd.R_below (Kd.R_elderB (sE HO340.out) gb350 (Nat.le_of_eq hg.symm)) hb); have n1_ := Aside0.mk (Kd.R_below (sE HO343.out) hb); have n2_ := Aside0.mk (Kd.R_below (Kd.R_elderB (sE HO349.out) gb350 (Nat.le_of_eq hg.symm)) hb); have n3_ := sK BK333 hb; have n4_ := sB HB hb; have n5_ := Aside0.mk (hbox); have n6_ := sG HB hg; have n7_ := sG HB hg; have n8_ := sN BK333 hg; have n9_ := sM BK333 hg; clear HO340; clear HO343; clear HO349; clear BK333; clear HB; have HO340 := n0_; have HO343 := n1_; have HO349 := n2_; have BK333 := n3_; have HB := n4_; have BK350 := n5_; have GW350 := n6_; have GE350 := n7_; have NB333_350 := n8_; have NB350_333 := n9_; clear n0_ n1_ n2_ n3_ n4_ n5_ n6_ n7_ n8_ n9_; clear hb hbox hg; have hnb28 := NB350_333.out; have hnc28 := NB333_350.out; obtain ⟨hcz29_0, hcz29_1, hcz29_2, hcz29_3, hfz29_0, hfz29_1, hfz29_2, hfz29_3⟩ := cells4 BK350.out; obtain ⟨Ao30, co30, eo30⟩ := Kd.R_slice HO349.out; subst eo30) | ((with_reducible refine gate_callee (f := 21) rfl ?_); refine sC (some 22) Try.func21 #[.agg #[.int .i64 t344, .int .i64 t345, .string t346, .slice Ao30 t347.length co30]] (impl_CompileExpr.calls k t344 t345 t346 _ _ t347 t351 _ ?side1 ?side2 A10.out) ?_; (case side1 => refine (Kd.R_reads' (e := 26) (base := w.heap.size) (ok := fun k_ => ((True ∧ some k_ ≠ (.slice Ao23 t338.length co23 : Value).ownBlock) ∧ k_ ≠ gb350)) (n := t347.length) (c := co30) ?_).2.2; exact (by (with_reducible repeat (first | apply Kd.R_alloc | apply Kd.R_drewN | apply Kd.R_drew)); exact (Kd.R_mono (Kd.R_far (p := ⟨gb350, 3, none⟩) (Kd.R_far (p := ⟨gb350, 2, none⟩) (Kd.R_far (p := ⟨gb350, 1, none⟩) (Kd.R_far (p := ⟨gb350, 0, none⟩) (Kd.R_mono HO349.out (fun k_ hk => (⟨hk, hk.2⟩ : _ ∧ k_ ≠ gb350))) (fun _ hk => hk.2) (.int .i64 t344)) (fun _ hk => hk.2) (.int .i64 t345)) (fun _ hk => hk.2) (.string t346)) (fun _ hk => hk.2) (.slice Ao30 t347.length co30)) (fun _ h_ => h_.1)))); (case side2 => exact (Kd.R_reads' HO349.out).2.1); rintro e w31 ⟨v352, rfl, ho0, hb⟩; refine ⟨_, rfl, ?_⟩; have n0_ := Aside0.mk (Kd.R_below (by (with_reducible repeat (first | apply Kd.R_alloc | apply Kd.R_drewN | apply Kd.R_drew)); exact (Kd.R_mono (Kd.R_far (p := ⟨gb350, 3, none⟩) (Kd.R_far (p := ⟨gb350, 2, none⟩) (Kd.R_far (p := ⟨gb350, 1, none⟩) (Kd.R_far (p := ⟨gb350, 0, none⟩) (Kd.R_mono HO340.out (fun k_ hk => (⟨hk, hk.2⟩ : _ ∧ k_ ≠ gb350))) (fun _ hk => hk.2) (.int .i64 t344)) (fun _ hk => hk.2) (.int .i64 t345)) (fun _ hk => hk.2) (.string t346)) (fun _ hk => hk.2) (.slice Ao30 t347.length co30)) (fun _ h_ => h_.1))) hb); have n1_ := Aside0.mk (Kd.R_elder' (by (with_reducible repeat (first | apply Kd.R_alloc | apply Kd.R_drewN | apply Kd.R_drew)); exact (Kd.R_mono (Kd.R_far (p := ⟨gb350, 3, none⟩) (Kd.R_far (p := ⟨gb350, 2, none⟩) (Kd.R_far (p := ⟨gb350, 1, none⟩) (Kd.R_far (p := ⟨gb350, 0, none⟩) (Kd.R_types HO343.out BK350.out (by decide)) (fun _ hk => hk.2) (.int .i64 t344)) (fun _ hk => hk.2) (.int .i64 t345)) (fun _ hk => hk.2) (.string t346)) (fun _ hk => hk.2) (.slice Ao30 t347.length co30)) (fun _ h_ => h_.1))) (Kd.R_base ho0) hb); have n2_ := Aside0.mk (Kd.R_below (by (with_reducible repeat (first | apply Kd.R_alloc | apply Kd.R_drewN | apply Kd.R_drew)); exact (Kd.R_mono (Kd.R_far (p := ⟨gb350, 3, none⟩) (Kd.R_far (p := ⟨gb350, 2, none⟩) (Kd.R_far (p := ⟨gb350, 1, none⟩) (Kd.R_far (p := ⟨gb350, 0, none⟩) (Kd.R_mono HO349.out (fun k_ hk => (⟨hk, hk.2⟩ : _ ∧ k_ ≠ gb350))) (fun _ hk => hk.2) (.int .i64 t344)) (fun _ hk => hk.2) (.int .i64 t345)) (fun _ hk => hk.2) (.string t346)) (fun _ hk => hk.2) (.slice Ao30 t347.length co30)) (fun _ h_ => h_.1))) hb); have n3_ := Aside0.mk (Kd.R_lower (Kd.R_new' ho0 (Kd.R_lt (by (with_reducible repeat (first | apply Kd.R_alloc | apply Kd.R_drewN | apply Kd.R_drew)); exact (Kd.R_mono (Kd.R_far (p := ⟨gb350, 3, none⟩) (Kd.R_far (p := ⟨gb350, 2, none⟩) (Kd.R_far (p := ⟨gb350, 1, none⟩) (Kd.R_far (p := ⟨gb350, 0, none⟩) (Kd.R_types HO343.out BK350.out (by decide)) (fun _ hk => hk.2) (.int .i64 t344)) (fun _ hk => hk.2) (.int .i64 t345)) (fun _ hk => hk.2) (.string t346)) (fun _ hk => hk.2) (.slice Ao30 t347.length co30)) (fun _ h_ => h_.1))))) (below_size (by repeat (first | (with_reducible first | exact HB.out | apply below_alloc | apply pw_below_drewN | apply below_drew1 | refine below_set ?_ GE333.out | refine below_set ?_ GE350.out) | exact HB.out)))); have n4_ := Aside0.mk (blk_below (g := gb333) (o := .cells #[.int .i64 a0_0, .int .i64 a0_1, .string a0_2, .slice A0_3 l0_3.length c0_3] 38 (0, 0)) (by (with_reducible repeat (first | refine blk_drewN ?_ _ | refine blk_drew ?_ | refine blk_alloc ?_ _)); refine blk_far ?_ NB333_350.out _; (with_reducible repeat (first | refine blk_drewN ?_ _ | refine blk_drew ?_ | refine blk_alloc ?_ _)); refine blk_far ?_ NB333_350.out _; (with_reducible repeat (first | refine blk_drewN ?_ _ | refine blk_drew ?_ | refine blk_alloc ?_ _)); refine blk_far ?_ NB333_350.out _; (with_reducible repeat (first | refine blk_drewN ?_ _ | refine blk_drew ?_ | refine blk_alloc ?_ _)); refine blk_far ?_ NB333_350.out _; exact sT BK333.out) hb); have n5_ := Aside0.mk (blk_below (g := gb350) (o := .cells #[.int .i64 t344, .int .i64 t345, .string t346, .slice Ao30 t347.length co30] 26 (0, 0)) (by exact sP4 (sT BK350.out)) hb); have n6_ := sB HB hb; clear HO340; clear HO343; clear HO349; clear BK333; clear BK350; clear HB; have HO340 := n0_; have HO343 := n1_; have HO349 := n2_; have HO353 := n3_; have BK333 := n4_; have BK350 := n5_; have HB := n6_; clear n0_ n1_ n2_ n3_ n4_ n5_ n6_; (try clear hb); (try clear hb2); (try clear hk); (try clear hi); (try clear ho0); obtain ⟨Ao32, co32, eo32⟩ := Kd.R_slice HO353.out; subst eo32; obtain ⟨Ao33, co33, eo33⟩ := Kd.R_slice HO343.out; subst eo33) | ((with_reducible refine gate_callee (f := 22) rfl ?_); refine sC (some 25) Try.func22 #[.slice Ao32 t351.length co32, .slice Ao33 t341.length co33] (laws_eqInstrS.calls k _ _ t351 _ _ t341 true _ ?side1 ?side2 ?side3 ?side4 A11.out) ?_; (case side1 => exact sD ((Kd.R_reads' HO353.out).2.2)); (case side2 => exact (Kd.R_reads' HO353.out).2.1); (case side3 => exact sD ((Kd.R_reads' HO343.out).2.2)); (case side4 => exact (Kd.R_reads' HO343.out).2.1); rintro e w34 ⟨rfl, hb⟩; refine ⟨_, rfl, ?_⟩; have n0_ := Aside0.mk (Kd.R_below (sE HO340.out) hb); have n1_ := Aside0.mk (Kd.R_below (sE HO343.out) hb); have n2_ := Aside0.mk (Kd.R_below (sE HO349.out) hb); have n3_ := Aside0.mk (Kd.R_below (sE HO353.out) hb); have n4_ := sK BK333 hb; have n5_ := sK BK350 hb; have n6_ := sB HB hb; clear HO340; clear HO343; clear HO349; clear HO353; clear BK333; clear BK350; clear HB; have HO340 := n0_; have HO343 := n1_; have HO349 := n2_; have HO353 := n3_; have BK333 := n4_; have BK350 := n5_; have HB := n6_; clear n0_ n1_ n2_ n3_ n4_ n5_ n6_; (try clear hb); (try clear hb2); (try clear hk); (try clear hi)))
   have n0_ := Aside0.mk (Kd.R_drew HO340.out)
   have n1_ := Aside0.mk (Kd.R_drew HO343.out)
   have n2_ := Aside0.mk (Kd.R_drew HO349.out)
   have n3_ := Aside0.mk (Kd.R_drew HO353.out)
   have n4_ := Aside0.mk (blk_drew BK333.out)
   have n5_ := Aside0.mk (blk_drew BK350.out)
   have n6_ := Aside0.mk (below_drew1 HB.out)
   clear HO340
   clear HO343
   clear HO349
   clear HO353
   clear BK333
   clear BK350
   clear HB
   have HO340 := n0_
   have HO343 := n1_
   have HO349 := n2_
   have HO353 := n3_
   have BK333 := n4_
   have BK350 := n5_
   have HB := n6_
   clear n0_ n1_ n2_ n3_ n4_ n5_ n6_
   refine start_ (n := 5) (S := fun w' => w'.cell? ⟨gb350, 0, none⟩ = some (.int .i64 t344) ∧ w'.cell? ⟨gb350, 1, none⟩ = some (.int .i64 t345) ∧ w'.cell? ⟨gb350, 2, none⟩ = some (.string t346) ∧ w'.cell? ⟨gb350, 3, none⟩ = some (.slice Ao30 t347.length co30) ∧ w'.cell? ⟨gb333, 0, none⟩ = some (.int .i64 a0_0) ∧ w'.cell? ⟨gb333, 1, none⟩ = some (.int .i64 a0_1) ∧ w'.cell? ⟨gb333, 2, none⟩ = some (.string a0_2) ∧ w'.cell? ⟨gb333, 3, none⟩ = some (.slice A0_3 l0_3.length c0_3)) (ds := []) #[false, false, false, false, false] (by kernel_rfl) rfl rfl ⟨(blk_cell BK350.out 0).trans rfl, (blk_cell BK350.out 1).trans rfl, (blk_cell BK350.out 2).trans rfl, (blk_cell BK350.out 3).trans rfl, (blk_cell BK333.out 0).trans rfl, (blk_cell BK333.out 1).trans rfl, (blk_cell BK333.out 2).trans rfl, (blk_cell BK333.out 3).trans rfl⟩ (fun hHeld => ?_)
   generalize w34.drew = w35 at HO340 HO343 HO349 HO353 BK333 BK350 HB hHeld ⊢
   refine take_ (i := 0) (N := some 27) (v := ?_) (a' := ?_) #[true, false, false, false, false] rfl rfl (by kernel_rfl) (fun _ _ _ h => h) (Or.inl ⟨by rfl, ?_⟩) hHeld ?_ ?_
   rotate_left
   ·rintro w' ⟨s0, s1, s2, s3, s4, s5, s6, s7⟩
    go_simp
    with_reducible rfl
   rotate_left
   ·simp only [Act.put, List.setIfInBounds_toArray, List.set_cons_zero, List.set_cons_succ, i64_w, i32_w]
    rfl
   refine take_ (i := 1) (N := some 28) (v := ?_) (a' := ?_) #[true, true, false, false, false] rfl rfl (by kernel_rfl) (fun _ _ _ h => h) (Or.inl ⟨by rfl, ?_⟩) hHeld ?_ ?_
   rotate_left
   ·rintro w' ⟨s0, s1, s2, s3, s4, s5, s6, s7⟩
    go_simp
    with_reducible rfl
   rotate_left
   ·simp only [Act.put, List.setIfInBounds_toArray, List.set_cons_zero, List.set_cons_succ, i64_w, i32_w]
    rfl
   refine one_ (i := 2) (N := some 29) #[true, true, true, false, false] rfl rfl (by kernel_rfl) (by decide) (fun K hK => ?_)
   refine goes_ Try.func20 (by kernel_rfl) rfl #[.agg #[.int .i64 a0_0, .int .i64 a0_1, .string a0_2, .slice A0_3 l0_3.length c0_3]] (by rfl) rfl rfl (by (try simp only [List.map_toArray, List.map_cons, List.map_nil]); first | done | rfl | (simp only [List.length_drop, List.length_take]; rfl)) ?_
   with_reducible refine (laws_toExpr.calls k a0_0 a0_1 a0_2 _ _ l0_3 t355 t356 t357 t358 _ ?side1 ?side2 A13.out).mono ?_
   (case side1 => exact sD (Kd.C_below HR0_3.out HB.out))
   (case side2 => exact HC0_3.out)
   rintro e w36 ⟨v359, rfl, ho0, hb⟩
   refine ⟨_, rfl, ?_⟩
   have n0_ := Aside0.mk (Kd.R_elder' (sE HO340.out) (Kd.R_base ho0) hb)
   have n1_ := Aside0.mk (Kd.R_below (sE HO343.out) hb)
   have n2_ := Aside0.mk (Kd.R_elder' (sE HO349.out) (Kd.R_base ho0) hb)
   have n3_ := Aside0.mk (Kd.R_below (sE HO353.out) hb)
   have n4_ := Aside0.mk (Kd.R_lower (Kd.R_newB (Kd.R_new' (Kd.R_new' ho0 (Kd.R_lt (sE HO340.out))) (Kd.R_lt (sE HO349.out))) (g := gb350) (o := .cells #[.int .i64 t344, .int .i64 t345, .string t346, .slice Ao30 t347.length co30] 26 (0, 0)) (sT BK350.out)) (below_size (by repeat (first | (with_reducible first | exact HB.out | apply below_alloc | apply pw_below_drewN | apply below_drew1 | refine below_set ?_ GE333.out | refine below_set ?_ GE350.out) | exact HB.out))))
   have n5_ := sK BK333 hb
   have n6_ := sK BK350 hb
   have n7_ := sB HB hb
   clear HO340
   clear HO343
   clear HO349
   clear HO353
   clear BK333
   clear BK350
   clear HB
   have HO340 := n0_
   have HO343 := n1_
   have HO349 := n2_
   have HO353 := n3_
   have HO360 := n4_
   have BK333 := n5_
   have BK350 := n6_
   have HB := n7_
   clear n0_ n1_ n2_ n3_ n4_ n5_ n6_ n7_
   (try clear hb)
   (try clear hb2)
   (try clear hk)
   (try clear hi)
   (try clear ho0)
   obtain ⟨Ao37, co37, eo37⟩ := Kd.R_slice HO360.out
   (first | subst eo37 | (injection eo37 with f1_ f2_ f3_; have f4_ := f1_.symm; have f5_ := f3_.symm; clear f1_ f2_ f3_; subst f4_; subst f5_))
   refine hK.out _ _ ⟨(blk_cell BK350.out 0).trans rfl, (blk_cell BK350.out 1).trans rfl, (blk_cell BK350.out 2).trans rfl, (blk_cell BK350.out 3).trans rfl, (blk_cell BK333.out 0).trans rfl, (blk_cell BK333.out 1).trans rfl, (blk_cell BK333.out 2).trans rfl, (blk_cell BK333.out 3).trans rfl⟩ (fun hHeld => ?_)
   clear hK K
   refine norm_ (a' := ?_) ?_ ?_
   rotate_left
   ·show Act.put _ (some 29) _ = _
    simp only [Act.put, List.setIfInBounds_toArray, List.set_cons_zero, List.set_cons_succ, i64_w, i32_w]
    rfl
   refine one_ (i := 3) (N := some 30) #[true, true, true, true, false] rfl rfl (by kernel_rfl) (by decide) (fun K hK => ?_)
   refine goes_ Try.func11 (by kernel_rfl) rfl #[.agg #[.int .i64 t344, .int .i64 t345, .string t346, .slice Ao30 t347.length co30], .agg #[.int .i64 t355, .int .i64 t356, .string t357, .slice Ao37 t358.length co37]] (by rfl) rfl rfl (by (try simp only [List.map_toArray, List.map_cons, List.map_nil]); first | done | rfl | (simp only [List.length_drop, List.length_take]; rfl)) ?_
   with_reducible refine (laws_eqExpr.calls k t344 t345 t346 _ _ t347 t355 t356 t357 _ _ t358 true _ ?side1 ?side2 ?side3 ?side4 A14.out).mono ?_
   (case side1 => exact sD ((Kd.R_reads' HO349.out).2.2))
   (case side2 => exact (Kd.R_reads' HO349.out).2.1)
   (case side3 => exact sD ((Kd.R_reads' HO360.out).2.2))
   (case side4 => exact (Kd.R_reads' HO360.out).2.1)
   rintro e w38 ⟨rfl, hb⟩
   refine ⟨_, rfl, ?_⟩
   have n0_ := Aside0.mk (Kd.R_below (sE HO340.out) hb)
   have n1_ := Aside0.mk (Kd.R_below (sE HO343.out) hb)
   have n2_ := Aside0.mk (Kd.R_below (sE HO349.out) hb)
   have n3_ := Aside0.mk (Kd.R_below (sE HO353.out) hb)
   have n4_ := Aside0.mk (Kd.R_below (sE HO360.out) hb)
   have n5_ := sK BK333 hb
   have n6_ := sK BK350 hb
   have n7_ := sB HB hb
   clear HO340
   clear HO343
   clear HO349
   clear HO353
   clear HO360
   clear BK333
   clear BK350
   clear HB
   have HO340 := n0_
   have HO343 := n1_
   have HO349 := n2_
   have HO353 := n3_
   have HO360 := n4_
   have BK333 := n5_
   have BK350 := n6_
   have HB := n7_
   clear n0_ n1_ n2_ n3_ n4_ n5_ n6_ n7_
   (try clear hb)
   (try clear hb2)
   (try clear hk)
   (try clear hi)
   refine hK.out _ _ ⟨(blk_cell BK350.out 0).trans rfl, (blk_cell BK350.out 1).trans rfl, (blk_cell BK350.out 2).trans rfl, (blk_cell BK350.out 3).trans rfl, (blk_cell BK333.out 0).trans rfl, (blk_cell BK333.out 1).trans rfl, (blk_cell BK333.out 2).trans rfl, (blk_cell BK333.out 3).trans rfl⟩ (fun hHeld => ?_)
   clear hK K
   refine norm_ (a' := ?_) ?_ ?_
   rotate_left
   ·show Act.put _ (some 30) _ = _
    simp only [Act.put, List.setIfInBounds_toArray, List.set_cons_zero, List.set_cons_succ, i64_w, i32_w]
    rfl
   refine pure_ (i := 4) (N := some 31) (v := ?_) (a' := ?_) #[true, true, true, true, true] rfl rfl (by kernel_rfl) (fun _ _ _ h => h) (Or.inl ⟨by rfl, ?_⟩) ?_ ?_
   rotate_left
   ·intro w'
    go_simp
    with_reducible rfl
   rotate_left
   ·simp only [Act.put, List.setIfInBounds_toArray, List.set_cons_zero, List.set_cons_succ, i64_w, i32_w]
    rfl
   refine done_ (by kernel_rfl) ?_
   obtain ⟨hcz39_0, hcz39_1, hcz39_2, hcz39_3, hfz39_0, hfz39_1, hfz39_2, hfz39_3⟩ := cells4 BK350.out
   go_upto_region 14 with (first | ((with_reducible refine gate_callee (f := 14) rfl ?_); refine sC (some 34) Try.func14 #[.agg #[.int .i64 t344, .int .i64 t345, .string t346, .slice Ao30 t347.length co30], .int .i64 1] (laws_markExpr.calls t344 t345 t346 (fun k_ => (((True ∧ some k_ ≠ (.slice Ao23 t338.length co23 : Value).ownBlock) ∧ k_ ≠ gb350) ∧ some k_ ≠ (.slice Ao37 t358.length co37 : Value).ownBlock)) (.slice Ao30 t347.length co30) t347 1 t362 w _ ?side1 ?side2 A16.out) ?_; (case side1 => repeat (first | (with_reducible first | exact HB.out | apply below_alloc | apply pw_below_drewN | apply below_drew1 | refine below_set ?_ GE333.out | refine below_set ?_ GE350.out) | exact HB.out)); (case side2 => exact Kd.R_mono (HO349.out) (fun k_ hk_ => by first | exact hk_ | (simp only [true_and, and_assoc] at hk_ ⊢; exact hk_))); rintro e w40 ⟨rfl, hb, hkp⟩; refine ⟨_, rfl, ?_⟩; have n0_ := Aside0.mk (blk_kept (sT BK333.out) hkp (fun hs_ => (fun e_ => mk_treeB (sT BK333.out) e_.2.2.2 (by decide)) hs_)); have n1_ := Aside0.mk (Kd.R_mono (ok' := fun k_ => some k_ ≠ (.slice Ao32 t351.length co32 : Value).ownBlock) (Kd.R_keptB ((Kd.R_bound HO343.out)) hkp (fun k_ hk_ hs_ => (fun e_ => mk_tree hk_.2.2.2 e_.2.2.2 (by decide)) hs_)) (fun k_ hk_ => (by have h_ := hk_; (try simp only [true_and] at h_); exact h_.1.1))); have n2_ := Aside0.mk (blk_kept (sT BK350.out) hkp (fun hs_ => (fun e_ => e_.1.1.2 rfl) hs_)); have n3_ := Aside0.mk (Kd.R_mono (ok' := fun k_ => some k_ ≠ (.slice Ao33 t341.length co33 : Value).ownBlock) (Kd.R_keptB ((Kd.R_bound HO353.out)) hkp (fun k_ hk_ hs_ => (fun e_ => mk_tree hk_.2.2.2 e_.2.2.2 (by decide)) hs_)) (fun k_ hk_ => (by have h_ := hk_; (try simp only [true_and] at h_); exact h_.1.1))); have n4_ := Aside0.mk (hb); clear BK333; clear HO343; clear BK350; clear HO353; clear HB; clear HO340; clear HO349; clear HO360; have BK333 := n0_; have HO343 := n1_; have BK350 := n2_; have HO353 := n3_; have HB := n4_; clear n0_ n1_ n2_ n3_ n4_; (try clear hb); (try clear hkp)))
   (try simp only [Act.put, List.setIfInBounds_toArray, List.set_cons_zero, List.set_cons_succ])
   go_cut [42] (fun v42 wc => ∃ (kq : Nat) (x42_16 : Bool), v42 = .bool x42_16 ∧ Aside0 (laws_FnExactCompileExpr.j0 kq t341 t351 x42_16 a0_0 a0_1 a0_2 l0_3 = some true) ∧ Aside0 (kq ≤ k) ∧ Aside0 (Kd.R k89 89 wc w.heap.size (fun k_ => some k_ ≠ ((.slice Ao32 t351.length co32) : Value).ownBlock) (.slice Ao33 t341.length co33) t341) ∧ Aside0 (Kd.R k89 89 wc w.heap.size (fun k_ => some k_ ≠ ((.slice Ao33 t341.length co33) : Value).ownBlock) (.slice Ao32 t351.length co32) t351) ∧ Aside0 (wc.heap[gb333]? = some (.cells #[.int .i64 a0_0, .int .i64 a0_1, .string a0_2, (.slice A0_3 l0_3.length c0_3)] 38 (0, 0))) ∧ Aside0 (Below w.heap.size w wc))
   case first =>
    have H := HC17.out
    clear HC17
    by_cases c41 : t362 < 0
    ·rw [if_pos c41] at H
     have c41b0 := decide_eq_true c41
     clear c41
     (first | rw [c41b0] | (simp only [i64_w, i32_w]; rw [c41b0]) | rw [c41b2] | skip)
     have H' := Aside0.mk H
     clear H
     go_wp2
     go_meet
     case rel => exact ⟨_, (true), sr, H', ⟨by first | omega | exact Nat.le_refl _⟩, ⟨by exact sE HO343.out⟩, ⟨by exact sE HO353.out⟩, ⟨by exact sT BK333.out⟩, ⟨sb⟩⟩
    rw [if_neg c41] at H
    have c41b0 := decide_eq_false c41
    clear c41
    (first | rw [c41b0] | (simp only [i64_w, i32_w]; rw [c41b0]) | rw [c41b2] | skip)
    obtain ⟨t363, A42, H⟩ := sO H
    have H' := Aside0.mk H
    clear H
    go_wp2_with (first | (go_at_call 22; (with_reducible refine (laws_eqInstrS.calls k _ _ t351 _ _ t341 t363 _ ?side1 ?side2 ?side3 ?side4 A42.out).mono ?_); (case side1 => exact sD ((Kd.R_reads' HO353.out).2.2)); (case side2 => exact (Kd.R_reads' HO353.out).2.1); (case side3 => exact sD ((Kd.R_reads' HO343.out).2.2)); (case side4 => exact (Kd.R_reads' HO343.out).2.1); rintro e w43 ⟨rfl, hb⟩; have n0_ := Aside0.mk (Kd.R_below (sE HO343.out) hb); have n1_ := Aside0.mk (Kd.R_below (sE HO353.out) hb); have n2_ := sK BK333 hb; have n3_ := sK BK350 hb; have n4_ := sB HB hb; clear HO343; clear HO353; clear BK333; clear BK350; clear HB; have HO343 := n0_; have HO353 := n1_; have BK333 := n2_; have BK350 := n3_; have HB := n4_; clear n0_ n1_ n2_ n3_ n4_; (try clear hb); (try clear hb2); (try clear hk); (try clear hi)))
    go_meet
    case rel => exact ⟨_, (!t363), sr, H', ⟨by first | omega | exact Nat.le_refl _⟩, ⟨by exact sE HO343.out⟩, ⟨by exact sE HO353.out⟩, ⟨by exact sT BK333.out⟩, ⟨sb⟩⟩
   case rest =>
    clear HC17
    try clear c1
    try clear c2
    try clear p2
    try clear c3
    try clear c3b0
    try clear c4
    try clear c5
    try clear c11
    try clear c12
    try clear c14
    try clear c15
    try clear c18
    try clear c19
    try clear c20
    try clear c21
    try clear c22
    try clear c28
    try clear c41
    try clear c41b0
    try clear c41b2
    try clear hcz19_0
    try clear hcz19_1
    try clear hcz19_2
    try clear hcz19_3
    try clear hcz21_0
    try clear hcz21_1
    try clear hcz21_2
    try clear hcz21_3
    try clear hcz25_0
    try clear hcz25_1
    try clear hcz25_2
    try clear hcz25_3
    try clear hcz29_0
    try clear hcz29_1
    try clear hcz29_2
    try clear hcz29_3
    try clear hcz39_0
    try clear hcz39_1
    try clear hcz39_2
    try clear hcz39_3
    try clear hcz5_0
    try clear hcz5_1
    try clear hcz5_2
    try clear hcz5_3
    try clear hfz19_0
    try clear hfz19_1
    try clear hfz19_2
    try clear hfz19_3
    try clear hfz21_0
    try clear hfz21_1
    try clear hfz21_2
    try clear hfz21_3
    try clear hfz25_0
    try clear hfz25_1
    try clear hfz25_2
    try clear hfz25_3
    try clear hfz29_0
    try clear hfz29_1
    try clear hfz29_2
    try clear hfz29_3
    try clear hfz39_0
    try clear hfz39_1
    try clear hfz39_2
    try clear hfz39_3
    try clear hfz5_0
    try clear hfz5_1
    try clear hfz5_2
    try clear hfz5_3
    obtain ⟨kq, x42_16, rfl, HA, HJ16, HO_4, HO_6, BK333, HB⟩ := hcut
    cases kq with
    | zero => exact absurd HA.out (by simp [laws_FnExactCompileExpr.j0])
    | succ kj16 =>
     have H := HA.out
     clear HA
     simp only [laws_FnExactCompileExpr.j0] at H
     by_cases c44 : x42_16 = true
     ·subst c44
      rewrite [if_pos rfl] at H
      exact absurd H (by simp)
     replace c44 := Bool.eq_false_iff.mpr c44
     subst c44
     rewrite [if_neg (show ¬ (false = true) by decide)] at H
     replace H := Option.bind_eq_some_iff.mp H
     obtain ⟨⟨t364, t365⟩, A450, H⟩ := H
     replace H : ((laws_heldInstrS.f kj16 t365 1).bind fun t366 => (if t366 < 0 then (some false) else (if t366 = t364 then ((laws_toExpr.f kj16 a0_0 a0_1 a0_2 l0_3).bind fun bt367 => ((impl_CompileExpr.f kj16 bt367.1 bt367.2.1 bt367.2.2.1 bt367.2.2.2).bind fun t373 => ((laws_eqInstrS.f kj16 t373 t341).bind fun t376 => (if t376 = true then ((laws_heldInstrS.f kj16 t365 1).bind fun t377 => (if t377 < 0 then (some false) else (if t377 = t364 then (some true) else (some false)))) else (some false))))) else (some false)))) = some true := H
     have A45 := Aside0.mk A450
     clear A450
     obtain ⟨t366, A46, H⟩ := sO H
     by_cases c47 : t366 < 0
     ·rw [if_pos c47] at H
      have c47b0 := decide_eq_true c47
      clear c47
      exact absurd H (by simp)
     rw [if_neg c47] at H
     have c47b0 := decide_eq_false c47
     clear c47
     by_cases c48 : t366 = t364
     ·rw [if_pos c48] at H
      have c48b0 : (t366 == t364) = true := beq_iff_eq.mpr c48
      have c48b1 : (t366 != t364) = false := bne_eq_false_iff_eq.mpr c48
      clear c48
      replace H := Option.bind_eq_some_iff.mp H
      obtain ⟨⟨t367, t368, t369, t370⟩, A490, H⟩ := H
      replace H : ((impl_CompileExpr.f kj16 t367 t368 t369 t370).bind fun t373 => ((laws_eqInstrS.f kj16 t373 t341).bind fun t376 => (if t376 = true then ((laws_heldInstrS.f kj16 t365 1).bind fun t377 => (if t377 < 0 then (some false) else (if t377 = t364 then (some true) else (some false)))) else (some false)))) = some true := H
      have A49 := Aside0.mk A490
      clear A490
      obtain ⟨t373, A50, H⟩ := sO H
      obtain ⟨t376, A51, H⟩ := sO H
      by_cases c52 : t376 = true
      ·subst c52
       rewrite [if_pos rfl] at H
       obtain ⟨t377, A53, H⟩ := sO H
       by_cases c54 : t377 < 0
       ·rw [if_pos c54] at H
        have c54b0 := decide_eq_true c54
        clear c54
        exact absurd H (by simp)
       rw [if_neg c54] at H
       have c54b0 := decide_eq_false c54
       clear c54
       by_cases c55 : t377 = t364
       ·rw [if_pos c55] at H
        have c55b0 : (t377 == t364) = true := beq_iff_eq.mpr c55
        have c55b1 : (t377 != t364) = false := bne_eq_false_iff_eq.mpr c55
        clear c55
        clear H
        go_wp2_with (first | ((with_reducible refine gate_callee (f := 23) rfl ?_); refine sC (some 45) Try.func23 #[.slice Ao32 t351.length co32, .int .i64 1] (laws_markInstrS.calls kj16 (fun k_ => some k_ = (.slice Ao32 t351.length co32 : Value).ownBlock) (.slice Ao32 t351.length co32) t351 1 t364 t365 w _ ?side1 ?side2 A45.out) ?_; (case side1 => repeat (first | (with_reducible first | exact HB.out | apply below_alloc | apply pw_below_drewN | apply below_drew1 | refine below_set ?_ GE333.out) | exact HB.out)); (case side2 => exact Kd.R_tight rfl HO_6.out); rintro e w56 ⟨rfl, hy0, hb, hkp⟩; refine ⟨_, rfl, ?_⟩; have n0_ := Aside0.mk (Kd.R_mono (ok' := fun k_ => some k_ ≠ (.slice Ao32 t351.length co32 : Value).ownBlock) (Kd.R_keptB (HO_4.out) hkp (fun k_ hk_ hs_ => (hk_) hs_)) (fun k_ hk_ => hk_.1)); have n1_ := Aside0.mk (Kd.R_reok rfl hy0 (fun k_ e_ => HO_6.out.1 k_ e_)); have n2_ := Aside0.mk (blk_kept (sT BK333.out) hkp (fun hs_ => (fun e_ => (Kd.R_ne HO_6.out BK333.out (by decide)) e_) hs_)); have n3_ := Aside0.mk (hb); clear HO_4; clear HO_6; clear BK333; clear HB; have HO_4 := n0_; have HO_6 := n1_; have BK333 := n2_; have HB := n3_; clear n0_ n1_ n2_ n3_; (try clear hb); (try clear hkp); (try clear hy0)) | ((with_reducible refine gate_callee (f := 24) rfl ?_); refine goesL_ (some 48) rfl rfl Try.func24 (by kernel_rfl) rfl #[.slice Ao32 t365.length co32, .int .i64 1] rfl (by (try simp only [List.map_toArray, List.map_cons, List.map_nil]); first | done | (rw [show t365.length = t351.length from (Kd.R_reads' HO_6.out).1.symm] <;> rfl) | rfl | (simp only [List.length_drop, List.length_take]; rfl)) ?_; (with_reducible refine (laws_heldInstrS.calls kj16 _ _ t365 1 t366 _ ?side1 ?side2 A46.out).mono ?_); (case side1 => exact sD ((Kd.R_reads' HO_6.out).2.2)); (case side2 => rw [show t365.length = t351.length from (Kd.R_reads' HO_6.out).1.symm]; exact (Kd.R_reads' HO_6.out).2.1); rintro e w57 ⟨rfl, hb⟩; refine ⟨_, rfl, ?_⟩; have n0_ := Aside0.mk (Kd.R_below (sE HO_4.out) hb); have n1_ := Aside0.mk (Kd.R_below (sE HO_6.out) hb); have n2_ := sK BK333 hb; have n3_ := sB HB hb; clear HO_4; clear HO_6; clear BK333; clear HB; have HO_4 := n0_; have HO_6 := n1_; have BK333 := n2_; have HB := n3_; clear n0_ n1_ n2_ n3_; (try clear hb); (try clear hb2); (try clear hk); (try clear hi); obtain ⟨hcz58_0, hcz58_1, hcz58_2, hcz58_3, hfz58_0, hfz58_1, hfz58_2, hfz58_3⟩ := cells4 BK333.out) | ((with_reducible refine gate_callee (f := 20) rfl ?_); refine sC (some 55) Try.func20 #[.agg #[.int .i64 a0_0, .int .i64 a0_1, .string a0_2, .slice A0_3 l0_3.length c0_3]] (laws_toExpr.calls kj16 a0_0 a0_1 a0_2 _ _ l0_3 t367 t368 t369 t370 _ ?side1 ?side2 A49.out) ?_; (case side1 => exact sD (Kd.C_below HR0_3.out HB.out)); (case side2 => exact HC0_3.out); rintro e w59 ⟨v371, rfl, ho0, hb⟩; refine ⟨_, rfl, ?_⟩; have n0_ := Aside0.mk (Kd.R_below (sE HO_4.out) hb); have n1_ := Aside0.mk (Kd.R_below (sE HO_6.out) hb); have n2_ := Aside0.mk (Kd.R_lower ho0 (below_size (by repeat (first | (with_reducible first | exact HB.out | apply below_alloc | apply pw_below_drewN | apply below_drew1 | refine below_set ?_ GE333.out) | exact HB.out)))); have n3_ := sK BK333 hb; have n4_ := sB HB hb; clear HO_4; clear HO_6; clear BK333; clear HB; have HO_4 := n0_; have HO_6 := n1_; have HO372 := n2_; have BK333 := n3_; have HB := n4_; clear n0_ n1_ n2_ n3_ n4_; (try clear hb); (try clear hb2); (try clear hk); (try clear hi); (try clear ho0); obtain ⟨Ao60, co60, eo60⟩ := Kd.R_slice HO372.out; subst eo60) | ((with_reducible refine gate_callee (f := 21) rfl ?_); refine sC (some 56) Try.func21 #[.agg #[.int .i64 t367, .int .i64 t368, .string t369, .slice Ao60 t370.length co60]] (impl_CompileExpr.calls kj16 t367 t368 t369 _ _ t370 t373 _ ?side1 ?side2 A50.out) ?_; (case side1 => exact sD ((Kd.R_reads' HO372.out).2.2)); (case side2 => exact (Kd.R_reads' HO372.out).2.1); rintro e w61 ⟨v374, rfl, ho0, hb⟩; refine ⟨_, rfl, ?_⟩; have n0_ := Aside0.mk (Kd.R_elder' (sE HO_4.out) (Kd.R_base ho0) hb); have n1_ := Aside0.mk (Kd.R_elder' (sE HO_6.out) (Kd.R_base ho0) hb); have n2_ := Aside0.mk (Kd.R_below (sE HO372.out) hb); have n3_ := Aside0.mk (Kd.R_lower (Kd.R_new' (Kd.R_new' ho0 (Kd.R_lt (sE HO_4.out))) (Kd.R_lt (sE HO_6.out))) (below_size (by repeat (first | (with_reducible first | exact HB.out | apply below_alloc | apply pw_below_drewN | apply below_drew1 | refine below_set ?_ GE333.out) | exact HB.out)))); have n4_ := sK BK333 hb; have n5_ := sB HB hb; clear HO_4; clear HO_6; clear HO372; clear BK333; clear HB; have HO_4 := n0_; have HO_6 := n1_; have HO372 := n2_; have HO375 := n3_; have BK333 := n4_; have HB := n5_; clear n0_ n1_ n2_ n3_ n4_ n5_; (try clear hb); (try clear hb2); (try clear hk); (try clear hi); (try clear ho0); obtain ⟨Ao62, co62, eo62⟩ := Kd.R_slice HO375.out; subst eo62) | ((with_reducible refine gate_callee (f := 22) rfl ?_); refine sC (some 59) Try.func22 #[.slice Ao62 t373.length co62, .slice Ao33 t341.length co33] (laws_eqInstrS.calls kj16 _ _ t373 _ _ t341 true _ ?side1 ?side2 ?side3 ?side4 A51.out) ?_; (case side1 => exact sD ((Kd.R_reads' HO375.out).2.2)); (case side2 => exact (Kd.R_reads' HO375.out).2.1); (case side3 => exact sD ((Kd.R_reads' HO_4.out).2.2)); (case side4 => exact (Kd.R_reads' HO_4.out).2.1); rintro e w63 ⟨rfl, hb⟩; refine ⟨_, rfl, ?_⟩; have n0_ := Aside0.mk (Kd.R_below (sE HO_4.out) hb); have n1_ := Aside0.mk (Kd.R_below (sE HO_6.out) hb); have n2_ := Aside0.mk (Kd.R_below (sE HO372.out) hb); have n3_ := Aside0.mk (Kd.R_below (sE HO375.out) hb); have n4_ := sK BK333 hb; have n5_ := sB HB hb; clear HO_4; clear HO_6; clear HO372; clear HO375; clear BK333; clear HB; have HO_4 := n0_; have HO_6 := n1_; have HO372 := n2_; have HO375 := n3_; have BK333 := n4_; have HB := n5_; clear n0_ n1_ n2_ n3_ n4_ n5_; (try clear hb); (try clear hb2); (try clear hk); (try clear hi)) | ((with_reducible refine gate_callee (f := 24) rfl ?_); refine goesL_ (some 63) rfl rfl Try.func24 (by kernel_rfl) rfl #[.slice Ao32 t365.length co32, .int .i64 1] rfl (by (try simp only [List.map_toArray, List.map_cons, List.map_nil]); first | done | (rw [show t365.length = t351.length from (Kd.R_reads' HO_6.out).1.symm] <;> rfl) | rfl | (simp only [List.length_drop, List.length_take]; rfl)) ?_; (with_reducible refine (laws_heldInstrS.calls kj16 _ _ t365 1 t377 _ ?side1 ?side2 A53.out).mono ?_); (case side1 => exact sD ((Kd.R_reads' HO_6.out).2.2)); (case side2 => rw [show t365.length = t351.length from (Kd.R_reads' HO_6.out).1.symm]; exact (Kd.R_reads' HO_6.out).2.1); rintro e w64 ⟨rfl, hb⟩; refine ⟨_, rfl, ?_⟩; have n0_ := Aside0.mk (Kd.R_below (sE HO_4.out) hb); have n1_ := Aside0.mk (Kd.R_below (sE HO_6.out) hb); have n2_ := Aside0.mk (Kd.R_below (sE HO372.out) hb); have n3_ := Aside0.mk (Kd.R_below (sE HO375.out) hb); have n4_ := sK BK333 hb; have n5_ := sB HB hb; clear HO_4; clear HO_6; clear HO372; clear HO375; clear BK333; clear HB; have HO_4 := n0_; have HO_6 := n1_; have HO372 := n2_; have HO375 := n3_; have BK333 := n4_; have HB := n5_; clear n0_ n1_ n2_ n3_ n4_ n5_; (try clear hb); (try clear hb2); (try clear hk); (try clear hi)))
        go_ret
        exact ⟨sq, sb⟩
       rw [if_neg c55] at H
       have c55b0 : (t377 == t364) = false := beq_eq_false_iff_ne.mpr c55
       have c55b1 : (t377 != t364) = true := bne_iff_ne.mpr c55
       exact absurd H (by simp)
      replace c52 := Bool.eq_false_iff.mpr c52
      subst c52
      rewrite [if_neg (show ¬ (false = true) by decide)] at H
      exact absurd H (by simp)
     rw [if_neg c48] at H
     have c48b0 : (t366 == t364) = false := beq_eq_false_iff_ne.mpr c48
     have c48b1 : (t366 != t364) = true := bne_iff_ne.mpr c48
     exact absurd H (by simp)
  replace c15 := Bool.eq_false_iff.mpr c15
  subst c15
  rewrite [if_neg (show ¬ (false = true) by decide)] at H
  exact absurd H (by simp)
 replace c12 := Bool.eq_false_iff.mpr c12
 subst c12
 rewrite [if_neg (show ¬ (false = true) by decide)] at H
 exact absurd H (by simp)
end Go.Proofs.Ytmebimamjgnlpaa.PFnExactCompileExpr
