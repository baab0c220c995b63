/- Printed functions: laws_FnExactReadInstr. -/
import Derived.Test.YtdihlgkcpooadaaDoorYRiP0
import Derived.Test.YtdihlgkcpooadaaDoorYRiP7
import Derived.Test.YtdihlgkcpooadaaDoorYRiP13
import Derived.Test.YtdihlgkcpooadaaDoorYRiP14
namespace Go.Proofs.YtdihlgkcpooadaaDoor.PFnExactReadInstr
open Go.RowKit Go.Proofs.YtdihlgkcpooadaaDoorG Go.Proofs.YtdihlgkcpooadaaDoorW.PrintWords Go.Proofs.YtdihlgkcpooadaaDoorW.PrintLast Go.Proofs.YtdihlgkcpooadaaDoorW.PrintMore
attribute [local go_sem] max2_int min2_int max_two min_two max_three min_three max_four min_four   -- for this text's walks alone
set_option linter.unusedVariables false
set_option linter.unusedSimpArgs false
/-! ### laws_FnExactReadInstr: function 3 -/
def laws_FnExactReadInstr.f (k : Nat) (a0 : ByteArray) : Option (Bool) := if (a0.size : Int) > 1048576 then (some true) else ((spec_ReadInstr.f k a0).bind fun bt259 => ((impl_ReadInstr.f k a0).bind fun bt264 => ((laws_eqInstr.f bt264.1 bt264.2.1 bt264.2.2.1 bt259.1 bt259.2.1 bt259.2.2.1).bind fun t269 => (if t269 = true then (if (bt264.2.2.2 != bt259.2.2.2) = true then (some false) else (some true)) else (some false)))))
set_option maxHeartbeats 8000000 in
set_option maxRecDepth 100000 in
theorem laws_FnExactReadInstr.calls (k : Nat) (a0 : ByteArray) (r : Bool) (w : World) (h : laws_FnExactReadInstr.f k a0 = some r) (HT : EnvT w) :
  Calls Tryd.prog 3 #[.string a0] w fun e w' => e = .returned (.bool r) ∧ Below w.heap.size w w' := by
 have hu23 := Tryd.underlying23
 have HB := Aside0.mk (Below.refl w.heap.size w)
 have H : (if (a0.size : Int) > 1048576 then (some true) else ((spec_ReadInstr.f k a0).bind fun bt259 => ((impl_ReadInstr.f k a0).bind fun bt264 => ((laws_eqInstr.f bt264.1 bt264.2.1 bt264.2.2.1 bt259.1 bt259.2.1 bt259.2.2.1).bind fun t269 => (if t269 = true then (if (bt264.2.2.2 != bt259.2.2.2) = true then (some false) else (some true)) else (some false)))))) = some r := h
 clear h
 by_cases c2 : (a0.size : Int) > 1048576
 ·rw [if_pos c2] at H
  have c2b0 : decide (1048576 < (a0.size : Int)) = true := decide_eq_true c2
  have c2b1 : decide (1048576 < a0.size) = true := decide_eq_true (by omega)
  clear c2
  obtain rfl := Option.some.inj H
  go_enter Tryd.func3, Tryd.ntmps3
  go_wp2
  go_ret
  exact ⟨sq, sb⟩
 rw [if_neg c2] at H
 have c2b0 : decide (1048576 < (a0.size : Int)) = false := decide_eq_false c2
 have c2b1 : decide (1048576 < a0.size) = false := decide_eq_false (by omega)
 clear c2
 replace H := Option.bind_eq_some_iff.mp H
 obtain ⟨⟨t259, t260, t261, t262⟩, A30, H⟩ := H
 replace H : ((impl_ReadInstr.f k a0).bind fun bt264 => ((laws_eqInstr.f bt264.1 bt264.2.1 bt264.2.2.1 t259 t260 t261).bind fun t269 => (if t269 = true then (if (bt264.2.2.2 != t262) = true then (some false) else (some true)) else (some false)))) = some r := H
 have A3 := Aside0.mk A30
 clear A30
 replace H := Option.bind_eq_some_iff.mp H
 obtain ⟨⟨t264, t265, t266, t267⟩, A40, H⟩ := H
 replace H : ((laws_eqInstr.f t264 t265 t266 t259 t260 t261).bind fun t269 => (if t269 = true then (if (t267 != t262) = true then (some false) else (some true)) else (some false))) = some r := H
 have A4 := Aside0.mk A40
 clear A40
 obtain ⟨t269, A5, H⟩ := sO H
 by_cases c6 : t269 = true
 ·subst c6
  rewrite [if_pos rfl] at H
  by_cases c7 : (t267 != t262) = true
  ·rw [if_pos c7] at H
   have c7b0 : (t267 != t262) = true := c7
   (try (have c7b1 : decide (t267 = t262) = false := by simpa using c7))
   (try (have c7b2 : (t267 == t262) = false := by simpa using c7))
   (try (have c7b3 : ¬ (t267 = t262) := by simpa using c7))
   clear c7
   obtain rfl := Option.some.inj H
   go_enter Tryd.func3, Tryd.ntmps3
   go_wp2_with (first | ((with_reducible refine gate_callee (f := 4) rfl ?_); refine sC (some 12) Tryd.func4 #[.string a0] (spec_ReadInstr.calls k a0 t259 t260 t261 t262 _ A3.out) ?_; rintro e w8 ⟨rfl, hb⟩; refine ⟨_, rfl, ?_⟩; have n0_ := sB HB hb; clear HB; have HB := n0_; clear n0_; (try clear hb); (try clear hb2); (try clear hk); (try clear hi)) | ((with_reducible refine gate_dst (N := 3) rfl ?_); refine sV (N := 3) (cs := #[.int .i64 0, .int .i64 0, .string (⟨#[]⟩ : ByteArray)]) (t := 23) ?_; intro gb263 hg w9 hbox hb; have n0_ := sB HB hb; have n1_ := Aside0.mk (hbox); have n2_ := sG HB hg; have n3_ := sG HB hg; clear HB; have HB := n0_; have BK263 := n1_; have GW263 := n2_; have GE263 := n3_; clear n0_ n1_ n2_ n3_; clear hb hbox hg; obtain ⟨hcz10_0, hcz10_1, hcz10_2, hfz10_0, hfz10_1, hfz10_2⟩ := cells3 BK263.out) | ((with_reducible refine gate_callee (f := 5) rfl ?_); refine sC (some 17) Tryd.func5 #[.string a0] (impl_ReadInstr.calls k a0 t264 t265 t266 t267 _ A4.out (by first | with_reducible exact HT | exact EnvT.below HT sb)) ?_; rintro e w11 ⟨rfl, hb⟩; refine ⟨_, rfl, ?_⟩; have n0_ := Aside0.mk (blk_below (g := gb263) (o := .cells #[.int .i64 t259, .int .i64 t260, .string t261] 23 (0, 0)) (by exact sP3 (sT BK263.out)) hb); have n1_ := sB HB hb; clear BK263; clear HB; have BK263 := n0_; have HB := n1_; clear n0_ n1_; (try clear hb); (try clear hb2); (try clear hk); (try clear hi)) | ((with_reducible refine gate_dst (N := 5) rfl ?_); refine sV (N := 5) (cs := #[.int .i64 0, .int .i64 0, .string (⟨#[]⟩ : ByteArray)]) (t := 23) ?_; intro gb268 hg w12 hbox hb; have n0_ := sK BK263 hb; have n1_ := sB HB hb; have n2_ := Aside0.mk (hbox); have n3_ := sG HB hg; have n4_ := sG HB hg; have n5_ := sN BK263 hg; have n6_ := sM BK263 hg; clear BK263; clear HB; have BK263 := n0_; have HB := n1_; have BK268 := n2_; have GW268 := n3_; have GE268 := n4_; have NB263_268 := n5_; have NB268_263 := n6_; clear n0_ n1_ n2_ n3_ n4_ n5_ n6_; clear hb hbox hg; have hnb13 := NB268_263.out; have hnc13 := NB263_268.out; obtain ⟨hcz14_0, hcz14_1, hcz14_2, hfz14_0, hfz14_1, hfz14_2⟩ := cells3 BK268.out; obtain ⟨hcz15_0, hcz15_1, hcz15_2, hfz15_0, hfz15_1, hfz15_2⟩ := cells3 BK263.out) | ((with_reducible refine gate_callee (f := 6) rfl ?_); refine sC (some 22) Tryd.func6 #[.agg #[.int .i64 t264, .int .i64 t265, .string t266], .agg #[.int .i64 t259, .int .i64 t260, .string t261]] (laws_eqInstr.calls t264 t265 t266 t259 t260 t261 true _ A5.out) ?_; rintro e w16 ⟨rfl, hb⟩; refine ⟨_, rfl, ?_⟩; have n0_ := Aside0.mk (blk_below (g := gb263) (o := .cells #[.int .i64 t259, .int .i64 t260, .string t261] 23 (0, 0)) (by (with_reducible repeat (first | refine blk_drewN ?_ _ | refine blk_drew ?_ | refine blk_alloc ?_ _)); refine blk_far ?_ NB263_268.out _; (with_reducible repeat (first | refine blk_drewN ?_ _ | refine blk_drew ?_ | refine blk_alloc ?_ _)); refine blk_far ?_ NB263_268.out _; (with_reducible repeat (first | refine blk_drewN ?_ _ | refine blk_drew ?_ | refine blk_alloc ?_ _)); refine blk_far ?_ NB263_268.out _; exact sT BK263.out) hb); have n1_ := Aside0.mk (blk_below (g := gb268) (o := .cells #[.int .i64 t264, .int .i64 t265, .string t266] 23 (0, 0)) (by exact sP3 (sT BK268.out)) hb); have n2_ := sB HB hb; clear BK263; clear BK268; clear HB; have BK263 := n0_; have BK268 := n1_; have HB := n2_; clear n0_ n1_ n2_; (try clear hb); (try clear hb2); (try clear hk); (try clear hi)))
   go_ret
   exact ⟨sq, sb⟩
  rw [if_neg c7] at H
  have c7b0 : (t267 != t262) = false := by simpa using c7
  (try (have c7b1 : decide (t267 = t262) = true := by simpa using c7))
  (try (have c7b2 : (t267 == t262) = true := by simpa using c7))
  clear c7
  obtain rfl := Option.some.inj H
  go_enter Tryd.func3, Tryd.ntmps3
  go_wp2_with (first | ((with_reducible refine gate_callee (f := 4) rfl ?_); refine sC (some 12) Tryd.func4 #[.string a0] (spec_ReadInstr.calls k a0 t259 t260 t261 t262 _ A3.out) ?_; rintro e w17 ⟨rfl, hb⟩; refine ⟨_, rfl, ?_⟩; have n0_ := sB HB hb; clear HB; have HB := n0_; clear n0_; (try clear hb); (try clear hb2); (try clear hk); (try clear hi)) | ((with_reducible refine gate_dst (N := 3) rfl ?_); refine sV (N := 3) (cs := #[.int .i64 0, .int .i64 0, .string (⟨#[]⟩ : ByteArray)]) (t := 23) ?_; intro gb263 hg w18 hbox hb; have n0_ := sB HB hb; have n1_ := Aside0.mk (hbox); have n2_ := sG HB hg; have n3_ := sG HB hg; clear HB; have HB := n0_; have BK263 := n1_; have GW263 := n2_; have GE263 := n3_; clear n0_ n1_ n2_ n3_; clear hb hbox hg; obtain ⟨hcz19_0, hcz19_1, hcz19_2, hfz19_0, hfz19_1, hfz19_2⟩ := cells3 BK263.out) | ((with_reducible refine gate_callee (f := 5) rfl ?_); refine sC (some 17) Tryd.func5 #[.string a0] (impl_ReadInstr.calls k a0 t264 t265 t266 t267 _ A4.out (by first | with_reducible exact HT | exact EnvT.below HT sb)) ?_; rintro e w20 ⟨rfl, hb⟩; refine ⟨_, rfl, ?_⟩; have n0_ := Aside0.mk (blk_below (g := gb263) (o := .cells #[.int .i64 t259, .int .i64 t260, .string t261] 23 (0, 0)) (by exact sP3 (sT BK263.out)) hb); have n1_ := sB HB hb; clear BK263; clear HB; have BK263 := n0_; have HB := n1_; clear n0_ n1_; (try clear hb); (try clear hb2); (try clear hk); (try clear hi)) | ((with_reducible refine gate_dst (N := 5) rfl ?_); refine sV (N := 5) (cs := #[.int .i64 0, .int .i64 0, .string (⟨#[]⟩ : ByteArray)]) (t := 23) ?_; intro gb268 hg w21 hbox hb; have n0_ := sK BK263 hb; have n1_ := sB HB hb; have n2_ := Aside0.mk (hbox); have n3_ := sG HB hg; have n4_ := sG HB hg; have n5_ := sN BK263 hg; have n6_ := sM BK263 hg; clear BK263; clear HB; have BK263 := n0_; have HB := n1_; have BK268 := n2_; have GW268 := n3_; have GE268 := n4_; have NB263_268 := n5_; have NB268_263 := n6_; clear n0_ n1_ n2_ n3_ n4_ n5_ n6_; clear hb hbox hg; have hnb22 := NB268_263.out; have hnc22 := NB263_268.out; obtain ⟨hcz23_0, hcz23_1, hcz23_2, hfz23_0, hfz23_1, hfz23_2⟩ := cells3 BK268.out; obtain ⟨hcz24_0, hcz24_1, hcz24_2, hfz24_0, hfz24_1, hfz24_2⟩ := cells3 BK263.out) | ((with_reducible refine gate_callee (f := 6) rfl ?_); refine sC (some 22) Tryd.func6 #[.agg #[.int .i64 t264, .int .i64 t265, .string t266], .agg #[.int .i64 t259, .int .i64 t260, .string t261]] (laws_eqInstr.calls t264 t265 t266 t259 t260 t261 true _ A5.out) ?_; rintro e w25 ⟨rfl, hb⟩; refine ⟨_, rfl, ?_⟩; have n0_ := Aside0.mk (blk_below (g := gb263) (o := .cells #[.int .i64 t259, .int .i64 t260, .string t261] 23 (0, 0)) (by (with_reducible repeat (first | refine blk_drewN ?_ _ | refine blk_drew ?_ | refine blk_alloc ?_ _)); refine blk_far ?_ NB263_268.out _; (with_reducible repeat (first | refine blk_drewN ?_ _ | refine blk_drew ?_ | refine blk_alloc ?_ _)); refine blk_far ?_ NB263_268.out _; (with_reducible repeat (first | refine blk_drewN ?_ _ | refine blk_drew ?_ | refine blk_alloc ?_ _)); refine blk_far ?_ NB263_268.out _; exact sT BK263.out) hb); have n1_ := Aside0.mk (blk_below (g := gb268) (o := .cells #[.int .i64 t264, .int .i64 t265, .string t266] 23 (0, 0)) (by exact sP3 (sT BK268.out)) hb); have n2_ := sB HB hb; clear BK263; clear BK268; clear HB; have BK263 := n0_; have BK268 := n1_; have HB := n2_; clear n0_ n1_ n2_; (try clear hb); (try clear hb2); (try clear hk); (try clear hi)))
  go_ret
  exact ⟨sq, sb⟩
 replace c6 := Bool.eq_false_iff.mpr c6
 subst c6
 rewrite [if_neg (show ¬ (false = true) by decide)] at H
 obtain rfl := Option.some.inj H
 go_enter Tryd.func3, Tryd.ntmps3
 go_wp2_with (first | ((with_reducible refine gate_callee (f := 4) rfl ?_); refine sC (some 12) Tryd.func4 #[.string a0] (spec_ReadInstr.calls k a0 t259 t260 t261 t262 _ A3.out) ?_; rintro e w26 ⟨rfl, hb⟩; refine ⟨_, rfl, ?_⟩; have n0_ := sB HB hb; clear HB; have HB := n0_; clear n0_; (try clear hb); (try clear hb2); (try clear hk); (try clear hi)) | ((with_reducible refine gate_dst (N := 3) rfl ?_); refine sV (N := 3) (cs := #[.int .i64 0, .int .i64 0, .string (⟨#[]⟩ : ByteArray)]) (t := 23) ?_; intro gb263 hg w27 hbox hb; have n0_ := sB HB hb; have n1_ := Aside0.mk (hbox); have n2_ := sG HB hg; have n3_ := sG HB hg; clear HB; have HB := n0_; have BK263 := n1_; have GW263 := n2_; have GE263 := n3_; clear n0_ n1_ n2_ n3_; clear hb hbox hg; obtain ⟨hcz28_0, hcz28_1, hcz28_2, hfz28_0, hfz28_1, hfz28_2⟩ := cells3 BK263.out) | ((with_reducible refine gate_callee (f := 5) rfl ?_); refine sC (some 17) Tryd.func5 #[.string a0] (impl_ReadInstr.calls k a0 t264 t265 t266 t267 _ A4.out (by first | with_reducible exact HT | exact EnvT.below HT sb)) ?_; rintro e w29 ⟨rfl, hb⟩; refine ⟨_, rfl, ?_⟩; have n0_ := Aside0.mk (blk_below (g := gb263) (o := .cells #[.int .i64 t259, .int .i64 t260, .string t261] 23 (0, 0)) (by exact sP3 (sT BK263.out)) hb); have n1_ := sB HB hb; clear BK263; clear HB; have BK263 := n0_; have HB := n1_; clear n0_ n1_; (try clear hb); (try clear hb2); (try clear hk); (try clear hi)) | ((with_reducible refine gate_dst (N := 5) rfl ?_); refine sV (N := 5) (cs := #[.int .i64 0, .int .i64 0, .string (⟨#[]⟩ : ByteArray)]) (t := 23) ?_; intro gb268 hg w30 hbox hb; have n0_ := sK BK263 hb; have n1_ := sB HB hb; have n2_ := Aside0.mk (hbox); have n3_ := sG HB hg; have n4_ := sG HB hg; have n5_ := sN BK263 hg; have n6_ := sM BK263 hg; clear BK263; clear HB; have BK263 := n0_; have HB := n1_; have BK268 := n2_; have GW268 := n3_; have GE268 := n4_; have NB263_268 := n5_; have NB268_263 := n6_; clear n0_ n1_ n2_ n3_ n4_ n5_ n6_; clear hb hbox hg; have hnb31 := NB268_263.out; have hnc31 := NB263_268.out; obtain ⟨hcz32_0, hcz32_1, hcz32_2, hfz32_0, hfz32_1, hfz32_2⟩ := cells3 BK268.out; obtain ⟨hcz33_0, hcz33_1, hcz33_2, hfz33_0, hfz33_1, hfz33_2⟩ := cells3 BK263.out) | ((with_reducible refine gate_callee (f := 6) rfl ?_); refine sC (some 22) Tryd.func6 #[.agg #[.int .i64 t264, .int .i64 t265, .string t266], .agg #[.int .i64 t259, .int .i64 t260, .string t261]] (laws_eqInstr.calls t264 t265 t266 t259 t260 t261 false _ A5.out) ?_; rintro e w34 ⟨rfl, hb⟩; refine ⟨_, rfl, ?_⟩; have n0_ := Aside0.mk (blk_below (g := gb263) (o := .cells #[.int .i64 t259, .int .i64 t260, .string t261] 23 (0, 0)) (by (with_reducible repeat (first | refine blk_drewN ?_ _ | refine blk_drew ?_ | refine blk_alloc ?_ _)); refine blk_far ?_ NB263_268.out _; (with_reducible repeat (first | refine blk_drewN ?_ _ | refine blk_drew ?_ | refine blk_alloc ?_ _)); refine blk_far ?_ NB263_268.out _; (with_reducible repeat (first | refine blk_drewN ?_ _ | refine blk_drew ?_ | refine blk_alloc ?_ _)); refine blk_far ?_ NB263_268.out _; exact sT BK263.out) hb); have n1_ := Aside0.mk (blk_below (g := gb268) (o := .cells #[.int .i64 t264, .int .i64 t265, .string t266] 23 (0, 0)) (by exact sP3 (sT BK268.out)) hb); have n2_ := sB HB hb; clear BK263; clear BK268; clear HB; have BK263 := n0_; have BK268 := n1_; have HB := n2_; clear n0_ n1_ n2_; (try clear hb); (try clear hb2); (try clear hk); (try clear hi)))
 go_ret
 exact ⟨sq, sb⟩
end Go.Proofs.YtdihlgkcpooadaaDoor.PFnExactReadInstr
