/- Printed functions: spec_FitsHeap. -/
import Derived.Test.YtamegncijkfbhaaYHsP0
import Derived.Test.YtamegncijkfbhaaYHsPE
import Derived.Test.YtamegncijkfbhaaYHsP9
import Derived.Test.YtamegncijkfbhaaYHsP11
namespace Go.Proofs.Ytamegncijkfbhaa.PFnExactFitsHeap
open Go.RowKit Go.Proofs.YtamegncijkfbhaaG Go.Proofs.YtamegncijkfbhaaW.PrintWords Go.Proofs.YtamegncijkfbhaaW.PrintLast Go.Proofs.YtamegncijkfbhaaW.PrintMore
attribute [local go_sem] max2_int min2_int max_two min_two max_three min_three max_four min_four   -- for this text's walks alone
set_option linter.unusedVariables false
set_option linter.unusedSimpArgs false
section
attribute [local go_sem high] eqA30
/-! ### spec_FitsHeap: function 20 -/
def spec_FitsHeap.f (k : Nat) (a0_0 : Int) (l0_1 : List (S32)) (a1_0 : Int) (a1_1 : Int) (a1_2 : ByteArray) (a1_3 : Int) : Option (Bool) := (spec_l07Ok.f k [(⟨a0_0, l0_1⟩ : S43)]).bind fun t236 => (if t236 = true then ((spec_l07Fits.f k [(⟨a0_0, l0_1⟩ : S43)] a1_0 a1_1 a1_2 a1_3).bind fun t237 => (some t237)) else (some false))
set_option maxHeartbeats 8000000 in
set_option maxRecDepth 100000 in
theorem spec_FitsHeap.calls (k : Nat) (a0_0 : Int) (A0_1 : Option Addr) (c0_1 : Nat) (l0_1 : List (S32)) (a1_0 : Int) (a1_1 : Int) (a1_2 : ByteArray) (a1_3 : Int) (r : Bool) (w : World) (hr0_1 : Kd.C k32 w A0_1 l0_1.length l0_1) (hc0_1 : l0_1.length ≤ c0_1) (h : spec_FitsHeap.f k a0_0 l0_1 a1_0 a1_1 a1_2 a1_3 = some r) :
  Calls Try.prog 20 #[.agg #[.int .i64 a0_0, .slice A0_1 l0_1.length c0_1], .agg #[.int .i64 a1_0, .int .i64 a1_1, .string a1_2, .int .i64 a1_3]] w fun e w' => e = .returned (.bool r) ∧ Below w.heap.size w w' := by
 have hu43 := Try.underlying43
 have hu30 := Try.underlying30
 have HR0_1 := Aside0.mk hr0_1
 have HC0_1 := Aside0.mk hc0_1
 clear hr0_1 hc0_1
 have HB := Aside0.mk (Below.refl w.heap.size w)
 have H : ((spec_l07Ok.f k [(⟨a0_0, l0_1⟩ : S43)]).bind fun t236 => (if t236 = true then ((spec_l07Fits.f k [(⟨a0_0, l0_1⟩ : S43)] a1_0 a1_1 a1_2 a1_3).bind fun t237 => (some t237)) else (some false))) = some r := h
 clear h
 obtain ⟨t236, A3, H⟩ := sO H
 by_cases c4 : t236 = true
 ·subst c4
  rewrite [if_pos rfl] at H
  obtain ⟨t237, A5, H⟩ := sO H
  obtain rfl := Option.some.inj H
  go_enter Try.func20, Try.ntmps20
  go_wp2_with (first | ((with_reducible refine gate_dst (N := 2) rfl ?_); refine sV (N := 2) (cs := #[.int .i64 a0_0, .slice A0_1 l0_1.length c0_1]) (t := 43) ?_; intro gb234 hg w6 hbox hb; have n0_ := sB HB hb; have n1_ := Aside0.mk (hbox); have n2_ := sG HB hg; have n3_ := sG HB hg; clear HB; have HB := n0_; have BK234 := n1_; have GW234 := n2_; have GE234 := n3_; clear n0_ n1_ n2_ n3_; clear hb hbox hg) | ((with_reducible refine gate_dst (N := 3) rfl ?_); refine sV (N := 3) (cs := #[.int .i64 a1_0, .int .i64 a1_1, .string a1_2, .int .i64 a1_3]) (t := 30) ?_; intro gb235 hg w7 hbox hb; have n0_ := sK BK234 hb; have n1_ := sB HB hb; have n2_ := Aside0.mk (hbox); have n3_ := sG HB hg; have n4_ := sG HB hg; have n5_ := sN BK234 hg; have n6_ := sM BK234 hg; clear BK234; clear HB; have BK234 := n0_; have HB := n1_; have BK235 := n2_; have GW235 := n3_; have GE235 := n4_; have NB234_235 := n5_; have NB235_234 := n6_; clear n0_ n1_ n2_ n3_ n4_ n5_ n6_; clear hb hbox hg) | ((with_reducible refine gate_callee (f := 42) rfl ?_); refine sC (some 5) Try.func42 #[.pointer (some ⟨gb234, 0, none⟩)] (spec_l07Ok.calls k _ [(⟨a0_0, l0_1⟩ : S43)] true _ ?side1 A3.out) ?_; (case side1 => exact C_box (sT BK234.out) (k43_mk _ (⟨a0_0, l0_1⟩ : S43) (by exact HC0_1.out) (by exact sD (Kd.C_below HR0_1.out HB.out)))); rintro e w8 ⟨rfl, hb⟩; refine ⟨_, rfl, ?_⟩; have n0_ := sK BK234 hb; have n1_ := sK BK235 hb; have n2_ := sB HB hb; clear BK234; clear BK235; clear HB; have BK234 := n0_; have BK235 := n1_; have HB := n2_; clear n0_ n1_ n2_; (try clear hb); (try clear hb2); (try clear hk); (try clear hi); have hnb9 := NB235_234.out; have hnc9 := NB234_235.out; obtain ⟨hcz10_0, hcz10_1, hcz10_2, hcz10_3, hfz10_0, hfz10_1, hfz10_2, hfz10_3⟩ := cells4 BK235.out) | (go_at_call 49; (with_reducible refine (spec_l07Fits.calls k _ [(⟨a0_0, l0_1⟩ : S43)] a1_0 a1_1 a1_2 a1_3 t237 _ ?side1 A5.out).mono ?_); (case side1 => exact C_box (sT BK234.out) (k43_mk _ (⟨a0_0, l0_1⟩ : S43) (by exact HC0_1.out) (by exact sD (Kd.C_below HR0_1.out HB.out)))); rintro e w11 ⟨rfl, hb⟩; have n0_ := sK BK234 hb; have n1_ := sK BK235 hb; have n2_ := sB HB hb; clear BK234; clear BK235; clear HB; have BK234 := n0_; have BK235 := n1_; have HB := n2_; clear n0_ n1_ n2_; (try clear hb); (try clear hb2); (try clear hk); (try clear hi)))
  go_ret
  exact ⟨sq, sb⟩
 ·replace c4 := Bool.eq_false_iff.mpr c4
  subst c4
  rewrite [if_neg (show ¬ (false = true) by decide)] at H
  obtain rfl := Option.some.inj H
  go_enter Try.func20, Try.ntmps20
  go_wp2_with (first | ((with_reducible refine gate_dst (N := 2) rfl ?_); refine sV (N := 2) (cs := #[.int .i64 a0_0, .slice A0_1 l0_1.length c0_1]) (t := 43) ?_; intro gb234 hg w12 hbox hb; have n0_ := sB HB hb; have n1_ := Aside0.mk (hbox); have n2_ := sG HB hg; have n3_ := sG HB hg; clear HB; have HB := n0_; have BK234 := n1_; have GW234 := n2_; have GE234 := n3_; clear n0_ n1_ n2_ n3_; clear hb hbox hg) | ((with_reducible refine gate_dst (N := 3) rfl ?_); refine sV (N := 3) (cs := #[.int .i64 a1_0, .int .i64 a1_1, .string a1_2, .int .i64 a1_3]) (t := 30) ?_; intro gb235 hg w13 hbox hb; have n0_ := sK BK234 hb; have n1_ := sB HB hb; have n2_ := Aside0.mk (hbox); have n3_ := sG HB hg; have n4_ := sG HB hg; have n5_ := sN BK234 hg; have n6_ := sM BK234 hg; clear BK234; clear HB; have BK234 := n0_; have HB := n1_; have BK235 := n2_; have GW235 := n3_; have GE235 := n4_; have NB234_235 := n5_; have NB235_234 := n6_; clear n0_ n1_ n2_ n3_ n4_ n5_ n6_; clear hb hbox hg) | ((with_reducible refine gate_callee (f := 42) rfl ?_); refine sC (some 5) Try.func42 #[.pointer (some ⟨gb234, 0, none⟩)] (spec_l07Ok.calls k _ [(⟨a0_0, l0_1⟩ : S43)] false _ ?side1 A3.out) ?_; (case side1 => exact C_box (sT BK234.out) (k43_mk _ (⟨a0_0, l0_1⟩ : S43) (by exact HC0_1.out) (by exact sD (Kd.C_below HR0_1.out HB.out)))); rintro e w14 ⟨rfl, hb⟩; refine ⟨_, rfl, ?_⟩; have n0_ := sK BK234 hb; have n1_ := sK BK235 hb; have n2_ := sB HB hb; clear BK234; clear BK235; clear HB; have BK234 := n0_; have BK235 := n1_; have HB := n2_; clear n0_ n1_ n2_; (try clear hb); (try clear hb2); (try clear hk); (try clear hi)))
  go_ret
  exact ⟨sq, sb⟩
end
end Go.Proofs.Ytamegncijkfbhaa.PFnExactFitsHeap
