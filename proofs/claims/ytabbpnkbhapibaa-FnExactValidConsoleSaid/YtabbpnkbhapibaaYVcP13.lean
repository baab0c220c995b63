/- Printed functions: laws_FnExactValidConsole. -/
import Derived.Test.YtabbpnkbhapibaaYVcP0
import Derived.Test.YtabbpnkbhapibaaYVcP1
import Derived.Test.YtabbpnkbhapibaaYVcP3
import Derived.Test.YtabbpnkbhapibaaYVcP6
import Derived.Test.YtabbpnkbhapibaaYVcP10
import Derived.Test.YtabbpnkbhapibaaYVcP12
namespace Go.Proofs.Ytabbpnkbhapibaa.PFnExactValidConsole
open Go.RowKit Go.Proofs.YtabbpnkbhapibaaG Go.Proofs.YtabbpnkbhapibaaW.PrintWords Go.Proofs.YtabbpnkbhapibaaW.PrintLast Go.Proofs.YtabbpnkbhapibaaW.PrintMore
attribute [local go_sem] max2_int min2_int max_two min_two max_three min_three max_four min_four   -- for this text's walks alone
set_option linter.unusedVariables false
set_option linter.unusedSimpArgs false
/-! ### laws_FnExactValidConsole: function 8 -/
def laws_FnExactValidConsole.f (k : Nat) (l0_0 : List ByteArray) (a0_1 : Int) (l0_2 : List ByteArray) (l0_3 : List (S202)) (l0_4 : List ByteArray) : Option (Bool) := (laws_szConsole.f k l0_0 a0_1 l0_2 l0_3 l0_4 1048576).bind fun t227 => (if t227 < 0 then (some true) else ((laws_toConsole.f k l0_0 a0_1 l0_2 l0_3 l0_4).bind fun bt228 => ((spec_ValidConsole.f k bt228.1 bt228.2.1 bt228.2.2.1 bt228.2.2.2.1 bt228.2.2.2.2).bind fun t241 => ((laws_toConsole.f k l0_0 a0_1 l0_2 l0_3 l0_4).bind fun bt242 => ((impl_ValidConsole.f k bt242.1 bt242.2.1 bt242.2.2.1 bt242.2.2.2.1 bt242.2.2.2.2).bind fun t256 => (if (t256 != t241) = true then (some false) else ((laws_toConsole.f k l0_0 a0_1 l0_2 l0_3 l0_4).bind fun bt257 => ((laws_eqConsole.f k bt242.1 bt242.2.1 bt242.2.2.1 bt242.2.2.2.1 bt242.2.2.2.2 bt257.1 bt257.2.1 bt257.2.2.1 bt257.2.2.2.1 bt257.2.2.2.2).bind fun t270 => (if t270 = true then (some true) else (some false))))))))))
set_option maxHeartbeats 8000000 in
set_option maxRecDepth 100000 in
theorem laws_FnExactValidConsole.calls (k : Nat) (A0_0 : Option Addr) (c0_0 : Nat) (l0_0 : List ByteArray) (a0_1 : Int) (A0_2 : Option Addr) (c0_2 : Nat) (l0_2 : List ByteArray) (A0_3 : Option Addr) (c0_3 : Nat) (l0_3 : List (S202)) (A0_4 : Option Addr) (c0_4 : Nat) (l0_4 : List ByteArray) (w : World) (hr0_0 : Kd.C Kd.string w A0_0 l0_0.length l0_0) (hc0_0 : l0_0.length ≤ c0_0) (hr0_2 : Kd.C Kd.string w A0_2 l0_2.length l0_2) (hc0_2 : l0_2.length ≤ c0_2) (hr0_3 : Kd.C k202 w A0_3 l0_3.length l0_3) (hc0_3 : l0_3.length ≤ c0_3) (hr0_4 : Kd.C Kd.string w A0_4 l0_4.length l0_4) (hc0_4 : l0_4.length ≤ c0_4) (h : laws_FnExactValidConsole.f k l0_0 a0_1 l0_2 l0_3 l0_4 = some true) :
  Calls Try.prog 8 #[.agg #[.slice A0_0 l0_0.length c0_0, .int .i64 a0_1, .slice A0_2 l0_2.length c0_2, .slice A0_3 l0_3.length c0_3, .slice A0_4 l0_4.length c0_4]] w fun e w' => e = .returned (.bool true) ∧ Below w.heap.size w w' := by
 have hu69 := Try.underlying69
 have hu74 := Try.underlying74
 have HR0_0 := Aside0.mk hr0_0
 have HC0_0 := Aside0.mk hc0_0
 clear hr0_0 hc0_0
 have HR0_2 := Aside0.mk hr0_2
 have HC0_2 := Aside0.mk hc0_2
 clear hr0_2 hc0_2
 have HR0_3 := Aside0.mk hr0_3
 have HC0_3 := Aside0.mk hc0_3
 clear hr0_3 hc0_3
 have HR0_4 := Aside0.mk hr0_4
 have HC0_4 := Aside0.mk hc0_4
 clear hr0_4 hc0_4
 have HB := Aside0.mk (Below.refl w.heap.size w)
 have H : ((laws_szConsole.f k l0_0 a0_1 l0_2 l0_3 l0_4 1048576).bind fun t227 => (if t227 < 0 then (some true) else ((laws_toConsole.f k l0_0 a0_1 l0_2 l0_3 l0_4).bind fun bt228 => ((spec_ValidConsole.f k bt228.1 bt228.2.1 bt228.2.2.1 bt228.2.2.2.1 bt228.2.2.2.2).bind fun t241 => ((laws_toConsole.f k l0_0 a0_1 l0_2 l0_3 l0_4).bind fun bt242 => ((impl_ValidConsole.f k bt242.1 bt242.2.1 bt242.2.2.1 bt242.2.2.2.1 bt242.2.2.2.2).bind fun t256 => (if (t256 != t241) = true then (some false) else ((laws_toConsole.f k l0_0 a0_1 l0_2 l0_3 l0_4).bind fun bt257 => ((laws_eqConsole.f k bt242.1 bt242.2.1 bt242.2.2.1 bt242.2.2.2.1 bt242.2.2.2.2 bt257.1 bt257.2.1 bt257.2.2.1 bt257.2.2.2.1 bt257.2.2.2.2).bind fun t270 => (if t270 = true then (some true) else (some false))))))))))) = some true := h
 clear h
 obtain ⟨t227, A2, H⟩ := sO H
 by_cases c3 : t227 < 0
 ·rw [if_pos c3] at H
  have c3b0 := decide_eq_true c3
  clear c3
  clear H
  go_enter Try.func8, Try.ntmps8
  go_wp2_with (first | ((with_reducible refine gate_dst (N := 1) rfl ?_); refine sV (N := 1) (cs := #[.slice A0_0 l0_0.length c0_0, .int .i64 a0_1, .slice A0_2 l0_2.length c0_2, .slice A0_3 l0_3.length c0_3, .slice A0_4 l0_4.length c0_4]) (t := 69) ?_; intro gb226 hg w4 hbox hb; have n0_ := sB HB hb; have n1_ := Aside0.mk (hbox); have n2_ := sG HB hg; have n3_ := sG HB hg; clear HB; have HB := n0_; have BK226 := n1_; have GW226 := n2_; have GE226 := n3_; clear n0_ n1_ n2_ n3_; clear hb hbox hg; obtain ⟨hcz5_0, hcz5_1, hcz5_2, hcz5_3, hcz5_4, hfz5_0, hfz5_1, hfz5_2, hfz5_3, hfz5_4⟩ := cells5 BK226.out) | ((with_reducible refine gate_callee (f := 36) rfl ?_); refine sC (some 9) Try.func36 #[.agg #[.slice A0_0 l0_0.length c0_0, .int .i64 a0_1, .slice A0_2 l0_2.length c0_2, .slice A0_3 l0_3.length c0_3, .slice A0_4 l0_4.length c0_4], .int .i64 1048576] (laws_szConsole.calls k _ _ l0_0 a0_1 _ _ l0_2 _ _ l0_3 _ _ l0_4 1048576 t227 _ ?side1 ?side2 ?side3 ?side4 ?side5 ?side6 ?side7 ?side8 A2.out) ?_; (case side1 => exact sD (Kd.C_below HR0_0.out HB.out)); (case side2 => exact HC0_0.out); (case side3 => exact sD (Kd.C_below HR0_2.out HB.out)); (case side4 => exact HC0_2.out); (case side5 => exact sD (Kd.C_below HR0_3.out HB.out)); (case side6 => exact HC0_3.out); (case side7 => exact sD (Kd.C_below HR0_4.out HB.out)); (case side8 => exact HC0_4.out); rintro e w6 ⟨rfl, hb⟩; refine ⟨_, rfl, ?_⟩; have n0_ := sK BK226 hb; have n1_ := sB HB hb; clear BK226; clear HB; have BK226 := n0_; have HB := n1_; clear n0_ n1_; (try clear hb); (try clear hb2); (try clear hk); (try clear hi)))
  go_ret
  exact ⟨sq, sb⟩
 rw [if_neg c3] at H
 have c3b0 := decide_eq_false c3
 clear c3
 replace H := Option.bind_eq_some_iff.mp H
 obtain ⟨⟨t228, t231, t232, t235, t238⟩, A70, H⟩ := H
 replace H : ((spec_ValidConsole.f k t228 t231 t232 t235 t238).bind fun t241 => ((laws_toConsole.f k l0_0 a0_1 l0_2 l0_3 l0_4).bind fun bt242 => ((impl_ValidConsole.f k bt242.1 bt242.2.1 bt242.2.2.1 bt242.2.2.2.1 bt242.2.2.2.2).bind fun t256 => (if (t256 != t241) = true then (some false) else ((laws_toConsole.f k l0_0 a0_1 l0_2 l0_3 l0_4).bind fun bt257 => ((laws_eqConsole.f k bt242.1 bt242.2.1 bt242.2.2.1 bt242.2.2.2.1 bt242.2.2.2.2 bt257.1 bt257.2.1 bt257.2.2.1 bt257.2.2.2.1 bt257.2.2.2.2).bind fun t270 => (if t270 = true then (some true) else (some false)))))))) = some true := H
 have A7 := Aside0.mk A70
 clear A70
 obtain ⟨t241, A8, H⟩ := sO H
 replace H := Option.bind_eq_some_iff.mp H
 obtain ⟨⟨t242, t245, t246, t249, t252⟩, A90, H⟩ := H
 replace H : ((impl_ValidConsole.f k t242 t245 t246 t249 t252).bind fun t256 => (if (t256 != t241) = true then (some false) else ((laws_toConsole.f k l0_0 a0_1 l0_2 l0_3 l0_4).bind fun bt257 => ((laws_eqConsole.f k t242 t245 t246 t249 t252 bt257.1 bt257.2.1 bt257.2.2.1 bt257.2.2.2.1 bt257.2.2.2.2).bind fun t270 => (if t270 = true then (some true) else (some false)))))) = some true := H
 have A9 := Aside0.mk A90
 clear A90
 obtain ⟨t256, A10, H⟩ := sO H
 by_cases c11 : (t256 != t241) = true
 ·rw [if_pos c11] at H
  have c11b0 : (t256 != t241) = true := c11
  (try (have c11b1 : decide (t256 = t241) = false := by simpa using c11))
  (try (have c11b2 : (t256 == t241) = false := by simpa using c11))
  (try (have c11b3 : ¬ (t256 = t241) := by simpa using c11))
  clear c11
  exact absurd H (by simp)
 rw [if_neg c11] at H
 have c11b0 : (t256 != t241) = false := by simpa using c11
 (try (have c11b1 : decide (t256 = t241) = true := by simpa using c11))
 (try (have c11b2 : (t256 == t241) = true := by simpa using c11))
 clear c11
 replace H := Option.bind_eq_some_iff.mp H
 obtain ⟨⟨t257, t260, t261, t264, t267⟩, A120, H⟩ := H
 replace H : ((laws_eqConsole.f k t242 t245 t246 t249 t252 t257 t260 t261 t264 t267).bind fun t270 => (if t270 = true then (some true) else (some false))) = some true := H
 have A12 := Aside0.mk A120
 clear A120
 obtain ⟨t270, A13, H⟩ := sO H
 by_cases c14 : t270 = true
 ·subst c14
  have H1 : (some true) = some true := rfl
  clear H
  have H := H1
  clear H1
  clear H
  go_enter Try.func8, Try.ntmps8
  try go_wp2_with (first | ((with_reducible refine gate_dst (N := 1) rfl ?_); refine sV (N := 1) (cs := #[.slice A0_0 l0_0.length c0_0, .int .i64 a0_1, .slice A0_2 l0_2.length c0_2, .slice A0_3 l0_3.length c0_3, .slice A0_4 l0_4.length c0_4]) (t := 69) ?_; intro gb226 hg w15 hbox hb; have n0_ := sB HB hb; have n1_ := Aside0.mk (hbox); have n2_ := sG HB hg; have n3_ := sG HB hg; clear HB; have HB := n0_; have BK226 := n1_; have GW226 := n2_; have GE226 := n3_; clear n0_ n1_ n2_ n3_; clear hb hbox hg; obtain ⟨hcz16_0, hcz16_1, hcz16_2, hcz16_3, hcz16_4, hfz16_0, hfz16_1, hfz16_2, hfz16_3, hfz16_4⟩ := cells5 BK226.out) | ((with_reducible refine gate_callee (f := 36) rfl ?_); refine sC (some 9) Try.func36 #[.agg #[.slice A0_0 l0_0.length c0_0, .int .i64 a0_1, .slice A0_2 l0_2.length c0_2, .slice A0_3 l0_3.length c0_3, .slice A0_4 l0_4.length c0_4], .int .i64 1048576] (laws_szConsole.calls k _ _ l0_0 a0_1 _ _ l0_2 _ _ l0_3 _ _ l0_4 1048576 t227 _ ?side1 ?side2 ?side3 ?side4 ?side5 ?side6 ?side7 ?side8 A2.out) ?_; (case side1 => exact sD (Kd.C_below HR0_0.out HB.out)); (case side2 => exact HC0_0.out); (case side3 => exact sD (Kd.C_below HR0_2.out HB.out)); (case side4 => exact HC0_2.out); (case side5 => exact sD (Kd.C_below HR0_3.out HB.out)); (case side6 => exact HC0_3.out); (case side7 => exact sD (Kd.C_below HR0_4.out HB.out)); (case side8 => exact HC0_4.out); rintro e w17 ⟨rfl, hb⟩; refine ⟨_, rfl, ?_⟩; have n0_ := sK BK226 hb; have n1_ := sB HB hb; clear BK226; clear HB; have BK226 := n0_; have HB := n1_; clear n0_ n1_; (try clear hb); (try clear hb2); (try clear hk); (try clear hi); obtain ⟨hcz18_0, hcz18_1, hcz18_2, hcz18_3, hcz18_4, hfz18_0, hfz18_1, hfz18_2, hfz18_3, hfz18_4⟩ := cells5 BK226.out) | ((with_reducible refine gate_callee (f := 38) rfl ?_); refine sC (some 13) Try.func38 #[.agg #[.slice A0_0 l0_0.length c0_0, .int .i64 a0_1, .slice A0_2 l0_2.length c0_2, .slice A0_3 l0_3.length c0_3, .slice A0_4 l0_4.length c0_4]] (laws_toConsole.calls k _ _ l0_0 a0_1 _ _ l0_2 _ _ l0_3 _ _ l0_4 t228 t231 t232 t235 t238 _ ?side1 ?side2 ?side3 ?side4 ?side5 ?side6 ?side7 ?side8 A7.out) ?_; (case side1 => exact sD (Kd.C_below HR0_0.out HB.out)); (case side2 => exact HC0_0.out); (case side3 => exact sD (Kd.C_below HR0_2.out HB.out)); (case side4 => exact HC0_2.out); (case side5 => exact sD (Kd.C_below HR0_3.out HB.out)); (case side6 => exact HC0_3.out); (case side7 => exact sD (Kd.C_below HR0_4.out HB.out)); (case side8 => exact HC0_4.out); rintro e w19 ⟨v229, v233, v236, v239, rfl, ho0, ho1, ho2, ho3, hb⟩; refine ⟨_, rfl, ?_⟩; have n0_ := Aside0.mk (Kd.R_lower ho0 (below_size (by repeat (first | (with_reducible first | exact HB.out | apply below_alloc | apply pw_below_drewN | apply below_drew1 | refine below_set ?_ GE226.out) | exact HB.out)))); have n1_ := Aside0.mk (Kd.R_lower ho1 (below_size (by repeat (first | (with_reducible first | exact HB.out | apply below_alloc | apply pw_below_drewN | apply below_drew1 | refine below_set ?_ GE226.out) | exact HB.out)))); have n2_ := Aside0.mk (Kd.S_lower ho2 (below_size (by repeat (first | (with_reducible first | exact HB.out | apply below_alloc | apply pw_below_drewN | apply below_drew1 | refine below_set ?_ GE226.out) | exact HB.out)))); have n3_ := Aside0.mk (Kd.R_lower ho3 (below_size (by repeat (first | (with_reducible first | exact HB.out | apply below_alloc | apply pw_below_drewN | apply below_drew1 | refine below_set ?_ GE226.out) | exact HB.out)))); have n4_ := sK BK226 hb; have n5_ := sB HB hb; clear BK226; clear HB; have HO230 := n0_; have HO234 := n1_; have HO237 := n2_; have HO240 := n3_; have BK226 := n4_; have HB := n5_; clear n0_ n1_ n2_ n3_ n4_ n5_; (try clear hb); (try clear hb2); (try clear hk); (try clear hi); (try clear ho0); (try clear ho1); (try clear ho2); (try clear ho3); obtain ⟨Ao20, co20, eo20⟩ := Kd.R_slice HO230.out; subst eo20; obtain ⟨Ao21, co21, eo21⟩ := Kd.R_slice HO234.out; subst eo21; obtain ⟨Ao22, co22, eo22⟩ := Kd.S_slice HO237.out; subst eo22; obtain ⟨Ao23, co23, eo23⟩ := Kd.R_slice HO240.out; subst eo23) | ((with_reducible refine gate_callee (f := 37) rfl ?_); refine sC (some 14) Try.func37 #[.agg #[.slice Ao20 t228.length co20, .int .i64 t231, .slice Ao21 t232.length co21, .slice Ao22 t235.length co22, .slice Ao23 t238.length co23]] (spec_ValidConsole.calls k _ _ t228 t231 _ _ t232 _ _ t235 _ _ t238 t241 _ ?side1 ?side2 ?side3 ?side4 ?side5 ?side6 ?side7 ?side8 A8.out) ?_; (case side1 => exact sD ((Kd.R_reads' HO230.out).2.2)); (case side2 => exact (Kd.R_reads' HO230.out).2.1); (case side3 => exact sD ((Kd.R_reads' HO234.out).2.2)); (case side4 => exact (Kd.R_reads' HO234.out).2.1); (case side5 => exact sD ((Kd.S_reads' HO237.out).2.2)); (case side6 => exact (Kd.S_reads' HO237.out).2.1); (case side7 => exact sD ((Kd.R_reads' HO240.out).2.2)); (case side8 => exact (Kd.R_reads' HO240.out).2.1); rintro e w24 ⟨rfl, hb⟩; refine ⟨_, rfl, ?_⟩; have n0_ := Aside0.mk (Kd.R_below (sE HO230.out) hb); have n1_ := Aside0.mk (Kd.R_below (sE HO234.out) hb); have n2_ := Aside0.mk (Kd.S_below (sI HO237.out) hb); have n3_ := Aside0.mk (Kd.R_below (sE HO240.out) hb); have n4_ := sK BK226 hb; have n5_ := sB HB hb; clear HO230; clear HO234; clear HO237; clear HO240; clear BK226; clear HB; have HO230 := n0_; have HO234 := n1_; have HO237 := n2_; have HO240 := n3_; have BK226 := n4_; have HB := n5_; clear n0_ n1_ n2_ n3_ n4_ n5_; (try clear hb); (try clear hb2); (try clear hk); (try clear hi); obtain ⟨hcz25_0, hcz25_1, hcz25_2, hcz25_3, hcz25_4, hfz25_0, hfz25_1, hfz25_2, hfz25_3, hfz25_4⟩ := cells5 BK226.out) | ((with_reducible refine gate_callee (f := 38) rfl ?_); refine sC (some 16) Try.func38 #[.agg #[.slice A0_0 l0_0.length c0_0, .int .i64 a0_1, .slice A0_2 l0_2.length c0_2, .slice A0_3 l0_3.length c0_3, .slice A0_4 l0_4.length c0_4]] (laws_toConsole.calls k _ _ l0_0 a0_1 _ _ l0_2 _ _ l0_3 _ _ l0_4 t242 t245 t246 t249 t252 _ ?side1 ?side2 ?side3 ?side4 ?side5 ?side6 ?side7 ?side8 A9.out) ?_; (case side1 => exact sD (Kd.C_below HR0_0.out HB.out)); (case side2 => exact HC0_0.out); (case side3 => exact sD (Kd.C_below HR0_2.out HB.out)); (case side4 => exact HC0_2.out); (case side5 => exact sD (Kd.C_below HR0_3.out HB.out)); (case side6 => exact HC0_3.out); (case side7 => exact sD (Kd.C_below HR0_4.out HB.out)); (case side8 => exact HC0_4.out); rintro e w26 ⟨v243, v247, v250, v253, rfl, ho0, ho1, ho2, ho3, hb⟩; refine ⟨_, rfl, ?_⟩; have n0_ := Aside0.mk (Kd.R_mono (Kd.R_told (Kd.R_told (Kd.R_told (Kd.R_old (sE HO230.out) hb) (Kd.R_base ho0)) (Kd.R_base ho1)) (Kd.R_base ho3)) (fun _ h_ => h_.1)); have n1_ := Aside0.mk (Kd.R_mono (Kd.R_told (Kd.R_told (Kd.R_told (Kd.R_old (sE HO234.out) hb) (Kd.R_base ho0)) (Kd.R_base ho1)) (Kd.R_base ho3)) (fun _ h_ => h_.1)); have n2_ := Aside0.mk (Kd.S_mono (Kd.S_told (Kd.S_told (Kd.S_told (Kd.S_told (Kd.S_old (sI HO237.out) hb) (Kd.R_base ho0)) (Kd.R_base ho1)) (Kd.S_base ho2)) (Kd.R_base ho3)) (fun _ h_ => h_.1)); have n3_ := Aside0.mk (Kd.R_mono (Kd.R_told (Kd.R_told (Kd.R_told (Kd.R_old (sE HO240.out) hb) (Kd.R_base ho0)) (Kd.R_base ho1)) (Kd.R_base ho3)) (fun _ h_ => h_.1)); have n4_ := Aside0.mk (Kd.R_lower (Kd.R_new' (Kd.R_new' (Kd.R_new' ho0 (Kd.R_lt (sE HO230.out))) (Kd.R_lt (sE HO234.out))) (Kd.R_lt (sE HO240.out))) (below_size (by repeat (first | (with_reducible first | exact HB.out | apply below_alloc | apply pw_below_drewN | apply below_drew1 | refine below_set ?_ GE226.out) | exact HB.out)))); have n5_ := Aside0.mk (Kd.R_lower (Kd.R_new' (Kd.R_new' (Kd.R_new' ho1 (Kd.R_lt (sE HO230.out))) (Kd.R_lt (sE HO234.out))) (Kd.R_lt (sE HO240.out))) (below_size (by repeat (first | (with_reducible first | exact HB.out | apply below_alloc | apply pw_below_drewN | apply below_drew1 | refine below_set ?_ GE226.out) | exact HB.out)))); have n6_ := Aside0.mk (Kd.S_lower (Kd.S_new' (Kd.S_new' (Kd.S_new' (Kd.S_new' ho2 (Kd.R_lt (sE HO230.out))) (Kd.R_lt (sE HO234.out))) (Kd.S_lt (sI HO237.out))) (Kd.R_lt (sE HO240.out))) (below_size (by repeat (first | (with_reducible first | exact HB.out | apply below_alloc | apply pw_below_drewN | apply below_drew1 | refine below_set ?_ GE226.out) | exact HB.out)))); have n7_ := Aside0.mk (Kd.R_lower (Kd.R_new' (Kd.R_new' (Kd.R_new' ho3 (Kd.R_lt (sE HO230.out))) (Kd.R_lt (sE HO234.out))) (Kd.R_lt (sE HO240.out))) (below_size (by repeat (first | (with_reducible first | exact HB.out | apply below_alloc | apply pw_below_drewN | apply below_drew1 | refine below_set ?_ GE226.out) | exact HB.out)))); have n8_ := sK BK226 hb; have n9_ := sB HB hb; clear HO230; clear HO234; clear HO237; clear HO240; clear BK226; clear HB; have HO230 := n0_; have HO234 := n1_; have HO237 := n2_; have HO240 := n3_; have HO244 := n4_; have HO248 := n5_; have HO251 := n6_; have HO254 := n7_; have BK226 := n8_; have HB := n9_; clear n0_ n1_ n2_ n3_ n4_ n5_ n6_ n7_ n8_ n9_; (try clear hb); (try clear hb2); (try clear hk); (try clear hi); (try clear ho0); (try clear ho1); (try clear ho2); (try clear ho3)) | ((with_reducible refine gate_dst (N := 5) rfl ?_); refine sV (N := 5) (cs := #[.slice none 0 0, .int .i64 0, .slice none 0 0, .slice none 0 0, .slice none 0 0]) (t := 74) ?_; intro gb255 hg w27 hbox hb; have n0_ := Aside0.mk (Kd.R_below (sE HO230.out) hb); have n1_ := Aside0.mk (Kd.R_below (sE HO234.out) hb); have n2_ := Aside0.mk (Kd.S_below (sI HO237.out) hb); have n3_ := Aside0.mk (Kd.R_below (sE HO240.out) hb); have n4_ := Aside0.mk (Kd.R_below (sE HO244.out) hb); have n5_ := Aside0.mk (Kd.R_below (sE HO248.out) hb); have n6_ := Aside0.mk (Kd.S_below (sI HO251.out) hb); have n7_ := Aside0.mk (Kd.R_below (sE HO254.out) hb); have n8_ := sK BK226 hb; have n9_ := sB HB hb; have n10_ := Aside0.mk (hbox); have n11_ := sG HB hg; have n12_ := sG HB hg; have n13_ := sN BK226 hg; have n14_ := sM BK226 hg; clear HO230; clear HO234; clear HO237; clear HO240; clear HO244; clear HO248; clear HO251; clear HO254; clear BK226; clear HB; have HO230 := n0_; have HO234 := n1_; have HO237 := n2_; have HO240 := n3_; have HO244 := n4_; have HO248 := n5_; have HO251 := n6_; have HO254 := n7_; have BK226 := n8_; have HB := n9_; have BK255 := n10_; have GW255 := n11_; have GE255 := n12_; have NB226_255 := n13_; have NB255_226 := n14_; clear n0_ n1_ n2_ n3_ n4_ n5_ n6_ n7_ n8_ n9_ n10_ n11_ n12_ n13_ n14_; clear hb hbox hg; obtain ⟨Ao28, co28, eo28⟩ := Kd.R_slice HO244.out; subst eo28; have hnb29 := NB255_226.out; have hnc29 := NB226_255.out; obtain ⟨hcz30_0, hcz30_1, hcz30_2, hcz30_3, hcz30_4, hfz30_0, hfz30_1, hfz30_2, hfz30_3, hfz30_4⟩ := cells5 BK255.out; obtain ⟨Ao31, co31, eo31⟩ := Kd.R_slice HO248.out; subst eo31; obtain ⟨Ao32, co32, eo32⟩ := Kd.S_slice HO251.out; subst eo32; obtain ⟨Ao33, co33, eo33⟩ := Kd.R_slice HO254.out; subst eo33) | ((with_reducible refine gate_callee (f := 39) rfl ?_); refine sC (some 18) Try.func39 #[.agg #[.slice Ao28 t242.length co28, .int .i64 t245, .slice Ao31 t246.length co31, .slice Ao32 t249.length co32, .slice Ao33 t252.length co33]] (impl_ValidConsole.calls k _ _ t242 t245 _ _ t246 _ _ t249 _ _ t252 t256 _ ?side1 ?side2 ?side3 ?side4 ?side5 ?side6 ?side7 ?side8 A10.out) ?_; (case side1 => refine (Kd.R_reads' (e := 9) (base := w.heap.size) (ok := fun k_ => ((((some k_ ≠ (.slice Ao31 t246.length co31 : Value).ownBlock ∧ some k_ ≠ (.slice Ao33 t252.length co33 : Value).ownBlock) ∧ some k_ ≠ (.slice Ao20 t228.length co20 : Value).ownBlock) ∧ some k_ ≠ (.slice Ao21 t232.length co21 : Value).ownBlock) ∧ some k_ ≠ (.slice Ao23 t238.length co23 : Value).ownBlock)) (n := t242.length) (c := co28) ?_).2.2; exact (by (with_reducible repeat (first | apply Kd.R_alloc | apply Kd.R_drewN | apply Kd.R_drew)); exact (Kd.R_mono (Kd.R_far (p := ⟨gb255, 4, none⟩) (Kd.R_far (p := ⟨gb255, 3, none⟩) (Kd.R_far (p := ⟨gb255, 2, none⟩) (Kd.R_far (p := ⟨gb255, 1, none⟩) (Kd.R_far (p := ⟨gb255, 0, none⟩) (Kd.R_types HO244.out BK255.out (by decide)) (fun _ hk => hk.2) (.slice Ao28 t242.length co28)) (fun _ hk => hk.2) (.int .i64 t245)) (fun _ hk => hk.2) (.slice Ao31 t246.length co31)) (fun _ hk => hk.2) (.slice Ao32 t249.length co32)) (fun _ hk => hk.2) (.slice Ao33 t252.length co33)) (fun _ h_ => h_.1)))); (case side2 => exact (Kd.R_reads' HO244.out).2.1); (case side3 => refine (Kd.R_reads' (e := 9) (base := w.heap.size) (ok := fun k_ => ((((some k_ ≠ (.slice Ao28 t242.length co28 : Value).ownBlock ∧ some k_ ≠ (.slice Ao33 t252.length co33 : Value).ownBlock) ∧ some k_ ≠ (.slice Ao20 t228.length co20 : Value).ownBlock) ∧ some k_ ≠ (.slice Ao21 t232.length co21 : Value).ownBlock) ∧ some k_ ≠ (.slice Ao23 t238.length co23 : Value).ownBlock)) (n := t246.length) (c := co31) ?_).2.2; exact (by (with_reducible repeat (first | apply Kd.R_alloc | apply Kd.R_drewN | apply Kd.R_drew)); exact (Kd.R_mono (Kd.R_far (p := ⟨gb255, 4, none⟩) (Kd.R_far (p := ⟨gb255, 3, none⟩) (Kd.R_far (p := ⟨gb255, 2, none⟩) (Kd.R_far (p := ⟨gb255, 1, none⟩) (Kd.R_far (p := ⟨gb255, 0, none⟩) (Kd.R_types HO248.out BK255.out (by decide)) (fun _ hk => hk.2) (.slice Ao28 t242.length co28)) (fun _ hk => hk.2) (.int .i64 t245)) (fun _ hk => hk.2) (.slice Ao31 t246.length co31)) (fun _ hk => hk.2) (.slice Ao32 t249.length co32)) (fun _ hk => hk.2) (.slice Ao33 t252.length co33)) (fun _ h_ => h_.1)))); (case side4 => exact (Kd.R_reads' HO248.out).2.1); (case side5 => refine (Kd.S_reads' (e := 163) (base := w.heap.size) (ok := fun k_ => (((((some k_ ≠ (.slice Ao28 t242.length co28 : Value).ownBlock ∧ (some k_ ≠ (.slice Ao31 t246.length co31 : Value).ownBlock ∧ some k_ ≠ (.slice Ao33 t252.length co33 : Value).ownBlock)) ∧ some k_ ≠ (.slice Ao20 t228.length co20 : Value).ownBlock) ∧ some k_ ≠ (.slice Ao21 t232.length co21 : Value).ownBlock) ∧ some k_ ≠ (.slice Ao22 t235.length co22 : Value).ownBlock) ∧ some k_ ≠ (.slice Ao23 t238.length co23 : Value).ownBlock)) (n := t249.length) (c := co32) ?_).2.2; exact (by (with_reducible repeat (first | apply Kd.S_alloc | apply Kd.S_drewN | apply Kd.S_drew)); exact (Kd.S_mono (Kd.S_far (p := ⟨gb255, 4, none⟩) (Kd.S_far (p := ⟨gb255, 3, none⟩) (Kd.S_far (p := ⟨gb255, 2, none⟩) (Kd.S_far (p := ⟨gb255, 1, none⟩) (Kd.S_far (p := ⟨gb255, 0, none⟩) (Kd.S_types HO251.out BK255.out (by decide)) (fun _ hk => hk.2) (.slice Ao28 t242.length co28)) (fun _ hk => hk.2) (.int .i64 t245)) (fun _ hk => hk.2) (.slice Ao31 t246.length co31)) (fun _ hk => hk.2) (.slice Ao32 t249.length co32)) (fun _ hk => hk.2) (.slice Ao33 t252.length co33)) (fun _ h_ => h_.1)))); (case side6 => exact (Kd.S_reads' HO251.out).2.1); (case side7 => refine (Kd.R_reads' (e := 9) (base := w.heap.size) (ok := fun k_ => ((((some k_ ≠ (.slice Ao28 t242.length co28 : Value).ownBlock ∧ some k_ ≠ (.slice Ao31 t246.length co31 : Value).ownBlock) ∧ some k_ ≠ (.slice Ao20 t228.length co20 : Value).ownBlock) ∧ some k_ ≠ (.slice Ao21 t232.length co21 : Value).ownBlock) ∧ some k_ ≠ (.slice Ao23 t238.length co23 : Value).ownBlock)) (n := t252.length) (c := co33) ?_).2.2; exact (by (with_reducible repeat (first | apply Kd.R_alloc | apply Kd.R_drewN | apply Kd.R_drew)); exact (Kd.R_mono (Kd.R_far (p := ⟨gb255, 4, none⟩) (Kd.R_far (p := ⟨gb255, 3, none⟩) (Kd.R_far (p := ⟨gb255, 2, none⟩) (Kd.R_far (p := ⟨gb255, 1, none⟩) (Kd.R_far (p := ⟨gb255, 0, none⟩) (Kd.R_types HO254.out BK255.out (by decide)) (fun _ hk => hk.2) (.slice Ao28 t242.length co28)) (fun _ hk => hk.2) (.int .i64 t245)) (fun _ hk => hk.2) (.slice Ao31 t246.length co31)) (fun _ hk => hk.2) (.slice Ao32 t249.length co32)) (fun _ hk => hk.2) (.slice Ao33 t252.length co33)) (fun _ h_ => h_.1)))); (case side8 => exact (Kd.R_reads' HO254.out).2.1); rintro e w34 ⟨rfl, hb⟩; refine ⟨_, rfl, ?_⟩; have n0_ := Aside0.mk (Kd.R_below (by (with_reducible repeat (first | apply Kd.R_alloc | apply Kd.R_drewN | apply Kd.R_drew)); exact (Kd.R_mono (Kd.R_far (p := ⟨gb255, 4, none⟩) (Kd.R_far (p := ⟨gb255, 3, none⟩) (Kd.R_far (p := ⟨gb255, 2, none⟩) (Kd.R_far (p := ⟨gb255, 1, none⟩) (Kd.R_far (p := ⟨gb255, 0, none⟩) (Kd.R_types HO230.out BK255.out (by decide)) (fun _ hk => hk.2) (.slice Ao28 t242.length co28)) (fun _ hk => hk.2) (.int .i64 t245)) (fun _ hk => hk.2) (.slice Ao31 t246.length co31)) (fun _ hk => hk.2) (.slice Ao32 t249.length co32)) (fun _ hk => hk.2) (.slice Ao33 t252.length co33)) (fun _ h_ => h_.1))) hb); have n1_ := Aside0.mk (Kd.R_below (by (with_reducible repeat (first | apply Kd.R_alloc | apply Kd.R_drewN | apply Kd.R_drew)); exact (Kd.R_mono (Kd.R_far (p := ⟨gb255, 4, none⟩) (Kd.R_far (p := ⟨gb255, 3, none⟩) (Kd.R_far (p := ⟨gb255, 2, none⟩) (Kd.R_far (p := ⟨gb255, 1, none⟩) (Kd.R_far (p := ⟨gb255, 0, none⟩) (Kd.R_types HO234.out BK255.out (by decide)) (fun _ hk => hk.2) (.slice Ao28 t242.length co28)) (fun _ hk => hk.2) (.int .i64 t245)) (fun _ hk => hk.2) (.slice Ao31 t246.length co31)) (fun _ hk => hk.2) (.slice Ao32 t249.length co32)) (fun _ hk => hk.2) (.slice Ao33 t252.length co33)) (fun _ h_ => h_.1))) hb); have n2_ := Aside0.mk (Kd.S_below (by (with_reducible repeat (first | apply Kd.S_alloc | apply Kd.S_drewN | apply Kd.S_drew)); exact (Kd.S_mono (Kd.S_far (p := ⟨gb255, 4, none⟩) (Kd.S_far (p := ⟨gb255, 3, none⟩) (Kd.S_far (p := ⟨gb255, 2, none⟩) (Kd.S_far (p := ⟨gb255, 1, none⟩) (Kd.S_far (p := ⟨gb255, 0, none⟩) (Kd.S_types HO237.out BK255.out (by decide)) (fun _ hk => hk.2) (.slice Ao28 t242.length co28)) (fun _ hk => hk.2) (.int .i64 t245)) (fun _ hk => hk.2) (.slice Ao31 t246.length co31)) (fun _ hk => hk.2) (.slice Ao32 t249.length co32)) (fun _ hk => hk.2) (.slice Ao33 t252.length co33)) (fun _ h_ => h_.1))) hb); have n3_ := Aside0.mk (Kd.R_below (by (with_reducible repeat (first | apply Kd.R_alloc | apply Kd.R_drewN | apply Kd.R_drew)); exact (Kd.R_mono (Kd.R_far (p := ⟨gb255, 4, none⟩) (Kd.R_far (p := ⟨gb255, 3, none⟩) (Kd.R_far (p := ⟨gb255, 2, none⟩) (Kd.R_far (p := ⟨gb255, 1, none⟩) (Kd.R_far (p := ⟨gb255, 0, none⟩) (Kd.R_types HO240.out BK255.out (by decide)) (fun _ hk => hk.2) (.slice Ao28 t242.length co28)) (fun _ hk => hk.2) (.int .i64 t245)) (fun _ hk => hk.2) (.slice Ao31 t246.length co31)) (fun _ hk => hk.2) (.slice Ao32 t249.length co32)) (fun _ hk => hk.2) (.slice Ao33 t252.length co33)) (fun _ h_ => h_.1))) hb); have n4_ := Aside0.mk (Kd.R_below (by (with_reducible repeat (first | apply Kd.R_alloc | apply Kd.R_drewN | apply Kd.R_drew)); exact (Kd.R_mono (Kd.R_far (p := ⟨gb255, 4, none⟩) (Kd.R_far (p := ⟨gb255, 3, none⟩) (Kd.R_far (p := ⟨gb255, 2, none⟩) (Kd.R_far (p := ⟨gb255, 1, none⟩) (Kd.R_far (p := ⟨gb255, 0, none⟩) (Kd.R_types HO244.out BK255.out (by decide)) (fun _ hk => hk.2) (.slice Ao28 t242.length co28)) (fun _ hk => hk.2) (.int .i64 t245)) (fun _ hk => hk.2) (.slice Ao31 t246.length co31)) (fun _ hk => hk.2) (.slice Ao32 t249.length co32)) (fun _ hk => hk.2) (.slice Ao33 t252.length co33)) (fun _ h_ => h_.1))) hb); have n5_ := Aside0.mk (Kd.R_below (by (with_reducible repeat (first | apply Kd.R_alloc | apply Kd.R_drewN | apply Kd.R_drew)); exact (Kd.R_mono (Kd.R_far (p := ⟨gb255, 4, none⟩) (Kd.R_far (p := ⟨gb255, 3, none⟩) (Kd.R_far (p := ⟨gb255, 2, none⟩) (Kd.R_far (p := ⟨gb255, 1, none⟩) (Kd.R_far (p := ⟨gb255, 0, none⟩) (Kd.R_types HO248.out BK255.out (by decide)) (fun _ hk => hk.2) (.slice Ao28 t242.length co28)) (fun _ hk => hk.2) (.int .i64 t245)) (fun _ hk => hk.2) (.slice Ao31 t246.length co31)) (fun _ hk => hk.2) (.slice Ao32 t249.length co32)) (fun _ hk => hk.2) (.slice Ao33 t252.length co33)) (fun _ h_ => h_.1))) hb); have n6_ := Aside0.mk (Kd.S_below (by (with_reducible repeat (first | apply Kd.S_alloc | apply Kd.S_drewN | apply Kd.S_drew)); exact (Kd.S_mono (Kd.S_far (p := ⟨gb255, 4, none⟩) (Kd.S_far (p := ⟨gb255, 3, none⟩) (Kd.S_far (p := ⟨gb255, 2, none⟩) (Kd.S_far (p := ⟨gb255, 1, none⟩) (Kd.S_far (p := ⟨gb255, 0, none⟩) (Kd.S_types HO251.out BK255.out (by decide)) (fun _ hk => hk.2) (.slice Ao28 t242.length co28)) (fun _ hk => hk.2) (.int .i64 t245)) (fun _ hk => hk.2) (.slice Ao31 t246.length co31)) (fun _ hk => hk.2) (.slice Ao32 t249.length co32)) (fun _ hk => hk.2) (.slice Ao33 t252.length co33)) (fun _ h_ => h_.1))) hb); have n7_ := Aside0.mk (Kd.R_below (by (with_reducible repeat (first | apply Kd.R_alloc | apply Kd.R_drewN | apply Kd.R_drew)); exact (Kd.R_mono (Kd.R_far (p := ⟨gb255, 4, none⟩) (Kd.R_far (p := ⟨gb255, 3, none⟩) (Kd.R_far (p := ⟨gb255, 2, none⟩) (Kd.R_far (p := ⟨gb255, 1, none⟩) (Kd.R_far (p := ⟨gb255, 0, none⟩) (Kd.R_types HO254.out BK255.out (by decide)) (fun _ hk => hk.2) (.slice Ao28 t242.length co28)) (fun _ hk => hk.2) (.int .i64 t245)) (fun _ hk => hk.2) (.slice Ao31 t246.length co31)) (fun _ hk => hk.2) (.slice Ao32 t249.length co32)) (fun _ hk => hk.2) (.slice Ao33 t252.length co33)) (fun _ h_ => h_.1))) hb); have n8_ := Aside0.mk (blk_below (g := gb226) (o := .cells #[.slice A0_0 l0_0.length c0_0, .int .i64 a0_1, .slice A0_2 l0_2.length c0_2, .slice A0_3 l0_3.length c0_3, .slice A0_4 l0_4.length c0_4] 69 (0, 0)) (by (with_reducible repeat (first | refine blk_drewN ?_ _ | refine blk_drew ?_ | refine blk_alloc ?_ _)); refine blk_far ?_ NB226_255.out _; (with_reducible repeat (first | refine blk_drewN ?_ _ | refine blk_drew ?_ | refine blk_alloc ?_ _)); refine blk_far ?_ NB226_255.out _; (with_reducible repeat (first | refine blk_drewN ?_ _ | refine blk_drew ?_ | refine blk_alloc ?_ _)); refine blk_far ?_ NB226_255.out _; (with_reducible repeat (first | refine blk_drewN ?_ _ | refine blk_drew ?_ | refine blk_alloc ?_ _)); refine blk_far ?_ NB226_255.out _; (with_reducible repeat (first | refine blk_drewN ?_ _ | refine blk_drew ?_ | refine blk_alloc ?_ _)); refine blk_far ?_ NB226_255.out _; exact sT BK226.out) hb); have n9_ := Aside0.mk (blk_below (g := gb255) (o := .cells #[.slice Ao28 t242.length co28, .int .i64 t245, .slice Ao31 t246.length co31, .slice Ao32 t249.length co32, .slice Ao33 t252.length co33] 74 (0, 0)) (by exact sP5 (sT BK255.out)) hb); have n10_ := sB HB hb; clear HO230; clear HO234; clear HO237; clear HO240; clear HO244; clear HO248; clear HO251; clear HO254; clear BK226; clear BK255; clear HB; have HO230 := n0_; have HO234 := n1_; have HO237 := n2_; have HO240 := n3_; have HO244 := n4_; have HO248 := n5_; have HO251 := n6_; have HO254 := n7_; have BK226 := n8_; have BK255 := n9_; have HB := n10_; clear n0_ n1_ n2_ n3_ n4_ n5_ n6_ n7_ n8_ n9_ n10_; (try clear hb); (try clear hb2); (try clear hk); (try clear hi)))
  have n0_ := Aside0.mk (Kd.R_drew HO230.out)
  have n1_ := Aside0.mk (Kd.R_drew HO234.out)
  have n2_ := Aside0.mk (Kd.S_drew HO237.out)
  have n3_ := Aside0.mk (Kd.R_drew HO240.out)
  have n4_ := Aside0.mk (Kd.R_drew HO244.out)
  have n5_ := Aside0.mk (Kd.R_drew HO248.out)
  have n6_ := Aside0.mk (Kd.S_drew HO251.out)
  have n7_ := Aside0.mk (Kd.R_drew HO254.out)
  have n8_ := Aside0.mk (blk_drew BK226.out)
  have n9_ := Aside0.mk (blk_drew BK255.out)
  have n10_ := Aside0.mk (below_drew1 HB.out)
  clear HO230
  clear HO234
  clear HO237
  clear HO240
  clear HO244
  clear HO248
  clear HO251
  clear HO254
  clear BK226
  clear BK255
  clear HB
  have HO230 := n0_
  have HO234 := n1_
  have HO237 := n2_
  have HO240 := n3_
  have HO244 := n4_
  have HO248 := n5_
  have HO251 := n6_
  have HO254 := n7_
  have BK226 := n8_
  have BK255 := n9_
  have HB := n10_
  clear n0_ n1_ n2_ n3_ n4_ n5_ n6_ n7_ n8_ n9_ n10_
  refine start_ (n := 5) (S := fun w' => w'.cell? ⟨gb255, 0, none⟩ = some (.slice Ao28 t242.length co28) ∧ w'.cell? ⟨gb255, 1, none⟩ = some (.int .i64 t245) ∧ w'.cell? ⟨gb255, 2, none⟩ = some (.slice Ao31 t246.length co31) ∧ w'.cell? ⟨gb255, 3, none⟩ = some (.slice Ao32 t249.length co32) ∧ w'.cell? ⟨gb255, 4, none⟩ = some (.slice Ao33 t252.length co33) ∧ w'.cell? ⟨gb226, 0, none⟩ = some (.slice A0_0 l0_0.length c0_0) ∧ w'.cell? ⟨gb226, 1, none⟩ = some (.int .i64 a0_1) ∧ w'.cell? ⟨gb226, 2, none⟩ = some (.slice A0_2 l0_2.length c0_2) ∧ w'.cell? ⟨gb226, 3, none⟩ = some (.slice A0_3 l0_3.length c0_3) ∧ w'.cell? ⟨gb226, 4, none⟩ = some (.slice A0_4 l0_4.length c0_4)) (ds := []) #[false, false, false, false, false] (by kernel_rfl) rfl rfl ⟨(blk_cell BK255.out 0).trans rfl, (blk_cell BK255.out 1).trans rfl, (blk_cell BK255.out 2).trans rfl, (blk_cell BK255.out 3).trans rfl, (blk_cell BK255.out 4).trans rfl, (blk_cell BK226.out 0).trans rfl, (blk_cell BK226.out 1).trans rfl, (blk_cell BK226.out 2).trans rfl, (blk_cell BK226.out 3).trans rfl, (blk_cell BK226.out 4).trans rfl⟩ (fun hHeld => ?_)
  generalize w34.drew = w35 at HO230 HO234 HO237 HO240 HO244 HO248 HO251 HO254 BK226 BK255 HB hHeld ⊢
  refine take_ (i := 0) (N := some 22) (v := ?_) (a' := ?_) #[true, false, false, false, false] rfl rfl (by kernel_rfl) (fun _ _ _ h => h) (Or.inl ⟨by rfl, ?_⟩) hHeld ?_ ?_
  rotate_left
  ·rintro w' ⟨s0, s1, s2, s3, s4, s5, s6, s7, s8, s9⟩
   go_simp
   with_reducible rfl
  rotate_left
  ·simp only [Act.put, List.setIfInBounds_toArray, List.set_cons_zero, List.set_cons_succ, i64_w, i32_w]
   rfl
  refine take_ (i := 1) (N := some 23) (v := ?_) (a' := ?_) #[true, true, false, false, false] rfl rfl (by kernel_rfl) (fun _ _ _ h => h) (Or.inl ⟨by rfl, ?_⟩) hHeld ?_ ?_
  rotate_left
  ·rintro w' ⟨s0, s1, s2, s3, s4, s5, s6, s7, s8, s9⟩
   go_simp
   with_reducible rfl
  rotate_left
  ·simp only [Act.put, List.setIfInBounds_toArray, List.set_cons_zero, List.set_cons_succ, i64_w, i32_w]
   rfl
  refine one_ (i := 2) (N := some 24) #[true, true, true, false, false] rfl rfl (by kernel_rfl) (by decide) (fun K hK => ?_)
  refine goes_ Try.func38 (by kernel_rfl) rfl #[.agg #[.slice A0_0 l0_0.length c0_0, .int .i64 a0_1, .slice A0_2 l0_2.length c0_2, .slice A0_3 l0_3.length c0_3, .slice A0_4 l0_4.length c0_4]] (by rfl) rfl rfl (by (try simp only [List.map_toArray, List.map_cons, List.map_nil]); first | done | rfl | (simp only [List.length_drop, List.length_take]; rfl)) ?_
  with_reducible refine (laws_toConsole.calls k _ _ l0_0 a0_1 _ _ l0_2 _ _ l0_3 _ _ l0_4 t257 t260 t261 t264 t267 _ ?side1 ?side2 ?side3 ?side4 ?side5 ?side6 ?side7 ?side8 A12.out).mono ?_
  (case side1 => exact sD (Kd.C_below HR0_0.out HB.out))
  (case side2 => exact HC0_0.out)
  (case side3 => exact sD (Kd.C_below HR0_2.out HB.out))
  (case side4 => exact HC0_2.out)
  (case side5 => exact sD (Kd.C_below HR0_3.out HB.out))
  (case side6 => exact HC0_3.out)
  (case side7 => exact sD (Kd.C_below HR0_4.out HB.out))
  (case side8 => exact HC0_4.out)
  rintro e w36 ⟨v258, v262, v265, v268, rfl, ho0, ho1, ho2, ho3, hb⟩
  refine ⟨_, rfl, ?_⟩
  have n0_ := Aside0.mk (Kd.R_mono (Kd.R_told (Kd.R_told (Kd.R_told (Kd.R_old (sE HO230.out) hb) (Kd.R_base ho0)) (Kd.R_base ho1)) (Kd.R_base ho3)) (fun _ h_ => h_.1))
  have n1_ := Aside0.mk (Kd.R_mono (Kd.R_told (Kd.R_told (Kd.R_told (Kd.R_old (sE HO234.out) hb) (Kd.R_base ho0)) (Kd.R_base ho1)) (Kd.R_base ho3)) (fun _ h_ => h_.1))
  have n2_ := Aside0.mk (Kd.S_mono (Kd.S_told (Kd.S_told (Kd.S_told (Kd.S_told (Kd.S_old (sI HO237.out) hb) (Kd.R_base ho0)) (Kd.R_base ho1)) (Kd.S_base ho2)) (Kd.R_base ho3)) (fun _ h_ => h_.1))
  have n3_ := Aside0.mk (Kd.R_mono (Kd.R_told (Kd.R_told (Kd.R_told (Kd.R_old (sE HO240.out) hb) (Kd.R_base ho0)) (Kd.R_base ho1)) (Kd.R_base ho3)) (fun _ h_ => h_.1))
  have n4_ := Aside0.mk (Kd.R_mono (Kd.R_told (Kd.R_told (Kd.R_told (Kd.R_old (sE HO244.out) hb) (Kd.R_base ho0)) (Kd.R_base ho1)) (Kd.R_base ho3)) (fun _ h_ => h_.1))
  have n5_ := Aside0.mk (Kd.R_mono (Kd.R_told (Kd.R_told (Kd.R_told (Kd.R_old (sE HO248.out) hb) (Kd.R_base ho0)) (Kd.R_base ho1)) (Kd.R_base ho3)) (fun _ h_ => h_.1))
  have n6_ := Aside0.mk (Kd.S_mono (Kd.S_told (Kd.S_told (Kd.S_told (Kd.S_told (Kd.S_old (sI HO251.out) hb) (Kd.R_base ho0)) (Kd.R_base ho1)) (Kd.S_base ho2)) (Kd.R_base ho3)) (fun _ h_ => h_.1))
  have n7_ := Aside0.mk (Kd.R_mono (Kd.R_told (Kd.R_told (Kd.R_told (Kd.R_old (sE HO254.out) hb) (Kd.R_base ho0)) (Kd.R_base ho1)) (Kd.R_base ho3)) (fun _ h_ => h_.1))
  have n8_ := Aside0.mk (Kd.R_lower (Kd.R_new' (Kd.R_new' (Kd.R_new' (Kd.R_new' (Kd.R_new' (Kd.R_new' ho0 (Kd.R_lt (sE HO230.out))) (Kd.R_lt (sE HO234.out))) (Kd.R_lt (sE HO240.out))) (Kd.R_lt (sE HO244.out))) (Kd.R_lt (sE HO248.out))) (Kd.R_lt (sE HO254.out))) (below_size (by repeat (first | (with_reducible first | exact HB.out | apply below_alloc | apply pw_below_drewN | apply below_drew1 | refine below_set ?_ GE226.out | refine below_set ?_ GE255.out) | exact HB.out))))
  have n9_ := Aside0.mk (Kd.R_lower (Kd.R_new' (Kd.R_new' (Kd.R_new' (Kd.R_new' (Kd.R_new' (Kd.R_new' ho1 (Kd.R_lt (sE HO230.out))) (Kd.R_lt (sE HO234.out))) (Kd.R_lt (sE HO240.out))) (Kd.R_lt (sE HO244.out))) (Kd.R_lt (sE HO248.out))) (Kd.R_lt (sE HO254.out))) (below_size (by repeat (first | (with_reducible first | exact HB.out | apply below_alloc | apply pw_below_drewN | apply below_drew1 | refine below_set ?_ GE226.out | refine below_set ?_ GE255.out) | exact HB.out))))
  have n10_ := Aside0.mk (Kd.S_lower (Kd.S_new' (Kd.S_new' (Kd.S_new' (Kd.S_new' (Kd.S_new' (Kd.S_new' (Kd.S_new' (Kd.S_new' ho2 (Kd.R_lt (sE HO230.out))) (Kd.R_lt (sE HO234.out))) (Kd.S_lt (sI HO237.out))) (Kd.R_lt (sE HO240.out))) (Kd.R_lt (sE HO244.out))) (Kd.R_lt (sE HO248.out))) (Kd.S_lt (sI HO251.out))) (Kd.R_lt (sE HO254.out))) (below_size (by repeat (first | (with_reducible first | exact HB.out | apply below_alloc | apply pw_below_drewN | apply below_drew1 | refine below_set ?_ GE226.out | refine below_set ?_ GE255.out) | exact HB.out))))
  have n11_ := Aside0.mk (Kd.R_lower (Kd.R_new' (Kd.R_new' (Kd.R_new' (Kd.R_new' (Kd.R_new' (Kd.R_new' ho3 (Kd.R_lt (sE HO230.out))) (Kd.R_lt (sE HO234.out))) (Kd.R_lt (sE HO240.out))) (Kd.R_lt (sE HO244.out))) (Kd.R_lt (sE HO248.out))) (Kd.R_lt (sE HO254.out))) (below_size (by repeat (first | (with_reducible first | exact HB.out | apply below_alloc | apply pw_below_drewN | apply below_drew1 | refine below_set ?_ GE226.out | refine below_set ?_ GE255.out) | exact HB.out))))
  have n12_ := sK BK226 hb
  have n13_ := sK BK255 hb
  have n14_ := sB HB hb
  clear HO230
  clear HO234
  clear HO237
  clear HO240
  clear HO244
  clear HO248
  clear HO251
  clear HO254
  clear BK226
  clear BK255
  clear HB
  have HO230 := n0_
  have HO234 := n1_
  have HO237 := n2_
  have HO240 := n3_
  have HO244 := n4_
  have HO248 := n5_
  have HO251 := n6_
  have HO254 := n7_
  have HO259 := n8_
  have HO263 := n9_
  have HO266 := n10_
  have HO269 := n11_
  have BK226 := n12_
  have BK255 := n13_
  have HB := n14_
  clear n0_ n1_ n2_ n3_ n4_ n5_ n6_ n7_ n8_ n9_ n10_ n11_ n12_ n13_ n14_
  (try clear hb)
  (try clear hb2)
  (try clear hk)
  (try clear hi)
  (try clear ho0)
  (try clear ho1)
  (try clear ho2)
  (try clear ho3)
  obtain ⟨Ao37, co37, eo37⟩ := Kd.R_slice HO259.out
  (first | subst eo37 | (injection eo37 with f1_ f2_ f3_; have f4_ := f1_.symm; have f5_ := f3_.symm; clear f1_ f2_ f3_; subst f4_; subst f5_))
  obtain ⟨Ao38, co38, eo38⟩ := Kd.R_slice HO263.out
  (first | subst eo38 | (injection eo38 with f1_ f2_ f3_; have f4_ := f1_.symm; have f5_ := f3_.symm; clear f1_ f2_ f3_; subst f4_; subst f5_))
  obtain ⟨Ao39, co39, eo39⟩ := Kd.S_slice HO266.out
  (first | subst eo39 | (injection eo39 with f1_ f2_ f3_; have f4_ := f1_.symm; have f5_ := f3_.symm; clear f1_ f2_ f3_; subst f4_; subst f5_))
  obtain ⟨Ao40, co40, eo40⟩ := Kd.R_slice HO269.out
  (first | subst eo40 | (injection eo40 with f1_ f2_ f3_; have f4_ := f1_.symm; have f5_ := f3_.symm; clear f1_ f2_ f3_; subst f4_; subst f5_))
  refine hK.out _ _ ⟨(blk_cell BK255.out 0).trans rfl, (blk_cell BK255.out 1).trans rfl, (blk_cell BK255.out 2).trans rfl, (blk_cell BK255.out 3).trans rfl, (blk_cell BK255.out 4).trans rfl, (blk_cell BK226.out 0).trans rfl, (blk_cell BK226.out 1).trans rfl, (blk_cell BK226.out 2).trans rfl, (blk_cell BK226.out 3).trans rfl, (blk_cell BK226.out 4).trans rfl⟩ (fun hHeld => ?_)
  clear hK K
  refine norm_ (a' := ?_) ?_ ?_
  rotate_left
  ·show Act.put _ (some 24) _ = _
   simp only [Act.put, List.setIfInBounds_toArray, List.set_cons_zero, List.set_cons_succ, i64_w, i32_w]
   rfl
  refine one_ (i := 3) (N := some 25) #[true, true, true, true, false] rfl rfl (by kernel_rfl) (by decide) (fun K hK => ?_)
  refine goes_ Try.func40 (by kernel_rfl) rfl #[.agg #[.slice Ao28 t242.length co28, .int .i64 t245, .slice Ao31 t246.length co31, .slice Ao32 t249.length co32, .slice Ao33 t252.length co33], .agg #[.slice Ao37 t257.length co37, .int .i64 t260, .slice Ao38 t261.length co38, .slice Ao39 t264.length co39, .slice Ao40 t267.length co40]] (by rfl) rfl rfl (by (try simp only [List.map_toArray, List.map_cons, List.map_nil]); first | done | rfl | (simp only [List.length_drop, List.length_take]; rfl)) ?_
  with_reducible refine (laws_eqConsole.calls k _ _ t242 t245 _ _ t246 _ _ t249 _ _ t252 _ _ t257 t260 _ _ t261 _ _ t264 _ _ t267 true _ ?side1 ?side2 ?side3 ?side4 ?side5 ?side6 ?side7 ?side8 ?side9 ?side10 ?side11 ?side12 ?side13 ?side14 ?side15 ?side16 A13.out).mono ?_
  (case side1 => exact sD ((Kd.R_reads' HO244.out).2.2))
  (case side2 => exact (Kd.R_reads' HO244.out).2.1)
  (case side3 => exact sD ((Kd.R_reads' HO248.out).2.2))
  (case side4 => exact (Kd.R_reads' HO248.out).2.1)
  (case side5 => exact sD ((Kd.S_reads' HO251.out).2.2))
  (case side6 => exact (Kd.S_reads' HO251.out).2.1)
  (case side7 => exact sD ((Kd.R_reads' HO254.out).2.2))
  (case side8 => exact (Kd.R_reads' HO254.out).2.1)
  (case side9 => exact sD ((Kd.R_reads' HO259.out).2.2))
  (case side10 => exact (Kd.R_reads' HO259.out).2.1)
  (case side11 => exact sD ((Kd.R_reads' HO263.out).2.2))
  (case side12 => exact (Kd.R_reads' HO263.out).2.1)
  (case side13 => exact sD ((Kd.S_reads' HO266.out).2.2))
  (case side14 => exact (Kd.S_reads' HO266.out).2.1)
  (case side15 => exact sD ((Kd.R_reads' HO269.out).2.2))
  (case side16 => exact (Kd.R_reads' HO269.out).2.1)
  rintro e w41 ⟨rfl, hb⟩
  refine ⟨_, rfl, ?_⟩
  have n0_ := Aside0.mk (Kd.R_below (sE HO230.out) hb)
  have n1_ := Aside0.mk (Kd.R_below (sE HO234.out) hb)
  have n2_ := Aside0.mk (Kd.S_below (sI HO237.out) hb)
  have n3_ := Aside0.mk (Kd.R_below (sE HO240.out) hb)
  have n4_ := Aside0.mk (Kd.R_below (sE HO244.out) hb)
  have n5_ := Aside0.mk (Kd.R_below (sE HO248.out) hb)
  have n6_ := Aside0.mk (Kd.S_below (sI HO251.out) hb)
  have n7_ := Aside0.mk (Kd.R_below (sE HO254.out) hb)
  have n8_ := Aside0.mk (Kd.R_below (sE HO259.out) hb)
  have n9_ := Aside0.mk (Kd.R_below (sE HO263.out) hb)
  have n10_ := Aside0.mk (Kd.S_below (sI HO266.out) hb)
  have n11_ := Aside0.mk (Kd.R_below (sE HO269.out) hb)
  have n12_ := sK BK226 hb
  have n13_ := sK BK255 hb
  have n14_ := sB HB hb
  clear HO230
  clear HO234
  clear HO237
  clear HO240
  clear HO244
  clear HO248
  clear HO251
  clear HO254
  clear HO259
  clear HO263
  clear HO266
  clear HO269
  clear BK226
  clear BK255
  clear HB
  have HO230 := n0_
  have HO234 := n1_
  have HO237 := n2_
  have HO240 := n3_
  have HO244 := n4_
  have HO248 := n5_
  have HO251 := n6_
  have HO254 := n7_
  have HO259 := n8_
  have HO263 := n9_
  have HO266 := n10_
  have HO269 := n11_
  have BK226 := n12_
  have BK255 := n13_
  have HB := n14_
  clear n0_ n1_ n2_ n3_ n4_ n5_ n6_ n7_ n8_ n9_ n10_ n11_ n12_ n13_ n14_
  (try clear hb)
  (try clear hb2)
  (try clear hk)
  (try clear hi)
  refine hK.out _ _ ⟨(blk_cell BK255.out 0).trans rfl, (blk_cell BK255.out 1).trans rfl, (blk_cell BK255.out 2).trans rfl, (blk_cell BK255.out 3).trans rfl, (blk_cell BK255.out 4).trans rfl, (blk_cell BK226.out 0).trans rfl, (blk_cell BK226.out 1).trans rfl, (blk_cell BK226.out 2).trans rfl, (blk_cell BK226.out 3).trans rfl, (blk_cell BK226.out 4).trans rfl⟩ (fun hHeld => ?_)
  clear hK K
  refine norm_ (a' := ?_) ?_ ?_
  rotate_left
  ·show Act.put _ (some 25) _ = _
   simp only [Act.put, List.setIfInBounds_toArray, List.set_cons_zero, List.set_cons_succ, i64_w, i32_w]
   rfl
  refine pure_ (i := 4) (N := some 26) (v := ?_) (a' := ?_) #[true, true, true, true, true] rfl rfl (by kernel_rfl) (fun _ _ _ h => h) (Or.inl ⟨by rfl, ?_⟩) ?_ ?_
  rotate_left
  ·intro w'
   go_simp
   with_reducible rfl
  rotate_left
  ·simp only [Act.put, List.setIfInBounds_toArray, List.set_cons_zero, List.set_cons_succ, i64_w, i32_w]
   rfl
  refine done_ (by kernel_rfl) ?_
  try go_wp2
  go_ret
  exact ⟨sq, sb⟩
 replace c14 := Bool.eq_false_iff.mpr c14
 subst c14
 rewrite [if_neg (show ¬ (false = true) by decide)] at H
 exact absurd H (by simp)
end Go.Proofs.Ytabbpnkbhapibaa.PFnExactValidConsole
