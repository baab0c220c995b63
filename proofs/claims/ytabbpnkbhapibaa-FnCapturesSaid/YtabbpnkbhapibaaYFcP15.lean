/- Printed functions: laws_FnCaptures. -/
import Derived.Test.YtabbpnkbhapibaaYFcP0
import Derived.Test.YtabbpnkbhapibaaYFcPE
import Derived.Test.YtabbpnkbhapibaaYFcP3
import Derived.Test.YtabbpnkbhapibaaYFcP12
import Derived.Test.YtabbpnkbhapibaaYFcP14
namespace Go.Proofs.Ytabbpnkbhapibaa.PFnExactFinalOf
open Go.RowKit Go.Proofs.YtabbpnkbhapibaaG Go.Proofs.YtabbpnkbhapibaaW.PrintWords Go.Proofs.YtabbpnkbhapibaaW.PrintLast Go.Proofs.YtabbpnkbhapibaaW.PrintMore
attribute [local go_sem] max2_int min2_int max_two min_two max_three min_three max_four min_four   -- for this text's walks alone
set_option linter.unusedVariables false
set_option linter.unusedSimpArgs false
section
attribute [local go_sem high] eqA37
/-! ### laws_FnCaptures: function 4 -/
mutual
def laws_FnCaptures.l0 : Nat → List (S37) → List (S37) → Int → Int → Int → Int → List (S35) → Option (Bool)
 | 0, _, _, _, _, _, _, _ => none
 | k + 1, x4, x5, x6, x7, x353000, x353001, x353002 => if x7 < (x353002.length : Int) then (if 0 ≤ x7 then (if ((rd_T35 x353002 x7).f3) < 1 then (laws_FnCaptures.j1 k x4 x5 x6 x7 true x353000 x353001 x353002) else (laws_FnCaptures.j1 k x4 x5 x6 x7 (decide (((rd_T35 x353002 x7).f3) > 3)) x353000 x353001 x353002)) else (none)) else (if (x4.length : Int) = x6 then (laws_FnCaptures.j2 k x4 x5 (decide ((x5.length : Int) > x6))) else (laws_FnCaptures.j2 k x4 x5 true))
def laws_FnCaptures.j1 : Nat → List (S37) → List (S37) → Int → Int → Bool → Int → Int → List (S35) → Option (Bool)
 | 0, _, _, _, _, _, _, _, _ => none
 | k + 1, x4, x5, x6, x7, x42, x353000, x353001, x353002 => if x42 = true then (laws_FnCaptures.l0 k x4 x5 x6 (wrap64 (x7 + 1)) x353000 x353001 x353002) else (laws_FnCaptures.l0 k x4 x5 (wrap64 (x6 + 1)) (wrap64 (x7 + 1)) x353000 x353001 x353002)
def laws_FnCaptures.j2 : Nat → List (S37) → List (S37) → Bool → Option (Bool)
 | 0, _, _, _ => none
 | k + 1, x4, x5, x54 => if x54 = true then (some false) else (laws_FnCaptures.l1 k x4 x5 0)
def laws_FnCaptures.l1 : Nat → List (S37) → List (S37) → Int → Option (Bool)
 | 0, _, _, _ => none
 | k + 1, x4, x5, x9 => if x9 < (x5.length : Int) then (if 0 ≤ x9 then (if x9 < (x4.length : Int) then (if (!((((rd_T37 x4 x9).f0).toList) == (((rd_T37 x5 x9).f0).toList)) || (!((((rd_T37 x4 x9).f1).toList) == (((rd_T37 x5 x9).f1).toList)) || (!(((rd_T37 x4 x9).f2) == ((rd_T37 x5 x9).f2)) || (!(((rd_T37 x4 x9).f3) == ((rd_T37 x5 x9).f3)))))) = true then (some false) else (laws_FnCaptures.l1 k x4 x5 (wrap64 (x9 + 1)))) else (none)) else (none)) else ((impl_FinalOf.f k x4).bind fun t363 => ((impl_FinalOf.f k t363).bind fun t366 => (if (t366.length : Int) = (t363.length : Int) then (laws_FnCaptures.l2 k x4 t363 t366 0) else (some false))))
def laws_FnCaptures.l2 : Nat → List (S37) → List (S37) → List (S37) → Int → Option (Bool)
 | 0, _, _, _, _ => none
 | k + 1, x4, x10, x11, x12 => if x12 < (x10.length : Int) then (if 0 ≤ x12 then (if x12 < (x11.length : Int) then (if (!((((rd_T37 x11 x12).f0).toList) == (((rd_T37 x10 x12).f0).toList)) || (!((((rd_T37 x11 x12).f1).toList) == (((rd_T37 x10 x12).f1).toList)) || (!(((rd_T37 x11 x12).f2) == ((rd_T37 x10 x12).f2)) || (!(((rd_T37 x11 x12).f3) == ((rd_T37 x10 x12).f3)))))) = true then (some false) else (laws_FnCaptures.l3 k x4 x10 x11 x12 (wrap64 ((x4.length : Int) - 1)))) else (none)) else (none)) else (some true)
def laws_FnCaptures.l3 : Nat → List (S37) → List (S37) → List (S37) → Int → Int → Option (Bool)
 | 0, _, _, _, _, _ => none
 | k + 1, x4, x10, x11, x12, x13 => if x13 ≥ 0 then (if 0 ≤ x13 then (if x13 < (x4.length : Int) then (if 0 ≤ x12 then (if x12 < (x10.length : Int) then (laws_FnCaptures.j6 k x4 x10 x11 x12 x13 (((rd_T37 x4 x13).f0).toList != ((rd_T37 x10 x12).f0).toList)) else (none)) else (none)) else (none)) else (none)) else (laws_FnCaptures.j6 k x4 x10 x11 x12 x13 false)
def laws_FnCaptures.j6 : Nat → List (S37) → List (S37) → List (S37) → Int → Int → Bool → Option (Bool)
 | 0, _, _, _, _, _, _ => none
 | k + 1, x4, x10, x11, x12, x13, x111 => if x111 = true then (laws_FnCaptures.l3 k x4 x10 x11 x12 (wrap64 (x13 - 1))) else (if x13 < 0 then (laws_FnCaptures.j7 k x4 x10 x11 x12 true) else (if 0 ≤ x13 then (if x13 < (x4.length : Int) then (if 0 ≤ x12 then (if x12 < (x10.length : Int) then (laws_FnCaptures.j7 k x4 x10 x11 x12 (!((((rd_T37 x4 x13).f0).toList) == (((rd_T37 x10 x12).f0).toList)) || (!((((rd_T37 x4 x13).f1).toList) == (((rd_T37 x10 x12).f1).toList)) || (!(((rd_T37 x4 x13).f2) == ((rd_T37 x10 x12).f2)) || (!(((rd_T37 x4 x13).f3) == ((rd_T37 x10 x12).f3))))))) else (none)) else (none)) else (none)) else (none)))
def laws_FnCaptures.j7 : Nat → List (S37) → List (S37) → List (S37) → Int → Bool → Option (Bool)
 | 0, _, _, _, _, _ => none
 | k + 1, x4, x10, x11, x12, x126 => if x126 = true then (some false) else (laws_FnCaptures.l2 k x4 x10 x11 (wrap64 (x12 + 1)))
end
def laws_FnCaptures.f (k : Nat) (l0 : List Int) : Option (Bool) := if (l0.length : Int) > 1048576 then (some true) else ((spec_A8Match.f k l0).bind fun bt347 => ((impl_AssignmentsOf.f k bt347.1 bt347.2.1 bt347.2.2).bind fun t353 => ((impl_ImmediateOf.f k bt347.1 bt347.2.1 bt347.2.2).bind fun t356 => (laws_FnCaptures.l0 k t353 t356 0 0 bt347.1 bt347.2.1 bt347.2.2))))
set_option maxHeartbeats 8000000 in
set_option maxRecDepth 100000 in
theorem laws_FnCaptures.calls (k : Nat) (A0 : Option Addr) (c0 : Nat) (l0 : List Int) (r : Bool) (w : World) (hr0 : Kd.C (Kd.int .u8) w A0 l0.length l0) (hc0 : l0.length ≤ c0) (h : laws_FnCaptures.f k l0 = some r) :
  Calls Try.prog 4 #[.slice A0 l0.length c0] w fun e w' => e = .returned (.bool r) ∧ Below w.heap.size w w' := by
 have hu30 := Try.underlying30
 have hu35 := Try.underlying35
 have hu37 := Try.underlying37
 have HR0 := Aside0.mk hr0
 have HC0 := Aside0.mk hc0
 clear hr0 hc0
 have HB := Aside0.mk (Below.refl w.heap.size w)
 have H : (if (l0.length : Int) > 1048576 then (some true) else ((spec_A8Match.f k l0).bind fun bt347 => ((impl_AssignmentsOf.f k bt347.1 bt347.2.1 bt347.2.2).bind fun t353 => ((impl_ImmediateOf.f k bt347.1 bt347.2.1 bt347.2.2).bind fun t356 => (laws_FnCaptures.l0 k t353 t356 0 0 bt347.1 bt347.2.1 bt347.2.2))))) = some r := h
 clear h
 by_cases c2 : (l0.length : Int) > 1048576
 ·rw [if_pos c2] at H
  have c2b0 : decide (1048576 < (l0.length : Int)) = true := decide_eq_true c2
  have c2b1 : decide (1048576 < l0.length) = true := decide_eq_true (by omega)
  clear c2
  obtain rfl := Option.some.inj H
  go_enter Try.func4, Try.ntmps4
  go_wp2
  repeat (go_quiet (fail); try go_wp2)
  go_ret
  exact ⟨sq, sb⟩
 rw [if_neg c2] at H
 have c2b0 : decide (1048576 < (l0.length : Int)) = false := decide_eq_false c2
 have c2b1 : decide (1048576 < l0.length) = false := decide_eq_false (by omega)
 clear c2
 replace H := Option.bind_eq_some_iff.mp H
 obtain ⟨⟨t347, t348, t349⟩, A30, H⟩ := H
 replace H : ((impl_AssignmentsOf.f k t347 t348 t349).bind fun t353 => ((impl_ImmediateOf.f k t347 t348 t349).bind fun t356 => (laws_FnCaptures.l0 k t353 t356 0 0 t347 t348 t349))) = some r := H
 have A3 := Aside0.mk A30
 clear A30
 obtain ⟨t353, A4, H⟩ := sO H
 obtain ⟨t356, A5, H⟩ := sO H
 have H' := Aside0.mk H
 clear H
 go_enter Try.func4, Try.ntmps4
 go_wp2_with (first | (go_at_call 16; (with_reducible refine (spec_A8Match.calls k _ _ l0 t347 t348 t349 _ ?side1 ?side2 A3.out).mono ?_); (case side1 => exact sD HR0.out); (case side2 => exact HC0.out); rintro e w6 ⟨v350, rfl, ho0, hb⟩; have n0_ := Aside0.mk (Kd.R_lower ho0 (below_size (sH HB.out))); have n1_ := sB HB hb; clear HB; have HO351 := n0_; have HB := n1_; clear n0_ n1_; (try clear hb); (try clear hb2); (try clear hk); (try clear hi); (try clear ho0)) | ((with_reducible refine gate_dst (N := 3) rfl ?_); (try (refine gate_guard (by rfl) ?_; dsimp only)); refine sV (N := 3) (cs := #[.int .i64 0, .int .i64 0, .slice none 0 0]) (t := 30) ?_; intro gb352 hg w7 hbox hb; have n0_ := Aside0.mk (Kd.R_below (sE HO351.out) hb); have n1_ := sB HB hb; have n2_ := Aside0.mk (hbox); have n3_ := sG HB hg; have n4_ := sG HB hg; clear HO351; clear HB; have HO351 := n0_; have HB := n1_; have BK352 := n2_; have GW352 := n3_; have GE352 := n4_; clear n0_ n1_ n2_ n3_ n4_; clear hb hbox hg; obtain ⟨hcz8_0, hcz8_1, hcz8_2, hfz8_0, hfz8_1, hfz8_2⟩ := cells3 BK352.out; obtain ⟨Ao9, co9, eo9⟩ := Kd.R_slice HO351.out; subst eo9) | (go_at_call 17; (with_reducible refine (impl_AssignmentsOf.calls k t347 t348 _ _ t349 t353 _ ?side1 ?side2 A4.out).mono ?_); (case side1 => refine (Kd.R_reads' (e := 35) (base := w.heap.size) (ok := fun k_ => True) (n := t349.length) (c := co9) ?_).2.2; exact (by (with_reducible repeat (first | apply Kd.R_alloc | apply Kd.R_drewN | apply Kd.R_drew)); exact (Kd.R_mono (Kd.R_far (p := ⟨gb352, 2, none⟩) (Kd.R_far (p := ⟨gb352, 1, none⟩) (Kd.R_far (p := ⟨gb352, 0, none⟩) (Kd.R_types HO351.out BK352.out (by decide)) (fun _ hk => hk.2) (.int .i64 t347)) (fun _ hk => hk.2) (.int .i64 t348)) (fun _ hk => hk.2) (.slice Ao9 t349.length co9)) (fun _ h_ => h_.1)))); (case side2 => exact (Kd.R_reads' HO351.out).2.1); rintro e w10 ⟨v354, rfl, ho0, hb⟩; have n0_ := Aside0.mk (Kd.R_below (by (with_reducible repeat (first | apply Kd.R_alloc | apply Kd.R_drewN | apply Kd.R_drew)); exact (Kd.R_mono (Kd.R_far (p := ⟨gb352, 2, none⟩) (Kd.R_far (p := ⟨gb352, 1, none⟩) (Kd.R_far (p := ⟨gb352, 0, none⟩) (Kd.R_types HO351.out BK352.out (by decide)) (fun _ hk => hk.2) (.int .i64 t347)) (fun _ hk => hk.2) (.int .i64 t348)) (fun _ hk => hk.2) (.slice Ao9 t349.length co9)) (fun _ h_ => h_.1))) hb); have n1_ := Aside0.mk (Kd.R_lower ho0 (below_size (by repeat (first | (with_reducible first | exact HB.out | apply below_alloc | apply pw_below_drewN | apply below_drew1 | refine below_set ?_ GE352.out) | exact HB.out)))); have n2_ := Aside0.mk (blk_below (g := gb352) (o := .cells #[.int .i64 t347, .int .i64 t348, .slice Ao9 t349.length co9] 30 (0, 0)) (by exact sP3 (sT BK352.out)) hb); have n3_ := sB HB hb; clear HO351; clear BK352; clear HB; have HO351 := n0_; have HO355 := n1_; have BK352 := n2_; have HB := n3_; clear n0_ n1_ n2_ n3_; (try clear hb); (try clear hb2); (try clear hk); (try clear hi); (try clear ho0); obtain ⟨hcz11_0, hcz11_1, hcz11_2, hfz11_0, hfz11_1, hfz11_2⟩ := cells3 BK352.out) | (go_at_call 18; (with_reducible refine (impl_ImmediateOf.calls k t347 t348 _ _ t349 t356 _ ?side1 ?side2 A5.out).mono ?_); (case side1 => exact sD ((Kd.R_reads' HO351.out).2.2)); (case side2 => exact (Kd.R_reads' HO351.out).2.1); rintro e w12 ⟨v357, rfl, ho0, hb⟩; have n0_ := Aside0.mk (Kd.R_below (sE HO351.out) hb); have n1_ := Aside0.mk (Kd.R_elder' (sE HO355.out) (Kd.R_base ho0) hb); have n2_ := Aside0.mk (Kd.R_lower (Kd.R_new' ho0 (Kd.R_lt (sE HO355.out))) (below_size (by repeat (first | (with_reducible first | exact HB.out | apply below_alloc | apply pw_below_drewN | apply below_drew1 | refine below_set ?_ GE352.out) | exact HB.out)))); have n3_ := sK BK352 hb; have n4_ := sB HB hb; clear HO351; clear HO355; clear BK352; clear HB; have HO351 := n0_; have HO355 := n1_; have HO358 := n2_; have BK352 := n3_; have HB := n4_; clear n0_ n1_ n2_ n3_ n4_; (try clear hb); (try clear hb2); (try clear hk); (try clear hi); (try clear ho0)))
 repeat (go_quiet (first | (go_at_call 16; (with_reducible refine (spec_A8Match.calls k _ _ l0 t347 t348 t349 _ ?side1 ?side2 A3.out).mono ?_); (case side1 => exact sD HR0.out); (case side2 => exact HC0.out); rintro e w6 ⟨v350, rfl, ho0, hb⟩; have n0_ := Aside0.mk (Kd.R_lower ho0 (below_size (sH HB.out))); have n1_ := sB HB hb; clear HB; have HO351 := n0_; have HB := n1_; clear n0_ n1_; (try clear hb); (try clear hb2); (try clear hk); (try clear hi); (try clear ho0)) | ((with_reducible refine gate_dst (N := 3) rfl ?_); (try (refine gate_guard (by rfl) ?_; dsimp only)); refine sV (N := 3) (cs := #[.int .i64 0, .int .i64 0, .slice none 0 0]) (t := 30) ?_; intro gb352 hg w7 hbox hb; have n0_ := Aside0.mk (Kd.R_below (sE HO351.out) hb); have n1_ := sB HB hb; have n2_ := Aside0.mk (hbox); have n3_ := sG HB hg; have n4_ := sG HB hg; clear HO351; clear HB; have HO351 := n0_; have HB := n1_; have BK352 := n2_; have GW352 := n3_; have GE352 := n4_; clear n0_ n1_ n2_ n3_ n4_; clear hb hbox hg; obtain ⟨hcz8_0, hcz8_1, hcz8_2, hfz8_0, hfz8_1, hfz8_2⟩ := cells3 BK352.out; obtain ⟨Ao9, co9, eo9⟩ := Kd.R_slice HO351.out; subst eo9) | (go_at_call 17; (with_reducible refine (impl_AssignmentsOf.calls k t347 t348 _ _ t349 t353 _ ?side1 ?side2 A4.out).mono ?_); (case side1 => refine (Kd.R_reads' (e := 35) (base := w.heap.size) (ok := fun k_ => True) (n := t349.length) (c := co9) ?_).2.2; exact (by (with_reducible repeat (first | apply Kd.R_alloc | apply Kd.R_drewN | apply Kd.R_drew)); exact (Kd.R_mono (Kd.R_far (p := ⟨gb352, 2, none⟩) (Kd.R_far (p := ⟨gb352, 1, none⟩) (Kd.R_far (p := ⟨gb352, 0, none⟩) (Kd.R_types HO351.out BK352.out (by decide)) (fun _ hk => hk.2) (.int .i64 t347)) (fun _ hk => hk.2) (.int .i64 t348)) (fun _ hk => hk.2) (.slice Ao9 t349.length co9)) (fun _ h_ => h_.1)))); (case side2 => exact (Kd.R_reads' HO351.out).2.1); rintro e w10 ⟨v354, rfl, ho0, hb⟩; have n0_ := Aside0.mk (Kd.R_below (by (with_reducible repeat (first | apply Kd.R_alloc | apply Kd.R_drewN | apply Kd.R_drew)); exact (Kd.R_mono (Kd.R_far (p := ⟨gb352, 2, none⟩) (Kd.R_far (p := ⟨gb352, 1, none⟩) (Kd.R_far (p := ⟨gb352, 0, none⟩) (Kd.R_types HO351.out BK352.out (by decide)) (fun _ hk => hk.2) (.int .i64 t347)) (fun _ hk => hk.2) (.int .i64 t348)) (fun _ hk => hk.2) (.slice Ao9 t349.length co9)) (fun _ h_ => h_.1))) hb); have n1_ := Aside0.mk (Kd.R_lower ho0 (below_size (by repeat (first | (with_reducible first | exact HB.out | apply below_alloc | apply pw_below_drewN | apply below_drew1 | refine below_set ?_ GE352.out) | exact HB.out)))); have n2_ := Aside0.mk (blk_below (g := gb352) (o := .cells #[.int .i64 t347, .int .i64 t348, .slice Ao9 t349.length co9] 30 (0, 0)) (by exact sP3 (sT BK352.out)) hb); have n3_ := sB HB hb; clear HO351; clear BK352; clear HB; have HO351 := n0_; have HO355 := n1_; have BK352 := n2_; have HB := n3_; clear n0_ n1_ n2_ n3_; (try clear hb); (try clear hb2); (try clear hk); (try clear hi); (try clear ho0); obtain ⟨hcz11_0, hcz11_1, hcz11_2, hfz11_0, hfz11_1, hfz11_2⟩ := cells3 BK352.out) | (go_at_call 18; (with_reducible refine (impl_ImmediateOf.calls k t347 t348 _ _ t349 t356 _ ?side1 ?side2 A5.out).mono ?_); (case side1 => exact sD ((Kd.R_reads' HO351.out).2.2)); (case side2 => exact (Kd.R_reads' HO351.out).2.1); rintro e w12 ⟨v357, rfl, ho0, hb⟩; have n0_ := Aside0.mk (Kd.R_below (sE HO351.out) hb); have n1_ := Aside0.mk (Kd.R_elder' (sE HO355.out) (Kd.R_base ho0) hb); have n2_ := Aside0.mk (Kd.R_lower (Kd.R_new' ho0 (Kd.R_lt (sE HO355.out))) (below_size (by repeat (first | (with_reducible first | exact HB.out | apply below_alloc | apply pw_below_drewN | apply below_drew1 | refine below_set ?_ GE352.out) | exact HB.out)))); have n3_ := sK BK352 hb; have n4_ := sB HB hb; clear HO351; clear HO355; clear BK352; clear HB; have HO351 := n0_; have HO355 := n1_; have HO358 := n2_; have BK352 := n3_; have HB := n4_; clear n0_ n1_ n2_ n3_ n4_; (try clear hb); (try clear hb2); (try clear hk); (try clear hi); (try clear ho0))); try go_wp2_with (first | (go_at_call 16; (with_reducible refine (spec_A8Match.calls k _ _ l0 t347 t348 t349 _ ?side1 ?side2 A3.out).mono ?_); (case side1 => exact sD HR0.out); (case side2 => exact HC0.out); rintro e w6 ⟨v350, rfl, ho0, hb⟩; have n0_ := Aside0.mk (Kd.R_lower ho0 (below_size (sH HB.out))); have n1_ := sB HB hb; clear HB; have HO351 := n0_; have HB := n1_; clear n0_ n1_; (try clear hb); (try clear hb2); (try clear hk); (try clear hi); (try clear ho0)) | ((with_reducible refine gate_dst (N := 3) rfl ?_); (try (refine gate_guard (by rfl) ?_; dsimp only)); refine sV (N := 3) (cs := #[.int .i64 0, .int .i64 0, .slice none 0 0]) (t := 30) ?_; intro gb352 hg w7 hbox hb; have n0_ := Aside0.mk (Kd.R_below (sE HO351.out) hb); have n1_ := sB HB hb; have n2_ := Aside0.mk (hbox); have n3_ := sG HB hg; have n4_ := sG HB hg; clear HO351; clear HB; have HO351 := n0_; have HB := n1_; have BK352 := n2_; have GW352 := n3_; have GE352 := n4_; clear n0_ n1_ n2_ n3_ n4_; clear hb hbox hg; obtain ⟨hcz8_0, hcz8_1, hcz8_2, hfz8_0, hfz8_1, hfz8_2⟩ := cells3 BK352.out; obtain ⟨Ao9, co9, eo9⟩ := Kd.R_slice HO351.out; subst eo9) | (go_at_call 17; (with_reducible refine (impl_AssignmentsOf.calls k t347 t348 _ _ t349 t353 _ ?side1 ?side2 A4.out).mono ?_); (case side1 => refine (Kd.R_reads' (e := 35) (base := w.heap.size) (ok := fun k_ => True) (n := t349.length) (c := co9) ?_).2.2; exact (by (with_reducible repeat (first | apply Kd.R_alloc | apply Kd.R_drewN | apply Kd.R_drew)); exact (Kd.R_mono (Kd.R_far (p := ⟨gb352, 2, none⟩) (Kd.R_far (p := ⟨gb352, 1, none⟩) (Kd.R_far (p := ⟨gb352, 0, none⟩) (Kd.R_types HO351.out BK352.out (by decide)) (fun _ hk => hk.2) (.int .i64 t347)) (fun _ hk => hk.2) (.int .i64 t348)) (fun _ hk => hk.2) (.slice Ao9 t349.length co9)) (fun _ h_ => h_.1)))); (case side2 => exact (Kd.R_reads' HO351.out).2.1); rintro e w10 ⟨v354, rfl, ho0, hb⟩; have n0_ := Aside0.mk (Kd.R_below (by (with_reducible repeat (first | apply Kd.R_alloc | apply Kd.R_drewN | apply Kd.R_drew)); exact (Kd.R_mono (Kd.R_far (p := ⟨gb352, 2, none⟩) (Kd.R_far (p := ⟨gb352, 1, none⟩) (Kd.R_far (p := ⟨gb352, 0, none⟩) (Kd.R_types HO351.out BK352.out (by decide)) (fun _ hk => hk.2) (.int .i64 t347)) (fun _ hk => hk.2) (.int .i64 t348)) (fun _ hk => hk.2) (.slice Ao9 t349.length co9)) (fun _ h_ => h_.1))) hb); have n1_ := Aside0.mk (Kd.R_lower ho0 (below_size (by repeat (first | (with_reducible first | exact HB.out | apply below_alloc | apply pw_below_drewN | apply below_drew1 | refine below_set ?_ GE352.out) | exact HB.out)))); have n2_ := Aside0.mk (blk_below (g := gb352) (o := .cells #[.int .i64 t347, .int .i64 t348, .slice Ao9 t349.length co9] 30 (0, 0)) (by exact sP3 (sT BK352.out)) hb); have n3_ := sB HB hb; clear HO351; clear BK352; clear HB; have HO351 := n0_; have HO355 := n1_; have BK352 := n2_; have HB := n3_; clear n0_ n1_ n2_ n3_; (try clear hb); (try clear hb2); (try clear hk); (try clear hi); (try clear ho0); obtain ⟨hcz11_0, hcz11_1, hcz11_2, hfz11_0, hfz11_1, hfz11_2⟩ := cells3 BK352.out) | (go_at_call 18; (with_reducible refine (impl_ImmediateOf.calls k t347 t348 _ _ t349 t356 _ ?side1 ?side2 A5.out).mono ?_); (case side1 => exact sD ((Kd.R_reads' HO351.out).2.2)); (case side2 => exact (Kd.R_reads' HO351.out).2.1); rintro e w12 ⟨v357, rfl, ho0, hb⟩; have n0_ := Aside0.mk (Kd.R_below (sE HO351.out) hb); have n1_ := Aside0.mk (Kd.R_elder' (sE HO355.out) (Kd.R_base ho0) hb); have n2_ := Aside0.mk (Kd.R_lower (Kd.R_new' ho0 (Kd.R_lt (sE HO355.out))) (below_size (by repeat (first | (with_reducible first | exact HB.out | apply below_alloc | apply pw_below_drewN | apply below_drew1 | refine below_set ?_ GE352.out) | exact HB.out)))); have n3_ := sK BK352 hb; have n4_ := sB HB hb; clear HO351; clear HO355; clear BK352; clear HB; have HO351 := n0_; have HO355 := n1_; have HO358 := n2_; have BK352 := n3_; have HB := n4_; clear n0_ n1_ n2_ n3_ n4_; (try clear hb); (try clear hb2); (try clear hk); (try clear hi); (try clear ho0))))
 go_loopg [6, 7] k (fun kq v6 v7 w' => ∃ (x6_1 : Int) (x7_1 : Int), v6 = .int .i64 x6_1 ∧ v7 = .int .i64 x7_1 ∧ Aside0 (laws_FnCaptures.l0 kq t353 t356 x6_1 x7_1 t347 t348 t349 = some r) ∧ Aside0 (kq ≤ k) ∧ Aside0 (Kd.R k37 37 w' w.heap.size (fun k_ => some k_ ≠ (v357 : Value).ownBlock) v354 t353) ∧ Aside0 (Kd.R k37 37 w' w.heap.size (fun k_ => some k_ ≠ (v354 : Value).ownBlock) v357 t356) ∧ Aside0 (Kd.R k35 35 w' w.heap.size (fun _ => True) (.slice Ao9 t349.length co9) t349) ∧ Aside0 (w'.heap[gb352]? = some (.cells #[.int .i64 t347, .int .i64 t348, (.slice Ao9 t349.length co9)] 30 (0, 0))) ∧ Aside0 (Below w.heap.size w w'))
 case atStart => exact ⟨(0), (0), sr, sr, H', ⟨Nat.le_refl _⟩, ⟨by (with_reducible repeat (first | apply Kd.R_alloc | apply Kd.R_drewN | apply Kd.R_drew)); exact Kd.R_mono HO355.out (fun _ hk => hk.2)⟩, ⟨by (with_reducible repeat (first | apply Kd.R_alloc | apply Kd.R_drewN | apply Kd.R_drew)); exact Kd.R_mono HO358.out (fun _ hk => hk.2)⟩, ⟨by exact sE HO351.out⟩, ⟨by exact sT BK352.out⟩, ⟨sb⟩⟩
 case round =>
  clear H'
  try clear c2
  try clear c2b0
  try clear c2b1
  try clear p2
  try clear c4
  try clear hcz11_0
  try clear hcz11_1
  try clear hcz11_2
  try clear hcz8_0
  try clear hcz8_1
  try clear hcz8_2
  try clear hfz11_0
  try clear hfz11_1
  try clear hfz11_2
  try clear hfz8_0
  try clear hfz8_1
  try clear hfz8_2
  obtain ⟨x6_1, x7_1, rfl, rfl, HA, HK1, HO_4, HO_5, HO_353002, BK352, HB⟩ := hrel
  cases gk with
  | zero => exact absurd HA.out (by simp [laws_FnCaptures.l0])
  | succ k1 =>
   have H := HA.out
   clear HA
   simp only [laws_FnCaptures.l0] at H
   by_cases c13 : x7_1 < (t349.length : Int)
   ·rw [if_pos c13] at H
    have c13b0 := decide_eq_true c13
    clear c13
    by_cases c14 : 0 ≤ x7_1
    ·rw [if_pos c14] at H
     have c14b0 := decide_eq_true c14
     clear c14
     have HC15 := Aside0.mk H
     clear H
     obtain ⟨hcz16_0, hcz16_1, hcz16_2, hfz16_0, hfz16_1, hfz16_2⟩ := cells3 BK352.out
     have p359 : 0 ≤ (x7_1 : Int) := of_decide_eq_true (by first | (with_reducible assumption) | assumption)
     have q359 : x7_1 < (t349.length : Int) := of_decide_eq_true (by first | (with_reducible assumption) | assumption)
     obtain ⟨ad359, e359, hx359_0, hx359_1, hx359_2, hx359_3⟩ := at_T35 (Kd.R_reads' HO_353002.out).2.2 x7_1 p359 q359
     cases e359
     replace p359 := eq_true p359
     replace q359 := eq_true q359
     go_upto_region 11 with (first | ((with_reducible refine gate_dst (N := 8) rfl ?_); (try (refine gate_guard (by rfl) ?_; dsimp only)); refine sV (N := 8) (cs := #[.string (⟨#[]⟩ : ByteArray), .string (⟨#[]⟩ : ByteArray), .int .i64 0, .int .i64 0]) (t := 35) ?_; intro gb360 hg w17 hbox hb; have n0_ := Aside0.mk (Kd.R_below (sE HO_4.out) hb); have n1_ := Aside0.mk (Kd.R_below (sE HO_5.out) hb); have n2_ := Aside0.mk (Kd.R_below (Kd.R_elderB (sE HO_353002.out) gb360 (Nat.le_of_eq hg.symm)) hb); have n3_ := sK BK352 hb; have n4_ := sB HB hb; have n5_ := Aside0.mk (hbox); have n6_ := sG HB hg; have n7_ := sG HB hg; have n8_ := sN BK352 hg; have n9_ := sM BK352 hg; clear HO_4; clear HO_5; clear HO_353002; clear BK352; clear HB; have HO_4 := n0_; have HO_5 := n1_; have HO_353002 := n2_; have BK352 := n3_; have HB := n4_; have BK360 := n5_; have GW360 := n6_; have GE360 := n7_; have NB352_360 := n8_; have NB360_352 := n9_; clear n0_ n1_ n2_ n3_ n4_ n5_ n6_ n7_ n8_ n9_; clear hb hbox hg; have hnb18 := NB360_352.out; have hnc18 := NB352_360.out; obtain ⟨hcz19_0, hcz19_1, hcz19_2, hcz19_3, hfz19_0, hfz19_1, hfz19_2, hfz19_3⟩ := cells4 BK360.out))
     repeat (go_quiet (first | ((with_reducible refine gate_dst (N := 8) rfl ?_); (try (refine gate_guard (by rfl) ?_; dsimp only)); refine sV (N := 8) (cs := #[.string (⟨#[]⟩ : ByteArray), .string (⟨#[]⟩ : ByteArray), .int .i64 0, .int .i64 0]) (t := 35) ?_; intro gb360 hg w17 hbox hb; have n0_ := Aside0.mk (Kd.R_below (sE HO_4.out) hb); have n1_ := Aside0.mk (Kd.R_below (sE HO_5.out) hb); have n2_ := Aside0.mk (Kd.R_below (Kd.R_elderB (sE HO_353002.out) gb360 (Nat.le_of_eq hg.symm)) hb); have n3_ := sK BK352 hb; have n4_ := sB HB hb; have n5_ := Aside0.mk (hbox); have n6_ := sG HB hg; have n7_ := sG HB hg; have n8_ := sN BK352 hg; have n9_ := sM BK352 hg; clear HO_4; clear HO_5; clear HO_353002; clear BK352; clear HB; have HO_4 := n0_; have HO_5 := n1_; have HO_353002 := n2_; have BK352 := n3_; have HB := n4_; have BK360 := n5_; have GW360 := n6_; have GE360 := n7_; have NB352_360 := n8_; have NB360_352 := n9_; clear n0_ n1_ n2_ n3_ n4_ n5_ n6_ n7_ n8_ n9_; clear hb hbox hg; have hnb18 := NB360_352.out; have hnc18 := NB352_360.out; obtain ⟨hcz19_0, hcz19_1, hcz19_2, hcz19_3, hfz19_0, hfz19_1, hfz19_2, hfz19_3⟩ := cells4 BK360.out)); go_upto_region 11 with (first | ((with_reducible refine gate_dst (N := 8) rfl ?_); (try (refine gate_guard (by rfl) ?_; dsimp only)); refine sV (N := 8) (cs := #[.string (⟨#[]⟩ : ByteArray), .string (⟨#[]⟩ : ByteArray), .int .i64 0, .int .i64 0]) (t := 35) ?_; intro gb360 hg w17 hbox hb; have n0_ := Aside0.mk (Kd.R_below (sE HO_4.out) hb); have n1_ := Aside0.mk (Kd.R_below (sE HO_5.out) hb); have n2_ := Aside0.mk (Kd.R_below (Kd.R_elderB (sE HO_353002.out) gb360 (Nat.le_of_eq hg.symm)) hb); have n3_ := sK BK352 hb; have n4_ := sB HB hb; have n5_ := Aside0.mk (hbox); have n6_ := sG HB hg; have n7_ := sG HB hg; have n8_ := sN BK352 hg; have n9_ := sM BK352 hg; clear HO_4; clear HO_5; clear HO_353002; clear BK352; clear HB; have HO_4 := n0_; have HO_5 := n1_; have HO_353002 := n2_; have BK352 := n3_; have HB := n4_; have BK360 := n5_; have GW360 := n6_; have GE360 := n7_; have NB352_360 := n8_; have NB360_352 := n9_; clear n0_ n1_ n2_ n3_ n4_ n5_ n6_ n7_ n8_ n9_; clear hb hbox hg; have hnb18 := NB360_352.out; have hnc18 := NB352_360.out; obtain ⟨hcz19_0, hcz19_1, hcz19_2, hcz19_3, hfz19_0, hfz19_1, hfz19_2, hfz19_3⟩ := cells4 BK360.out)))
     (try simp only [Act.put, List.setIfInBounds_toArray, List.set_cons_zero, List.set_cons_succ])
     go_cut [42] (fun v42 wc => ∃ (kq : Nat) (x42_14 : Bool), v42 = .bool x42_14 ∧ Aside0 (laws_FnCaptures.j1 kq t353 t356 x6_1 x7_1 x42_14 t347 t348 t349 = some r) ∧ Aside0 (kq ≤ k1) ∧ Aside0 (Kd.R k37 37 wc w.heap.size (fun k_ => some k_ ≠ (v357 : Value).ownBlock) v354 t353) ∧ Aside0 (Kd.R k37 37 wc w.heap.size (fun k_ => some k_ ≠ (v354 : Value).ownBlock) v357 t356) ∧ Aside0 (Kd.R k35 35 wc w.heap.size (fun k_ => k_ ≠ gb360) (.slice (some ad359) t349.length co9) t349) ∧ Aside0 (wc.heap[gb352]? = some (.cells #[.int .i64 t347, .int .i64 t348, (.slice (some ad359) t349.length co9)] 30 (0, 0))) ∧ Aside0 (wc.heap[gb360]? = some (.cells #[.string ((rd_T35 t349 x7_1).f0), .string ((rd_T35 t349 x7_1).f1), .int .i64 ((rd_T35 t349 x7_1).f2), .int .i64 ((rd_T35 t349 x7_1).f3)] 35 (0, 0))) ∧ Aside0 (Below w.heap.size w wc))
     case first =>
      have H := HC15.out
      clear HC15
      by_cases c20 : ((rd_T35 t349 x7_1).f3) < 1
      ·rw [if_pos c20] at H
       have c20b0 := decide_eq_true c20
       clear c20
       (first | rw [c20b0] | (simp only [i64_w, i32_w]; rw [c20b0]) | rw [c20b2] | skip)
       have H' := Aside0.mk H
       clear H
       have hnb21 := NB360_352.out
       have hnc21 := NB352_360.out
       obtain ⟨hcz22_0, hcz22_1, hcz22_2, hcz22_3, hfz22_0, hfz22_1, hfz22_2, hfz22_3⟩ := cells4 BK360.out
       go_wp2
       repeat (go_quiet (fail); try go_wp2)
       go_meet
       case rel => exact ⟨_, (true), sr, H', ⟨by have := HK1.out; first | omega | exact Nat.le_refl _⟩, ⟨by (with_reducible repeat (first | apply Kd.R_alloc | apply Kd.R_drewN | apply Kd.R_drew)); exact Kd.R_mono (Kd.R_far (p := ⟨gb360, 3, none⟩) (Kd.R_far (p := ⟨gb360, 2, none⟩) (Kd.R_far (p := ⟨gb360, 1, none⟩) (Kd.R_far (p := ⟨gb360, 0, none⟩) (Kd.R_types HO_4.out BK360.out (by decide)) (fun _ hk => hk.2) (.string ((rd_T35 t349 x7_1).f0))) (fun _ hk => hk.2) (.string ((rd_T35 t349 x7_1).f1))) (fun _ hk => hk.2) (.int .i64 ((rd_T35 t349 x7_1).f2))) (fun _ hk => hk.2) (.int .i64 ((rd_T35 t349 x7_1).f3))) (fun _ hk => hk.1)⟩, ⟨by (with_reducible repeat (first | apply Kd.R_alloc | apply Kd.R_drewN | apply Kd.R_drew)); exact Kd.R_mono (Kd.R_far (p := ⟨gb360, 3, none⟩) (Kd.R_far (p := ⟨gb360, 2, none⟩) (Kd.R_far (p := ⟨gb360, 1, none⟩) (Kd.R_far (p := ⟨gb360, 0, none⟩) (Kd.R_types HO_5.out BK360.out (by decide)) (fun _ hk => hk.2) (.string ((rd_T35 t349 x7_1).f0))) (fun _ hk => hk.2) (.string ((rd_T35 t349 x7_1).f1))) (fun _ hk => hk.2) (.int .i64 ((rd_T35 t349 x7_1).f2))) (fun _ hk => hk.2) (.int .i64 ((rd_T35 t349 x7_1).f3))) (fun _ hk => hk.1)⟩, ⟨by (with_reducible repeat (first | apply Kd.R_alloc | apply Kd.R_drewN | apply Kd.R_drew)); exact Kd.R_mono (Kd.R_far (p := ⟨gb360, 3, none⟩) (Kd.R_far (p := ⟨gb360, 2, none⟩) (Kd.R_far (p := ⟨gb360, 1, none⟩) (Kd.R_far (p := ⟨gb360, 0, none⟩) (Kd.R_mono HO_353002.out (fun k_ hk => (⟨hk, hk.2⟩ : _ ∧ k_ ≠ gb360))) (fun _ hk => hk.2) (.string ((rd_T35 t349 x7_1).f0))) (fun _ hk => hk.2) (.string ((rd_T35 t349 x7_1).f1))) (fun _ hk => hk.2) (.int .i64 ((rd_T35 t349 x7_1).f2))) (fun _ hk => hk.2) (.int .i64 ((rd_T35 t349 x7_1).f3))) (fun _ hk => hk.1.2)⟩, ⟨by (with_reducible repeat (first | refine blk_drewN ?_ _ | refine blk_drew ?_ | refine blk_alloc ?_ _)); refine blk_far ?_ NB352_360.out _; (with_reducible repeat (first | refine blk_drewN ?_ _ | refine blk_drew ?_ | refine blk_alloc ?_ _)); refine blk_far ?_ NB352_360.out _; (with_reducible repeat (first | refine blk_drewN ?_ _ | refine blk_drew ?_ | refine blk_alloc ?_ _)); refine blk_far ?_ NB352_360.out _; (with_reducible repeat (first | refine blk_drewN ?_ _ | refine blk_drew ?_ | refine blk_alloc ?_ _)); refine blk_far ?_ NB352_360.out _; exact sT BK352.out⟩, ⟨by exact sP4 (sT BK360.out)⟩, ⟨sb⟩⟩
      rw [if_neg c20] at H
      have c20b0 := decide_eq_false c20
      clear c20
      (first | rw [c20b0] | (simp only [i64_w, i32_w]; rw [c20b0]) | rw [c20b2] | skip)
      have H' := Aside0.mk H
      clear H
      have hnb23 := NB360_352.out
      have hnc23 := NB352_360.out
      obtain ⟨hcz24_0, hcz24_1, hcz24_2, hcz24_3, hfz24_0, hfz24_1, hfz24_2, hfz24_3⟩ := cells4 BK360.out
      go_wp2
      repeat (go_quiet (fail); try go_wp2)
      go_meet
      case rel => exact ⟨_, (decide (((rd_T35 t349 x7_1).f3) > 3)), sr, H', ⟨by have := HK1.out; first | omega | exact Nat.le_refl _⟩, ⟨by (with_reducible repeat (first | apply Kd.R_alloc | apply Kd.R_drewN | apply Kd.R_drew)); exact Kd.R_mono (Kd.R_far (p := ⟨gb360, 3, none⟩) (Kd.R_far (p := ⟨gb360, 2, none⟩) (Kd.R_far (p := ⟨gb360, 1, none⟩) (Kd.R_far (p := ⟨gb360, 0, none⟩) (Kd.R_types HO_4.out BK360.out (by decide)) (fun _ hk => hk.2) (.string ((rd_T35 t349 x7_1).f0))) (fun _ hk => hk.2) (.string ((rd_T35 t349 x7_1).f1))) (fun _ hk => hk.2) (.int .i64 ((rd_T35 t349 x7_1).f2))) (fun _ hk => hk.2) (.int .i64 ((rd_T35 t349 x7_1).f3))) (fun _ hk => hk.1)⟩, ⟨by (with_reducible repeat (first | apply Kd.R_alloc | apply Kd.R_drewN | apply Kd.R_drew)); exact Kd.R_mono (Kd.R_far (p := ⟨gb360, 3, none⟩) (Kd.R_far (p := ⟨gb360, 2, none⟩) (Kd.R_far (p := ⟨gb360, 1, none⟩) (Kd.R_far (p := ⟨gb360, 0, none⟩) (Kd.R_types HO_5.out BK360.out (by decide)) (fun _ hk => hk.2) (.string ((rd_T35 t349 x7_1).f0))) (fun _ hk => hk.2) (.string ((rd_T35 t349 x7_1).f1))) (fun _ hk => hk.2) (.int .i64 ((rd_T35 t349 x7_1).f2))) (fun _ hk => hk.2) (.int .i64 ((rd_T35 t349 x7_1).f3))) (fun _ hk => hk.1)⟩, ⟨by (with_reducible repeat (first | apply Kd.R_alloc | apply Kd.R_drewN | apply Kd.R_drew)); exact Kd.R_mono (Kd.R_far (p := ⟨gb360, 3, none⟩) (Kd.R_far (p := ⟨gb360, 2, none⟩) (Kd.R_far (p := ⟨gb360, 1, none⟩) (Kd.R_far (p := ⟨gb360, 0, none⟩) (Kd.R_mono HO_353002.out (fun k_ hk => (⟨hk, hk.2⟩ : _ ∧ k_ ≠ gb360))) (fun _ hk => hk.2) (.string ((rd_T35 t349 x7_1).f0))) (fun _ hk => hk.2) (.string ((rd_T35 t349 x7_1).f1))) (fun _ hk => hk.2) (.int .i64 ((rd_T35 t349 x7_1).f2))) (fun _ hk => hk.2) (.int .i64 ((rd_T35 t349 x7_1).f3))) (fun _ hk => hk.1.2)⟩, ⟨by (with_reducible repeat (first | refine blk_drewN ?_ _ | refine blk_drew ?_ | refine blk_alloc ?_ _)); refine blk_far ?_ NB352_360.out _; (with_reducible repeat (first | refine blk_drewN ?_ _ | refine blk_drew ?_ | refine blk_alloc ?_ _)); refine blk_far ?_ NB352_360.out _; (with_reducible repeat (first | refine blk_drewN ?_ _ | refine blk_drew ?_ | refine blk_alloc ?_ _)); refine blk_far ?_ NB352_360.out _; (with_reducible repeat (first | refine blk_drewN ?_ _ | refine blk_drew ?_ | refine blk_alloc ?_ _)); refine blk_far ?_ NB352_360.out _; exact sT BK352.out⟩, ⟨by exact sP4 (sT BK360.out)⟩, ⟨sb⟩⟩
     case rest =>
      clear HC15
      try clear c1
      try clear c2
      try clear c2b0
      try clear c2b1
      try clear p2
      try clear p3
      try clear q3
      try clear hx3
      try clear c4
      try clear c13
      try clear c13b0
      try clear c14
      try clear c14b0
      try clear c18
      try clear c20
      try clear c20b0
      try clear c20b2
      try clear c21
      try clear c23
      try clear hcz11_0
      try clear hcz11_1
      try clear hcz11_2
      try clear hcz16_0
      try clear hcz16_1
      try clear hcz16_2
      try clear hcz19_0
      try clear hcz19_1
      try clear hcz19_2
      try clear hcz19_3
      try clear hcz22_0
      try clear hcz22_1
      try clear hcz22_2
      try clear hcz22_3
      try clear hcz24_0
      try clear hcz24_1
      try clear hcz24_2
      try clear hcz24_3
      try clear hcz8_0
      try clear hcz8_1
      try clear hcz8_2
      try clear hfz11_0
      try clear hfz11_1
      try clear hfz11_2
      try clear hfz16_0
      try clear hfz16_1
      try clear hfz16_2
      try clear hfz19_0
      try clear hfz19_1
      try clear hfz19_2
      try clear hfz19_3
      try clear hfz22_0
      try clear hfz22_1
      try clear hfz22_2
      try clear hfz22_3
      try clear hfz24_0
      try clear hfz24_1
      try clear hfz24_2
      try clear hfz24_3
      try clear hfz8_0
      try clear hfz8_1
      try clear hfz8_2
      try clear hx359_0
      try clear hx359_1
      try clear hx359_2
      try clear hx359_3
      try clear p2
      try clear p359
      try clear q359
      obtain ⟨kq, x42_14, rfl, HA, HJ14, HO_4, HO_5, HO_353002, BK352, BK360, HB⟩ := hcut
      cases kq with
      | zero => exact absurd HA.out (by simp [laws_FnCaptures.j1])
      | succ kj14 =>
       have H := HA.out
       clear HA
       simp only [laws_FnCaptures.j1] at H
       by_cases c25 : x42_14 = true
       ·subst c25
        rewrite [if_pos rfl] at H
        have H' := Aside0.mk H
        clear H
        go_wp2
        repeat (go_quiet (fail); try go_wp2)
        go_roundg kj14
        case measure => have := HK1.out; have := HJ14.out; omega
        case rel => exact ⟨(x6_1), (wrap64 (x7_1 + 1)), sr, sr, H', ⟨by have := HK1.out; have := HJ14.out; omega⟩, ⟨by exact sE HO_4.out⟩, ⟨by exact sE HO_5.out⟩, ⟨by (with_reducible repeat (first | apply Kd.R_alloc | apply Kd.R_drewN | apply Kd.R_drew)); exact Kd.R_mono HO_353002.out (fun _ hk => trivial)⟩, ⟨by exact sT BK352.out⟩, ⟨sb⟩⟩
       replace c25 := Bool.eq_false_iff.mpr c25
       subst c25
       rewrite [if_neg (show ¬ (false = true) by decide)] at H
       have H' := Aside0.mk H
       clear H
       go_wp2
       repeat (go_quiet (fail); try go_wp2)
       go_roundg kj14
       case measure => have := HK1.out; have := HJ14.out; omega
       case rel => exact ⟨(wrap64 (x6_1 + 1)), (wrap64 (x7_1 + 1)), sr, sr, H', ⟨by have := HK1.out; have := HJ14.out; omega⟩, ⟨by exact sE HO_4.out⟩, ⟨by exact sE HO_5.out⟩, ⟨by (with_reducible repeat (first | apply Kd.R_alloc | apply Kd.R_drewN | apply Kd.R_drew)); exact Kd.R_mono HO_353002.out (fun _ hk => trivial)⟩, ⟨by exact sT BK352.out⟩, ⟨sb⟩⟩
    rw [if_neg c14] at H
    exact absurd H (by simp)
   rw [if_neg c13] at H
   have c13b0 := decide_eq_false c13
   clear c13
   have HC26 := Aside0.mk H
   clear H
   obtain ⟨hcz27_0, hcz27_1, hcz27_2, hfz27_0, hfz27_1, hfz27_2⟩ := cells3 BK352.out
   go_upto_region 13 with (fail)
   repeat (go_quiet (fail); go_upto_region 13 with (fail))
   go_cut [54] (fun v54 wc => ∃ (kq : Nat) (x54_25 : Bool), v54 = .bool x54_25 ∧ Aside0 (laws_FnCaptures.j2 kq t353 t356 x54_25 = some r) ∧ Aside0 (kq ≤ k1) ∧ Aside0 (Kd.R k37 37 wc w.heap.size (fun k_ => some k_ ≠ (v357 : Value).ownBlock) v354 t353) ∧ Aside0 (Kd.R k37 37 wc w.heap.size (fun k_ => some k_ ≠ (v354 : Value).ownBlock) v357 t356) ∧ Aside0 (Kd.R k35 35 wc w.heap.size (fun _ => True) (.slice Ao9 t349.length co9) t349) ∧ Aside0 (wc.heap[gb352]? = some (.cells #[.int .i64 t347, .int .i64 t348, (.slice Ao9 t349.length co9)] 30 (0, 0))) ∧ Aside0 (Below w.heap.size w wc))
   case first =>
    have H := HC26.out
    clear HC26
    by_cases c28 : (t353.length : Int) = x6_1
    ·rw [if_pos c28] at H
     have c28b0 : ((t353.length : Int) == x6_1) = true := beq_iff_eq.mpr c28
     have c28b1 : ((t353.length : Int) != x6_1) = false := bne_eq_false_iff_eq.mpr c28
     clear c28
     (first | rw [c28b0] | (simp only [i64_w, i32_w]; rw [c28b0]) | rw [c28b2] | skip)
     have H' := Aside0.mk H
     clear H
     obtain ⟨Ao29, co29, eo29⟩ := Kd.R_slice HO_4.out
     subst eo29
     obtain ⟨Ao30, co30, eo30⟩ := Kd.R_slice HO_5.out
     subst eo30
     go_wp2
     repeat (go_quiet (fail); try go_wp2)
     go_meet
     case rel => exact ⟨_, (decide ((t356.length : Int) > x6_1)), sr, H', ⟨by have := HK1.out; first | omega | exact Nat.le_refl _⟩, ⟨by exact sE HO_4.out⟩, ⟨by exact sE HO_5.out⟩, ⟨by exact sE HO_353002.out⟩, ⟨by exact sT BK352.out⟩, ⟨sb⟩⟩
    rw [if_neg c28] at H
    have c28b0 : ((t353.length : Int) == x6_1) = false := beq_eq_false_iff_ne.mpr c28
    have c28b1 : ((t353.length : Int) != x6_1) = true := bne_iff_ne.mpr c28
    (first | rw [c28b0] | (simp only [i64_w, i32_w]; rw [c28b0]) | rw [c28b2] | skip)
    have H' := Aside0.mk H
    clear H
    obtain ⟨Ao31, co31, eo31⟩ := Kd.R_slice HO_4.out
    subst eo31
    go_wp2
    repeat (go_quiet (fail); try go_wp2)
    go_meet
    case rel => exact ⟨_, (true), sr, H', ⟨by have := HK1.out; first | omega | exact Nat.le_refl _⟩, ⟨by exact sE HO_4.out⟩, ⟨by exact sE HO_5.out⟩, ⟨by exact sE HO_353002.out⟩, ⟨by exact sT BK352.out⟩, ⟨sb⟩⟩
   case rest =>
    clear HC26
    try clear c1
    try clear c2
    try clear c2b0
    try clear c2b1
    try clear p2
    try clear p3
    try clear q3
    try clear hx3
    try clear c4
    try clear p6
    try clear c13
    try clear c13b0
    try clear c14
    try clear c14b0
    try clear c18
    try clear c20
    try clear c20b0
    try clear c20b2
    try clear c21
    try clear c23
    try clear c25
    try clear c28
    try clear c28b0
    try clear c28b1
    try clear c28b2
    try clear hcz11_0
    try clear hcz11_1
    try clear hcz11_2
    try clear hcz16_0
    try clear hcz16_1
    try clear hcz16_2
    try clear hcz19_0
    try clear hcz19_1
    try clear hcz19_2
    try clear hcz19_3
    try clear hcz22_0
    try clear hcz22_1
    try clear hcz22_2
    try clear hcz22_3
    try clear hcz24_0
    try clear hcz24_1
    try clear hcz24_2
    try clear hcz24_3
    try clear hcz27_0
    try clear hcz27_1
    try clear hcz27_2
    try clear hcz8_0
    try clear hcz8_1
    try clear hcz8_2
    try clear hfz11_0
    try clear hfz11_1
    try clear hfz11_2
    try clear hfz16_0
    try clear hfz16_1
    try clear hfz16_2
    try clear hfz19_0
    try clear hfz19_1
    try clear hfz19_2
    try clear hfz19_3
    try clear hfz22_0
    try clear hfz22_1
    try clear hfz22_2
    try clear hfz22_3
    try clear hfz24_0
    try clear hfz24_1
    try clear hfz24_2
    try clear hfz24_3
    try clear hfz27_0
    try clear hfz27_1
    try clear hfz27_2
    try clear hfz8_0
    try clear hfz8_1
    try clear hfz8_2
    try clear hx359_0
    try clear hx359_1
    try clear hx359_2
    try clear hx359_3
    try clear p2
    try clear p3
    try clear p359
    try clear q3
    try clear q359
    obtain ⟨kq, x54_25, rfl, HA, HJ25, HO_4, HO_5, HO_353002, BK352, HB⟩ := hcut
    cases kq with
    | zero => exact absurd HA.out (by simp [laws_FnCaptures.j2])
    | succ kj25 =>
     have H := HA.out
     clear HA
     simp only [laws_FnCaptures.j2] at H
     by_cases c32 : x54_25 = true
     ·subst c32
      rewrite [if_pos rfl] at H
      obtain rfl := Option.some.inj H
      go_wp2
      repeat (go_quiet (fail); try go_wp2)
      go_ret
      exact ⟨sq, sb⟩
     replace c32 := Bool.eq_false_iff.mpr c32
     subst c32
     rewrite [if_neg (show ¬ (false = true) by decide)] at H
     have H' := Aside0.mk H
     clear H
     go_wp2
     repeat (go_quiet (fail); try go_wp2)
     go_loopg [9] kj25 (fun kq v9 w' => ∃ (x9_3 : Int), v9 = .int .i64 x9_3 ∧ Aside0 (laws_FnCaptures.l1 kq t353 t356 x9_3 = some r) ∧ Aside0 (kq ≤ kj25) ∧ Aside0 (Kd.R k37 37 w' w.heap.size (fun k_ => some k_ ≠ (v357 : Value).ownBlock) v354 t353) ∧ Aside0 (Kd.R k37 37 w' w.heap.size (fun k_ => some k_ ≠ (v354 : Value).ownBlock) v357 t356) ∧ Aside0 (Kd.R k35 35 w' w.heap.size (fun _ => True) (.slice Ao9 t349.length co9) t349) ∧ Aside0 (w'.heap[gb352]? = some (.cells #[.int .i64 t347, .int .i64 t348, (.slice Ao9 t349.length co9)] 30 (0, 0))) ∧ Aside0 (Below w.heap.size w w'))
     case atStart => exact ⟨(0), sr, H', ⟨Nat.le_refl _⟩, ⟨by exact sE HO_4.out⟩, ⟨by exact sE HO_5.out⟩, ⟨by exact sE HO_353002.out⟩, ⟨by exact sT BK352.out⟩, ⟨sb⟩⟩
     case round =>
      clear H'
      try clear c1
      try clear c2
      try clear c2b0
      try clear c2b1
      try clear p2
      try clear c3
      try clear p3
      try clear q3
      try clear hx3
      try clear c4
      try clear p6
      try clear c13
      try clear c13b0
      try clear c14
      try clear c14b0
      try clear c18
      try clear c20
      try clear c20b0
      try clear c20b2
      try clear c21
      try clear c23
      try clear c25
      try clear c28
      try clear c28b0
      try clear c28b1
      try clear c28b2
      try clear c32
      try clear hcz11_0
      try clear hcz11_1
      try clear hcz11_2
      try clear hcz16_0
      try clear hcz16_1
      try clear hcz16_2
      try clear hcz19_0
      try clear hcz19_1
      try clear hcz19_2
      try clear hcz19_3
      try clear hcz22_0
      try clear hcz22_1
      try clear hcz22_2
      try clear hcz22_3
      try clear hcz24_0
      try clear hcz24_1
      try clear hcz24_2
      try clear hcz24_3
      try clear hcz27_0
      try clear hcz27_1
      try clear hcz27_2
      try clear hcz8_0
      try clear hcz8_1
      try clear hcz8_2
      try clear hfz11_0
      try clear hfz11_1
      try clear hfz11_2
      try clear hfz16_0
      try clear hfz16_1
      try clear hfz16_2
      try clear hfz19_0
      try clear hfz19_1
      try clear hfz19_2
      try clear hfz19_3
      try clear hfz22_0
      try clear hfz22_1
      try clear hfz22_2
      try clear hfz22_3
      try clear hfz24_0
      try clear hfz24_1
      try clear hfz24_2
      try clear hfz24_3
      try clear hfz27_0
      try clear hfz27_1
      try clear hfz27_2
      try clear hfz8_0
      try clear hfz8_1
      try clear hfz8_2
      try clear hx359_0
      try clear hx359_1
      try clear hx359_2
      try clear hx359_3
      try clear p2
      try clear p3
      try clear p359
      try clear p6
      try clear q3
      try clear q359
      obtain ⟨x9_3, rfl, HA, HK3, HO_4, HO_5, HO_353002, BK352, HB⟩ := hrel
      cases gk with
      | zero => exact absurd HA.out (by simp [laws_FnCaptures.l1])
      | succ k3 =>
       have H := HA.out
       clear HA
       simp only [laws_FnCaptures.l1] at H
       by_cases c33 : x9_3 < (t356.length : Int)
       ·rw [if_pos c33] at H
        have c33b0 := decide_eq_true c33
        clear c33
        by_cases c34 : 0 ≤ x9_3
        ·rw [if_pos c34] at H
         have c34b0 := decide_eq_true c34
         clear c34
         by_cases c35 : x9_3 < (t353.length : Int)
         ·rw [if_pos c35] at H
          have c35b0 := decide_eq_true c35
          clear c35
          by_cases c36 : (!((((rd_T37 t353 x9_3).f0).toList) == (((rd_T37 t356 x9_3).f0).toList)) || (!((((rd_T37 t353 x9_3).f1).toList) == (((rd_T37 t356 x9_3).f1).toList)) || (!(((rd_T37 t353 x9_3).f2) == ((rd_T37 t356 x9_3).f2)) || (!(((rd_T37 t353 x9_3).f3) == ((rd_T37 t356 x9_3).f3)))))) = true
          ·rw [if_pos c36] at H
           have c36b0 : (!((((rd_T37 t353 x9_3).f0).toList) == (((rd_T37 t356 x9_3).f0).toList)) || (!((((rd_T37 t353 x9_3).f1).toList) == (((rd_T37 t356 x9_3).f1).toList)) || (!(((rd_T37 t353 x9_3).f2) == ((rd_T37 t356 x9_3).f2)) || (!(((rd_T37 t353 x9_3).f3) == ((rd_T37 t356 x9_3).f3)))))) = true := c36
           clear c36
           obtain rfl := Option.some.inj H
           obtain ⟨Ao37, co37, eo37⟩ := Kd.R_slice HO_5.out
           subst eo37
           obtain ⟨Ao38, co38, eo38⟩ := Kd.R_slice HO_4.out
           subst eo38
           have p361 : 0 ≤ (x9_3 : Int) := of_decide_eq_true (by first | (with_reducible assumption) | assumption)
           have q361 : x9_3 < (t353.length : Int) := of_decide_eq_true (by first | (with_reducible assumption) | assumption)
           obtain ⟨ad361, e361, hx361_0, hx361_1, hx361_2, hx361_3⟩ := at_T37 (Kd.R_reads' HO_4.out).2.2 x9_3 p361 q361
           cases e361
           replace p361 := eq_true p361
           replace q361 := eq_true q361
           have p362 : 0 ≤ (x9_3 : Int) := of_decide_eq_true (by first | (with_reducible assumption) | assumption)
           have q362 : x9_3 < (t356.length : Int) := of_decide_eq_true (by first | (with_reducible assumption) | assumption)
           obtain ⟨ad362, e362, hx362_0, hx362_1, hx362_2, hx362_3⟩ := at_T37 (Kd.R_reads' HO_5.out).2.2 x9_3 p362 q362
           cases e362
           replace p362 := eq_true p362
           replace q362 := eq_true q362
           go_wp2
           repeat (go_quiet (fail); try go_wp2)
           go_ret
           exact ⟨sq, sb⟩
          rw [if_neg c36] at H
          have c36b0 : (!((((rd_T37 t353 x9_3).f0).toList) == (((rd_T37 t356 x9_3).f0).toList)) || (!((((rd_T37 t353 x9_3).f1).toList) == (((rd_T37 t356 x9_3).f1).toList)) || (!(((rd_T37 t353 x9_3).f2) == ((rd_T37 t356 x9_3).f2)) || (!(((rd_T37 t353 x9_3).f3) == ((rd_T37 t356 x9_3).f3)))))) = false := by simpa using c36
          clear c36
          have H' := Aside0.mk H
          clear H
          obtain ⟨Ao39, co39, eo39⟩ := Kd.R_slice HO_5.out
          subst eo39
          obtain ⟨Ao40, co40, eo40⟩ := Kd.R_slice HO_4.out
          subst eo40
          have p361 : 0 ≤ (x9_3 : Int) := of_decide_eq_true (by first | (with_reducible assumption) | assumption)
          have q361 : x9_3 < (t353.length : Int) := of_decide_eq_true (by first | (with_reducible assumption) | assumption)
          obtain ⟨ad361, e361, hx361_0, hx361_1, hx361_2, hx361_3⟩ := at_T37 (Kd.R_reads' HO_4.out).2.2 x9_3 p361 q361
          cases e361
          replace p361 := eq_true p361
          replace q361 := eq_true q361
          have p362 : 0 ≤ (x9_3 : Int) := of_decide_eq_true (by first | (with_reducible assumption) | assumption)
          have q362 : x9_3 < (t356.length : Int) := of_decide_eq_true (by first | (with_reducible assumption) | assumption)
          obtain ⟨ad362, e362, hx362_0, hx362_1, hx362_2, hx362_3⟩ := at_T37 (Kd.R_reads' HO_5.out).2.2 x9_3 p362 q362
          cases e362
          replace p362 := eq_true p362
          replace q362 := eq_true q362
          go_wp2
          repeat (go_quiet (fail); try go_wp2)
          go_roundg k3
          case measure => have := HK1.out; have := HJ25.out; have := HK3.out; omega
          case rel => exact ⟨(wrap64 (x9_3 + 1)), sr, H', ⟨by have := HK1.out; have := HJ25.out; have := HK3.out; omega⟩, ⟨by exact sE HO_4.out⟩, ⟨by exact sE HO_5.out⟩, ⟨by exact sE HO_353002.out⟩, ⟨by exact sT BK352.out⟩, ⟨sb⟩⟩
         rw [if_neg c35] at H
         exact absurd H (by simp)
        rw [if_neg c34] at H
        exact absurd H (by simp)
       rw [if_neg c33] at H
       have c33b0 := decide_eq_false c33
       clear c33
       obtain ⟨t363, A41, H⟩ := sO H
       obtain ⟨t366, A42, H⟩ := sO H
       by_cases c43 : (t366.length : Int) = (t363.length : Int)
       ·rw [if_pos c43] at H
        have c43b0 : ((t366.length : Int) == (t363.length : Int)) = true := beq_iff_eq.mpr c43
        have c43b1 : ((t366.length : Int) != (t363.length : Int)) = false := bne_eq_false_iff_eq.mpr c43
        have c43b2 : (t366.length == t363.length) = true := by first | simpa using c43 | (simp at c43 ⊢; omega)
        clear c43
        have H' := Aside0.mk H
        clear H
        obtain ⟨Ao44, co44, eo44⟩ := Kd.R_slice HO_5.out
        subst eo44
        obtain ⟨Ao45, co45, eo45⟩ := Kd.R_slice HO_4.out
        subst eo45
        go_wp2_with (first | (go_at_call 19; (with_reducible refine (impl_FinalOf.calls k3 _ _ t353 t363 _ ?side1 ?side2 A41.out).mono ?_); (case side1 => exact sD ((Kd.R_reads' HO_4.out).2.2)); (case side2 => exact (Kd.R_reads' HO_4.out).2.1); rintro e w46 ⟨v364, rfl, ho0, hb⟩; have n0_ := Aside0.mk (Kd.R_elder' (sE HO_4.out) (Kd.R_base ho0) hb); have n1_ := Aside0.mk (Kd.R_elder' (sE HO_5.out) (Kd.R_base ho0) hb); have n2_ := Aside0.mk (Kd.R_below (sE HO_353002.out) hb); have n3_ := Aside0.mk (Kd.R_lower (Kd.R_new' (Kd.R_new' ho0 (Kd.R_lt (sE HO_4.out))) (Kd.R_lt (sE HO_5.out))) (below_size (by repeat (first | (with_reducible first | exact HB.out | apply below_alloc | apply pw_below_drewN | apply below_drew1 | refine below_set ?_ GE352.out) | exact HB.out)))); have n4_ := sK BK352 hb; have n5_ := sB HB hb; clear HO_4; clear HO_5; clear HO_353002; clear BK352; clear HB; have HO_4 := n0_; have HO_5 := n1_; have HO_353002 := n2_; have HO365 := n3_; have BK352 := n4_; have HB := n5_; clear n0_ n1_ n2_ n3_ n4_ n5_; (try clear hb); (try clear hb2); (try clear hk); (try clear hi); (try clear ho0); obtain ⟨Ao47, co47, eo47⟩ := Kd.R_slice HO365.out; subst eo47) | (go_at_call 19; (with_reducible refine (impl_FinalOf.calls k3 _ _ t363 t366 _ ?side1 ?side2 A42.out).mono ?_); (case side1 => exact sD ((Kd.R_reads' HO365.out).2.2)); (case side2 => exact (Kd.R_reads' HO365.out).2.1); rintro e w48 ⟨v367, rfl, ho0, hb⟩; have n0_ := Aside0.mk (Kd.R_elder' (sE HO_4.out) (Kd.R_base ho0) hb); have n1_ := Aside0.mk (Kd.R_elder' (sE HO_5.out) (Kd.R_base ho0) hb); have n2_ := Aside0.mk (Kd.R_below (sE HO_353002.out) hb); have n3_ := Aside0.mk (Kd.R_elder' (sE HO365.out) (Kd.R_base ho0) hb); have n4_ := Aside0.mk (Kd.R_lower (Kd.R_new' (Kd.R_new' (Kd.R_new' ho0 (Kd.R_lt (sE HO_4.out))) (Kd.R_lt (sE HO_5.out))) (Kd.R_lt (sE HO365.out))) (below_size (by repeat (first | (with_reducible first | exact HB.out | apply below_alloc | apply pw_below_drewN | apply below_drew1 | refine below_set ?_ GE352.out) | exact HB.out)))); have n5_ := sK BK352 hb; have n6_ := sB HB hb; clear HO_4; clear HO_5; clear HO_353002; clear HO365; clear BK352; clear HB; have HO_4 := n0_; have HO_5 := n1_; have HO_353002 := n2_; have HO365 := n3_; have HO368 := n4_; have BK352 := n5_; have HB := n6_; clear n0_ n1_ n2_ n3_ n4_ n5_ n6_; (try clear hb); (try clear hb2); (try clear hk); (try clear hi); (try clear ho0); obtain ⟨Ao49, co49, eo49⟩ := Kd.R_slice HO368.out; subst eo49))
        repeat (go_quiet (first | (go_at_call 19; (with_reducible refine (impl_FinalOf.calls k3 _ _ t353 t363 _ ?side1 ?side2 A41.out).mono ?_); (case side1 => exact sD ((Kd.R_reads' HO_4.out).2.2)); (case side2 => exact (Kd.R_reads' HO_4.out).2.1); rintro e w46 ⟨v364, rfl, ho0, hb⟩; have n0_ := Aside0.mk (Kd.R_elder' (sE HO_4.out) (Kd.R_base ho0) hb); have n1_ := Aside0.mk (Kd.R_elder' (sE HO_5.out) (Kd.R_base ho0) hb); have n2_ := Aside0.mk (Kd.R_below (sE HO_353002.out) hb); have n3_ := Aside0.mk (Kd.R_lower (Kd.R_new' (Kd.R_new' ho0 (Kd.R_lt (sE HO_4.out))) (Kd.R_lt (sE HO_5.out))) (below_size (by repeat (first | (with_reducible first | exact HB.out | apply below_alloc | apply pw_below_drewN | apply below_drew1 | refine below_set ?_ GE352.out) | exact HB.out)))); have n4_ := sK BK352 hb; have n5_ := sB HB hb; clear HO_4; clear HO_5; clear HO_353002; clear BK352; clear HB; have HO_4 := n0_; have HO_5 := n1_; have HO_353002 := n2_; have HO365 := n3_; have BK352 := n4_; have HB := n5_; clear n0_ n1_ n2_ n3_ n4_ n5_; (try clear hb); (try clear hb2); (try clear hk); (try clear hi); (try clear ho0); obtain ⟨Ao47, co47, eo47⟩ := Kd.R_slice HO365.out; subst eo47) | (go_at_call 19; (with_reducible refine (impl_FinalOf.calls k3 _ _ t363 t366 _ ?side1 ?side2 A42.out).mono ?_); (case side1 => exact sD ((Kd.R_reads' HO365.out).2.2)); (case side2 => exact (Kd.R_reads' HO365.out).2.1); rintro e w48 ⟨v367, rfl, ho0, hb⟩; have n0_ := Aside0.mk (Kd.R_elder' (sE HO_4.out) (Kd.R_base ho0) hb); have n1_ := Aside0.mk (Kd.R_elder' (sE HO_5.out) (Kd.R_base ho0) hb); have n2_ := Aside0.mk (Kd.R_below (sE HO_353002.out) hb); have n3_ := Aside0.mk (Kd.R_elder' (sE HO365.out) (Kd.R_base ho0) hb); have n4_ := Aside0.mk (Kd.R_lower (Kd.R_new' (Kd.R_new' (Kd.R_new' ho0 (Kd.R_lt (sE HO_4.out))) (Kd.R_lt (sE HO_5.out))) (Kd.R_lt (sE HO365.out))) (below_size (by repeat (first | (with_reducible first | exact HB.out | apply below_alloc | apply pw_below_drewN | apply below_drew1 | refine below_set ?_ GE352.out) | exact HB.out)))); have n5_ := sK BK352 hb; have n6_ := sB HB hb; clear HO_4; clear HO_5; clear HO_353002; clear HO365; clear BK352; clear HB; have HO_4 := n0_; have HO_5 := n1_; have HO_353002 := n2_; have HO365 := n3_; have HO368 := n4_; have BK352 := n5_; have HB := n6_; clear n0_ n1_ n2_ n3_ n4_ n5_ n6_; (try clear hb); (try clear hb2); (try clear hk); (try clear hi); (try clear ho0); obtain ⟨Ao49, co49, eo49⟩ := Kd.R_slice HO368.out; subst eo49)); try go_wp2_with (first | (go_at_call 19; (with_reducible refine (impl_FinalOf.calls k3 _ _ t353 t363 _ ?side1 ?side2 A41.out).mono ?_); (case side1 => exact sD ((Kd.R_reads' HO_4.out).2.2)); (case side2 => exact (Kd.R_reads' HO_4.out).2.1); rintro e w46 ⟨v364, rfl, ho0, hb⟩; have n0_ := Aside0.mk (Kd.R_elder' (sE HO_4.out) (Kd.R_base ho0) hb); have n1_ := Aside0.mk (Kd.R_elder' (sE HO_5.out) (Kd.R_base ho0) hb); have n2_ := Aside0.mk (Kd.R_below (sE HO_353002.out) hb); have n3_ := Aside0.mk (Kd.R_lower (Kd.R_new' (Kd.R_new' ho0 (Kd.R_lt (sE HO_4.out))) (Kd.R_lt (sE HO_5.out))) (below_size (by repeat (first | (with_reducible first | exact HB.out | apply below_alloc | apply pw_below_drewN | apply below_drew1 | refine below_set ?_ GE352.out) | exact HB.out)))); have n4_ := sK BK352 hb; have n5_ := sB HB hb; clear HO_4; clear HO_5; clear HO_353002; clear BK352; clear HB; have HO_4 := n0_; have HO_5 := n1_; have HO_353002 := n2_; have HO365 := n3_; have BK352 := n4_; have HB := n5_; clear n0_ n1_ n2_ n3_ n4_ n5_; (try clear hb); (try clear hb2); (try clear hk); (try clear hi); (try clear ho0); obtain ⟨Ao47, co47, eo47⟩ := Kd.R_slice HO365.out; subst eo47) | (go_at_call 19; (with_reducible refine (impl_FinalOf.calls k3 _ _ t363 t366 _ ?side1 ?side2 A42.out).mono ?_); (case side1 => exact sD ((Kd.R_reads' HO365.out).2.2)); (case side2 => exact (Kd.R_reads' HO365.out).2.1); rintro e w48 ⟨v367, rfl, ho0, hb⟩; have n0_ := Aside0.mk (Kd.R_elder' (sE HO_4.out) (Kd.R_base ho0) hb); have n1_ := Aside0.mk (Kd.R_elder' (sE HO_5.out) (Kd.R_base ho0) hb); have n2_ := Aside0.mk (Kd.R_below (sE HO_353002.out) hb); have n3_ := Aside0.mk (Kd.R_elder' (sE HO365.out) (Kd.R_base ho0) hb); have n4_ := Aside0.mk (Kd.R_lower (Kd.R_new' (Kd.R_new' (Kd.R_new' ho0 (Kd.R_lt (sE HO_4.out))) (Kd.R_lt (sE HO_5.out))) (Kd.R_lt (sE HO365.out))) (below_size (by repeat (first | (with_reducible first | exact HB.out | apply below_alloc | apply pw_below_drewN | apply below_drew1 | refine below_set ?_ GE352.out) | exact HB.out)))); have n5_ := sK BK352 hb; have n6_ := sB HB hb; clear HO_4; clear HO_5; clear HO_353002; clear HO365; clear BK352; clear HB; have HO_4 := n0_; have HO_5 := n1_; have HO_353002 := n2_; have HO365 := n3_; have HO368 := n4_; have BK352 := n5_; have HB := n6_; clear n0_ n1_ n2_ n3_ n4_ n5_ n6_; (try clear hb); (try clear hb2); (try clear hk); (try clear hi); (try clear ho0); obtain ⟨Ao49, co49, eo49⟩ := Kd.R_slice HO368.out; subst eo49)))
        go_loopg [12] k3 (fun kq v12 w' => ∃ (x12_4 : Int), v12 = .int .i64 x12_4 ∧ Aside0 (laws_FnCaptures.l2 kq t353 t363 t366 x12_4 = some r) ∧ Aside0 (kq ≤ k3) ∧ Aside0 (Kd.R k37 37 w' w.heap.size (fun k_ => some k_ ≠ ((.slice Ao47 t363.length co47) : Value).ownBlock ∧ some k_ ≠ ((.slice Ao49 t366.length co49) : Value).ownBlock) (.slice Ao45 t353.length co45) t353) ∧ Aside0 (Kd.R k37 37 w' w.heap.size (fun k_ => some k_ ≠ ((.slice Ao45 t353.length co45) : Value).ownBlock ∧ some k_ ≠ ((.slice Ao49 t366.length co49) : Value).ownBlock) (.slice Ao47 t363.length co47) t363) ∧ Aside0 (Kd.R k37 37 w' w.heap.size (fun k_ => some k_ ≠ ((.slice Ao45 t353.length co45) : Value).ownBlock ∧ some k_ ≠ ((.slice Ao47 t363.length co47) : Value).ownBlock) (.slice Ao49 t366.length co49) t366) ∧ Aside0 (Kd.R k35 35 w' w.heap.size (fun _ => True) (.slice Ao9 t349.length co9) t349) ∧ Aside0 (w'.heap[gb352]? = some (.cells #[.int .i64 t347, .int .i64 t348, (.slice Ao9 t349.length co9)] 30 (0, 0))) ∧ Aside0 (Below w.heap.size w w'))
        case atStart => exact ⟨(0), sr, H', ⟨Nat.le_refl _⟩, ⟨by (with_reducible repeat (first | apply Kd.R_alloc | apply Kd.R_drewN | apply Kd.R_drew)); exact Kd.R_mono HO_4.out (fun _ hk => ⟨hk.1.2, hk.2⟩)⟩, ⟨by (with_reducible repeat (first | apply Kd.R_alloc | apply Kd.R_drewN | apply Kd.R_drew)); exact Kd.R_mono HO365.out (fun _ hk => ⟨hk.1.1.2, hk.2⟩)⟩, ⟨by (with_reducible repeat (first | apply Kd.R_alloc | apply Kd.R_drewN | apply Kd.R_drew)); exact Kd.R_mono HO368.out (fun _ hk => ⟨hk.1.1.2, hk.2⟩)⟩, ⟨by exact sE HO_353002.out⟩, ⟨by exact sT BK352.out⟩, ⟨sb⟩⟩
        case round =>
         clear H'
         try clear c1
         try clear c2
         try clear c2b0
         try clear c2b1
         try clear p2
         try clear c3
         try clear p3
         try clear q3
         try clear hx3
         try clear c4
         try clear p6
         try clear c13
         try clear c13b0
         try clear c14
         try clear c14b0
         try clear c18
         try clear c20
         try clear c20b0
         try clear c20b2
         try clear c21
         try clear c23
         try clear c25
         try clear c28
         try clear c28b0
         try clear c28b1
         try clear c28b2
         try clear c32
         try clear c33
         try clear c33b0
         try clear c34
         try clear c34b0
         try clear c35
         try clear c35b0
         try clear p35
         try clear q35
         try clear hx35
         try clear c36
         try clear c36b0
         try clear p36
         try clear q36
         try clear hx36
         try clear c43
         try clear c43b0
         try clear c43b1
         try clear c43b2
         try clear hcz11_0
         try clear hcz11_1
         try clear hcz11_2
         try clear hcz16_0
         try clear hcz16_1
         try clear hcz16_2
         try clear hcz19_0
         try clear hcz19_1
         try clear hcz19_2
         try clear hcz19_3
         try clear hcz22_0
         try clear hcz22_1
         try clear hcz22_2
         try clear hcz22_3
         try clear hcz24_0
         try clear hcz24_1
         try clear hcz24_2
         try clear hcz24_3
         try clear hcz27_0
         try clear hcz27_1
         try clear hcz27_2
         try clear hcz8_0
         try clear hcz8_1
         try clear hcz8_2
         try clear hfz11_0
         try clear hfz11_1
         try clear hfz11_2
         try clear hfz16_0
         try clear hfz16_1
         try clear hfz16_2
         try clear hfz19_0
         try clear hfz19_1
         try clear hfz19_2
         try clear hfz19_3
         try clear hfz22_0
         try clear hfz22_1
         try clear hfz22_2
         try clear hfz22_3
         try clear hfz24_0
         try clear hfz24_1
         try clear hfz24_2
         try clear hfz24_3
         try clear hfz27_0
         try clear hfz27_1
         try clear hfz27_2
         try clear hfz8_0
         try clear hfz8_1
         try clear hfz8_2
         try clear hx359_0
         try clear hx359_1
         try clear hx359_2
         try clear hx359_3
         try clear hx361_0
         try clear hx361_1
         try clear hx361_2
         try clear hx361_3
         try clear hx362_0
         try clear hx362_1
         try clear hx362_2
         try clear hx362_3
         try clear p2
         try clear p3
         try clear p359
         try clear p361
         try clear p362
         try clear p6
         try clear q3
         try clear q359
         try clear q361
         try clear q362
         obtain ⟨x12_4, rfl, HA, HK4, HO_4, HO_10, HO_11, HO_353002, BK352, HB⟩ := hrel
         cases gk with
         | zero => exact absurd HA.out (by simp [laws_FnCaptures.l2])
         | succ k4 =>
          have H := HA.out
          clear HA
          simp only [laws_FnCaptures.l2] at H
          by_cases c50 : x12_4 < (t363.length : Int)
          ·rw [if_pos c50] at H
           have c50b0 := decide_eq_true c50
           clear c50
           by_cases c51 : 0 ≤ x12_4
           ·rw [if_pos c51] at H
            have c51b0 := decide_eq_true c51
            clear c51
            by_cases c52 : x12_4 < (t366.length : Int)
            ·rw [if_pos c52] at H
             have c52b0 := decide_eq_true c52
             clear c52
             by_cases c53 : (!((((rd_T37 t366 x12_4).f0).toList) == (((rd_T37 t363 x12_4).f0).toList)) || (!((((rd_T37 t366 x12_4).f1).toList) == (((rd_T37 t363 x12_4).f1).toList)) || (!(((rd_T37 t366 x12_4).f2) == ((rd_T37 t363 x12_4).f2)) || (!(((rd_T37 t366 x12_4).f3) == ((rd_T37 t363 x12_4).f3)))))) = true
             ·rw [if_pos c53] at H
              have c53b0 : (!((((rd_T37 t366 x12_4).f0).toList) == (((rd_T37 t363 x12_4).f0).toList)) || (!((((rd_T37 t366 x12_4).f1).toList) == (((rd_T37 t363 x12_4).f1).toList)) || (!(((rd_T37 t366 x12_4).f2) == ((rd_T37 t363 x12_4).f2)) || (!(((rd_T37 t366 x12_4).f3) == ((rd_T37 t363 x12_4).f3)))))) = true := c53
              clear c53
              obtain rfl := Option.some.inj H
              have p369 : 0 ≤ (x12_4 : Int) := of_decide_eq_true (by first | (with_reducible assumption) | assumption)
              have q369 : x12_4 < (t366.length : Int) := of_decide_eq_true (by first | (with_reducible assumption) | assumption)
              obtain ⟨ad369, e369, hx369_0, hx369_1, hx369_2, hx369_3⟩ := at_T37 (Kd.R_reads' HO_11.out).2.2 x12_4 p369 q369
              cases e369
              replace p369 := eq_true p369
              replace q369 := eq_true q369
              have p370 : 0 ≤ (x12_4 : Int) := of_decide_eq_true (by first | (with_reducible assumption) | assumption)
              have q370 : x12_4 < (t363.length : Int) := of_decide_eq_true (by first | (with_reducible assumption) | assumption)
              obtain ⟨ad370, e370, hx370_0, hx370_1, hx370_2, hx370_3⟩ := at_T37 (Kd.R_reads' HO_10.out).2.2 x12_4 p370 q370
              cases e370
              replace p370 := eq_true p370
              replace q370 := eq_true q370
              go_wp2
              repeat (go_quiet (fail); try go_wp2)
              go_ret
              exact ⟨sq, sb⟩
             rw [if_neg c53] at H
             have c53b0 : (!((((rd_T37 t366 x12_4).f0).toList) == (((rd_T37 t363 x12_4).f0).toList)) || (!((((rd_T37 t366 x12_4).f1).toList) == (((rd_T37 t363 x12_4).f1).toList)) || (!(((rd_T37 t366 x12_4).f2) == ((rd_T37 t363 x12_4).f2)) || (!(((rd_T37 t366 x12_4).f3) == ((rd_T37 t363 x12_4).f3)))))) = false := by simpa using c53
             clear c53
             have H' := Aside0.mk H
             clear H
             have p369 : 0 ≤ (x12_4 : Int) := of_decide_eq_true (by first | (with_reducible assumption) | assumption)
             have q369 : x12_4 < (t366.length : Int) := of_decide_eq_true (by first | (with_reducible assumption) | assumption)
             obtain ⟨ad369, e369, hx369_0, hx369_1, hx369_2, hx369_3⟩ := at_T37 (Kd.R_reads' HO_11.out).2.2 x12_4 p369 q369
             cases e369
             replace p369 := eq_true p369
             replace q369 := eq_true q369
             have p370 : 0 ≤ (x12_4 : Int) := of_decide_eq_true (by first | (with_reducible assumption) | assumption)
             have q370 : x12_4 < (t363.length : Int) := of_decide_eq_true (by first | (with_reducible assumption) | assumption)
             obtain ⟨ad370, e370, hx370_0, hx370_1, hx370_2, hx370_3⟩ := at_T37 (Kd.R_reads' HO_10.out).2.2 x12_4 p370 q370
             cases e370
             replace p370 := eq_true p370
             replace q370 := eq_true q370
             go_wp2
             repeat (go_quiet (fail); try go_wp2)
             go_loopg [13] k4 (fun kq v13 w' => ∃ (x13_5 : Int), v13 = .int .i64 x13_5 ∧ Aside0 (laws_FnCaptures.l3 kq t353 t363 t366 x12_4 x13_5 = some r) ∧ Aside0 (kq ≤ k4) ∧ Aside0 (Kd.R k37 37 w' w.heap.size (fun k_ => some k_ ≠ ((.slice (some ad370) t363.length co47) : Value).ownBlock ∧ some k_ ≠ ((.slice (some ad369) t366.length co49) : Value).ownBlock) (.slice Ao45 t353.length co45) t353) ∧ Aside0 (Kd.R k37 37 w' w.heap.size (fun k_ => some k_ ≠ ((.slice Ao45 t353.length co45) : Value).ownBlock ∧ some k_ ≠ ((.slice (some ad369) t366.length co49) : Value).ownBlock) (.slice (some ad370) t363.length co47) t363) ∧ Aside0 (Kd.R k37 37 w' w.heap.size (fun k_ => some k_ ≠ ((.slice Ao45 t353.length co45) : Value).ownBlock ∧ some k_ ≠ ((.slice (some ad370) t363.length co47) : Value).ownBlock) (.slice (some ad369) t366.length co49) t366) ∧ Aside0 (Kd.R k35 35 w' w.heap.size (fun _ => True) (.slice Ao9 t349.length co9) t349) ∧ Aside0 (w'.heap[gb352]? = some (.cells #[.int .i64 t347, .int .i64 t348, (.slice Ao9 t349.length co9)] 30 (0, 0))) ∧ Aside0 (Below w.heap.size w w'))
             case atStart => exact ⟨(wrap64 ((t353.length : Int) - 1)), sr, H', ⟨Nat.le_refl _⟩, ⟨by exact sE HO_4.out⟩, ⟨by exact sE HO_10.out⟩, ⟨by exact sE HO_11.out⟩, ⟨by exact sE HO_353002.out⟩, ⟨by exact sT BK352.out⟩, ⟨sb⟩⟩
             case round =>
              clear H'
              try clear c1
              try clear c2
              try clear c2b0
              try clear c2b1
              try clear p2
              try clear c3
              try clear p3
              try clear q3
              try clear hx3
              try clear c4
              try clear c5
              try clear p6
              try clear c13
              try clear c13b0
              try clear c14
              try clear c14b0
              try clear c18
              try clear c20
              try clear c20b0
              try clear c20b2
              try clear c21
              try clear c23
              try clear c25
              try clear c28
              try clear c28b0
              try clear c28b1
              try clear c28b2
              try clear c32
              try clear c33
              try clear c33b0
              try clear c34
              try clear c34b0
              try clear c35
              try clear c35b0
              try clear p35
              try clear q35
              try clear hx35
              try clear c36
              try clear c36b0
              try clear p36
              try clear q36
              try clear hx36
              try clear p37
              try clear q37
              try clear hx37
              try clear c43
              try clear c43b0
              try clear c43b1
              try clear c43b2
              try clear c50
              try clear c50b0
              try clear c51
              try clear c51b0
              try clear c52
              try clear c52b0
              try clear c53
              try clear c53b0
              try clear hcz11_0
              try clear hcz11_1
              try clear hcz11_2
              try clear hcz16_0
              try clear hcz16_1
              try clear hcz16_2
              try clear hcz19_0
              try clear hcz19_1
              try clear hcz19_2
              try clear hcz19_3
              try clear hcz22_0
              try clear hcz22_1
              try clear hcz22_2
              try clear hcz22_3
              try clear hcz24_0
              try clear hcz24_1
              try clear hcz24_2
              try clear hcz24_3
              try clear hcz27_0
              try clear hcz27_1
              try clear hcz27_2
              try clear hcz8_0
              try clear hcz8_1
              try clear hcz8_2
              try clear hfz11_0
              try clear hfz11_1
              try clear hfz11_2
              try clear hfz16_0
              try clear hfz16_1
              try clear hfz16_2
              try clear hfz19_0
              try clear hfz19_1
              try clear hfz19_2
              try clear hfz19_3
              try clear hfz22_0
              try clear hfz22_1
              try clear hfz22_2
              try clear hfz22_3
              try clear hfz24_0
              try clear hfz24_1
              try clear hfz24_2
              try clear hfz24_3
              try clear hfz27_0
              try clear hfz27_1
              try clear hfz27_2
              try clear hfz8_0
              try clear hfz8_1
              try clear hfz8_2
              try clear hx359_0
              try clear hx359_1
              try clear hx359_2
              try clear hx359_3
              try clear hx361_0
              try clear hx361_1
              try clear hx361_2
              try clear hx361_3
              try clear hx362_0
              try clear hx362_1
              try clear hx362_2
              try clear hx362_3
              try clear hx369_0
              try clear hx369_1
              try clear hx369_2
              try clear hx369_3
              try clear hx370_0
              try clear hx370_1
              try clear hx370_2
              try clear hx370_3
              try clear p2
              try clear p3
              try clear p35
              try clear p359
              try clear p36
              try clear p361
              try clear p362
              try clear p369
              try clear p370
              try clear p6
              try clear q3
              try clear q35
              try clear q359
              try clear q36
              try clear q361
              try clear q362
              try clear q369
              try clear q370
              obtain ⟨x13_5, rfl, HA, HK5, HO_4, HO_10, HO_11, HO_353002, BK352, HB⟩ := hrel
              cases gk with
              | zero => exact absurd HA.out (by simp [laws_FnCaptures.l3])
              | succ k5 =>
               have H := HA.out
               clear HA
               simp only [laws_FnCaptures.l3] at H
               have HC54 := Aside0.mk H
               clear H
               go_upto_region 30 with (fail)
               repeat (go_quiet (fail); go_upto_region 30 with (fail))
               go_cut [111] (fun v111 wc => ∃ (kq : Nat) (x111_53 : Bool), v111 = .bool x111_53 ∧ Aside0 (laws_FnCaptures.j6 kq t353 t363 t366 x12_4 x13_5 x111_53 = some r) ∧ Aside0 (kq ≤ k5) ∧ Aside0 (Kd.R k37 37 wc w.heap.size (fun k_ => some k_ ≠ ((.slice (some ad370) t363.length co47) : Value).ownBlock ∧ some k_ ≠ ((.slice (some ad369) t366.length co49) : Value).ownBlock) (.slice Ao45 t353.length co45) t353) ∧ Aside0 (Kd.R k37 37 wc w.heap.size (fun k_ => some k_ ≠ ((.slice Ao45 t353.length co45) : Value).ownBlock ∧ some k_ ≠ ((.slice (some ad369) t366.length co49) : Value).ownBlock) (.slice (some ad370) t363.length co47) t363) ∧ Aside0 (Kd.R k37 37 wc w.heap.size (fun k_ => some k_ ≠ ((.slice Ao45 t353.length co45) : Value).ownBlock ∧ some k_ ≠ ((.slice (some ad370) t363.length co47) : Value).ownBlock) (.slice (some ad369) t366.length co49) t366) ∧ Aside0 (Kd.R k35 35 wc w.heap.size (fun _ => True) (.slice Ao9 t349.length co9) t349) ∧ Aside0 (wc.heap[gb352]? = some (.cells #[.int .i64 t347, .int .i64 t348, (.slice Ao9 t349.length co9)] 30 (0, 0))) ∧ Aside0 (Below w.heap.size w wc))
               case first =>
                have H := HC54.out
                clear HC54
                by_cases c55 : x13_5 ≥ 0
                ·rw [if_pos c55] at H
                 have c55b0 : decide (0 ≤ x13_5) = true := decide_eq_true c55
                 clear c55
                 (first | rw [c55b0] | (simp only [i64_w, i32_w]; rw [c55b0]) | rw [c55b2] | skip)
                 by_cases c56 : 0 ≤ x13_5
                 ·rw [if_pos c56] at H
                  have c56b0 := decide_eq_true c56
                  clear c56
                  by_cases c57 : x13_5 < (t353.length : Int)
                  ·rw [if_pos c57] at H
                   have c57b0 := decide_eq_true c57
                   clear c57
                   by_cases c58 : 0 ≤ x12_4
                   ·rw [if_pos c58] at H
                    have c58b0 := decide_eq_true c58
                    clear c58
                    by_cases c59 : x12_4 < (t363.length : Int)
                    ·rw [if_pos c59] at H
                     have c59b0 := decide_eq_true c59
                     clear c59
                     have H' := Aside0.mk H
                     clear H
                     have p371 : 0 ≤ (x13_5 : Int) := of_decide_eq_true (by first | (with_reducible assumption) | assumption)
                     have q371 : x13_5 < (t353.length : Int) := of_decide_eq_true (by first | (with_reducible assumption) | assumption)
                     obtain ⟨ad371, e371, hx371_0, hx371_1, hx371_2, hx371_3⟩ := at_T37 (Kd.R_reads' HO_4.out).2.2 x13_5 p371 q371
                     cases e371
                     replace p371 := eq_true p371
                     replace q371 := eq_true q371
                     have p372 : 0 ≤ (x12_4 : Int) := of_decide_eq_true (by first | (with_reducible assumption) | assumption)
                     have q372 : x12_4 < (t363.length : Int) := of_decide_eq_true (by first | (with_reducible assumption) | assumption)
                     obtain ⟨ad372, e372, hx372_0, hx372_1, hx372_2, hx372_3⟩ := at_T37 (Kd.R_reads' HO_10.out).2.2 x12_4 p372 q372
                     obtain rfl : ad370 = ad372 := (by injection e372)
                     replace p372 := eq_true p372
                     replace q372 := eq_true q372
                     go_wp2
                     repeat (go_quiet (fail); try go_wp2)
                     go_meet
                     case rel => exact ⟨_, ((((rd_T37 t353 x13_5).f0).toList != ((rd_T37 t363 x12_4).f0).toList)), sr, H', ⟨by have := HK1.out; have := HJ25.out; have := HK3.out; have := HK4.out; have := HK5.out; first | omega | exact Nat.le_refl _⟩, ⟨by exact sE HO_4.out⟩, ⟨by exact sE HO_10.out⟩, ⟨by exact sE HO_11.out⟩, ⟨by exact sE HO_353002.out⟩, ⟨by exact sT BK352.out⟩, ⟨sb⟩⟩
                    rw [if_neg c59] at H
                    exact absurd H (by simp)
                   rw [if_neg c58] at H
                   exact absurd H (by simp)
                  rw [if_neg c57] at H
                  exact absurd H (by simp)
                 rw [if_neg c56] at H
                 exact absurd H (by simp)
                rw [if_neg c55] at H
                have c55b0 : decide (0 ≤ x13_5) = false := decide_eq_false c55
                clear c55
                (first | rw [c55b0] | (simp only [i64_w, i32_w]; rw [c55b0]) | rw [c55b2] | skip)
                have H' := Aside0.mk H
                clear H
                go_wp2
                repeat (go_quiet (fail); try go_wp2)
                go_meet
                case rel => exact ⟨_, (false), sr, H', ⟨by have := HK1.out; have := HJ25.out; have := HK3.out; have := HK4.out; have := HK5.out; first | omega | exact Nat.le_refl _⟩, ⟨by exact sE HO_4.out⟩, ⟨by exact sE HO_10.out⟩, ⟨by exact sE HO_11.out⟩, ⟨by exact sE HO_353002.out⟩, ⟨by exact sT BK352.out⟩, ⟨sb⟩⟩
               case rest =>
                clear HC54
                try clear c1
                try clear c2
                try clear c2b0
                try clear c2b1
                try clear p2
                try clear c3
                try clear p3
                try clear q3
                try clear hx3
                try clear c4
                try clear c5
                try clear p6
                try clear c13
                try clear c13b0
                try clear c14
                try clear c14b0
                try clear c18
                try clear c20
                try clear c20b0
                try clear c20b2
                try clear c21
                try clear c23
                try clear c25
                try clear c28
                try clear c28b0
                try clear c28b1
                try clear c28b2
                try clear c32
                try clear c33
                try clear c33b0
                try clear c34
                try clear c34b0
                try clear c35
                try clear c35b0
                try clear p35
                try clear q35
                try clear hx35
                try clear c36
                try clear c36b0
                try clear p36
                try clear q36
                try clear hx36
                try clear p37
                try clear q37
                try clear hx37
                try clear c43
                try clear c43b0
                try clear c43b1
                try clear c43b2
                try clear c50
                try clear c50b0
                try clear c51
                try clear c51b0
                try clear c52
                try clear c52b0
                try clear c53
                try clear c53b0
                try clear c55
                try clear c55b0
                try clear c55b2
                try clear c56
                try clear c56b0
                try clear c57
                try clear c57b0
                try clear c58
                try clear c58b0
                try clear c59
                try clear c59b0
                try clear hcz11_0
                try clear hcz11_1
                try clear hcz11_2
                try clear hcz16_0
                try clear hcz16_1
                try clear hcz16_2
                try clear hcz19_0
                try clear hcz19_1
                try clear hcz19_2
                try clear hcz19_3
                try clear hcz22_0
                try clear hcz22_1
                try clear hcz22_2
                try clear hcz22_3
                try clear hcz24_0
                try clear hcz24_1
                try clear hcz24_2
                try clear hcz24_3
                try clear hcz27_0
                try clear hcz27_1
                try clear hcz27_2
                try clear hcz8_0
                try clear hcz8_1
                try clear hcz8_2
                try clear hfz11_0
                try clear hfz11_1
                try clear hfz11_2
                try clear hfz16_0
                try clear hfz16_1
                try clear hfz16_2
                try clear hfz19_0
                try clear hfz19_1
                try clear hfz19_2
                try clear hfz19_3
                try clear hfz22_0
                try clear hfz22_1
                try clear hfz22_2
                try clear hfz22_3
                try clear hfz24_0
                try clear hfz24_1
                try clear hfz24_2
                try clear hfz24_3
                try clear hfz27_0
                try clear hfz27_1
                try clear hfz27_2
                try clear hfz8_0
                try clear hfz8_1
                try clear hfz8_2
                try clear hx359_0
                try clear hx359_1
                try clear hx359_2
                try clear hx359_3
                try clear hx361_0
                try clear hx361_1
                try clear hx361_2
                try clear hx361_3
                try clear hx362_0
                try clear hx362_1
                try clear hx362_2
                try clear hx362_3
                try clear hx369_0
                try clear hx369_1
                try clear hx369_2
                try clear hx369_3
                try clear hx370_0
                try clear hx370_1
                try clear hx370_2
                try clear hx370_3
                try clear hx371_0
                try clear hx371_1
                try clear hx371_2
                try clear hx371_3
                try clear hx372_0
                try clear hx372_1
                try clear hx372_2
                try clear hx372_3
                try clear p2
                try clear p3
                try clear p35
                try clear p359
                try clear p36
                try clear p361
                try clear p362
                try clear p369
                try clear p37
                try clear p370
                try clear p371
                try clear p372
                try clear p6
                try clear q3
                try clear q35
                try clear q359
                try clear q36
                try clear q361
                try clear q362
                try clear q369
                try clear q37
                try clear q370
                try clear q371
                try clear q372
                obtain ⟨kq, x111_53, rfl, HA, HJ53, HO_4, HO_10, HO_11, HO_353002, BK352, HB⟩ := hcut
                cases kq with
                | zero => exact absurd HA.out (by simp [laws_FnCaptures.j6])
                | succ kj53 =>
                 have H := HA.out
                 clear HA
                 simp only [laws_FnCaptures.j6] at H
                 by_cases c60 : x111_53 = true
                 ·subst c60
                  rewrite [if_pos rfl] at H
                  have H' := Aside0.mk H
                  clear H
                  go_wp2
                  repeat (go_quiet (fail); try go_wp2)
                  go_roundg kj53
                  case measure => have := HK1.out; have := HJ25.out; have := HK3.out; have := HK4.out; have := HK5.out; have := HJ53.out; omega
                  case rel => exact ⟨(wrap64 (x13_5 - 1)), sr, H', ⟨by have := HK1.out; have := HJ25.out; have := HK3.out; have := HK4.out; have := HK5.out; have := HJ53.out; omega⟩, ⟨by exact sE HO_4.out⟩, ⟨by exact sE HO_10.out⟩, ⟨by exact sE HO_11.out⟩, ⟨by exact sE HO_353002.out⟩, ⟨by exact sT BK352.out⟩, ⟨sb⟩⟩
                 replace c60 := Bool.eq_false_iff.mpr c60
                 subst c60
                 rewrite [if_neg (show ¬ (false = true) by decide)] at H
                 have HC61 := Aside0.mk H
                 clear H
                 go_upto_region 32 with (fail)
                 repeat (go_quiet (fail); go_upto_region 32 with (fail))
                 go_cut [126] (fun v126 wc => ∃ (kq : Nat) (x126_60 : Bool), v126 = .bool x126_60 ∧ Aside0 (laws_FnCaptures.j7 kq t353 t363 t366 x12_4 x126_60 = some r) ∧ Aside0 (kq ≤ kj53) ∧ Aside0 (Kd.R k37 37 wc w.heap.size (fun k_ => some k_ ≠ ((.slice (some ad370) t363.length co47) : Value).ownBlock ∧ some k_ ≠ ((.slice (some ad369) t366.length co49) : Value).ownBlock) (.slice Ao45 t353.length co45) t353) ∧ Aside0 (Kd.R k37 37 wc w.heap.size (fun k_ => some k_ ≠ ((.slice Ao45 t353.length co45) : Value).ownBlock ∧ some k_ ≠ ((.slice (some ad369) t366.length co49) : Value).ownBlock) (.slice (some ad370) t363.length co47) t363) ∧ Aside0 (Kd.R k37 37 wc w.heap.size (fun k_ => some k_ ≠ ((.slice Ao45 t353.length co45) : Value).ownBlock ∧ some k_ ≠ ((.slice (some ad370) t363.length co47) : Value).ownBlock) (.slice (some ad369) t366.length co49) t366) ∧ Aside0 (Kd.R k35 35 wc w.heap.size (fun _ => True) (.slice Ao9 t349.length co9) t349) ∧ Aside0 (wc.heap[gb352]? = some (.cells #[.int .i64 t347, .int .i64 t348, (.slice Ao9 t349.length co9)] 30 (0, 0))) ∧ Aside0 (Below w.heap.size w wc))
                 case first =>
                  have H := HC61.out
                  clear HC61
                  by_cases c62 : x13_5 < 0
                  ·rw [if_pos c62] at H
                   have c62b0 := decide_eq_true c62
                   clear c62
                   (first | rw [c62b0] | (simp only [i64_w, i32_w]; rw [c62b0]) | rw [c62b2] | skip)
                   have H' := Aside0.mk H
                   clear H
                   go_wp2
                   repeat (go_quiet (fail); try go_wp2)
                   go_meet
                   case rel => exact ⟨_, (true), sr, H', ⟨by have := HK1.out; have := HJ25.out; have := HK3.out; have := HK4.out; have := HK5.out; have := HJ53.out; first | omega | exact Nat.le_refl _⟩, ⟨by exact sE HO_4.out⟩, ⟨by exact sE HO_10.out⟩, ⟨by exact sE HO_11.out⟩, ⟨by exact sE HO_353002.out⟩, ⟨by exact sT BK352.out⟩, ⟨sb⟩⟩
                  rw [if_neg c62] at H
                  have c62b0 := decide_eq_false c62
                  clear c62
                  (first | rw [c62b0] | (simp only [i64_w, i32_w]; rw [c62b0]) | rw [c62b2] | skip)
                  by_cases c63 : 0 ≤ x13_5
                  ·rw [if_pos c63] at H
                   have c63b0 := decide_eq_true c63
                   clear c63
                   by_cases c64 : x13_5 < (t353.length : Int)
                   ·rw [if_pos c64] at H
                    have c64b0 := decide_eq_true c64
                    clear c64
                    by_cases c65 : 0 ≤ x12_4
                    ·rw [if_pos c65] at H
                     have c65b0 := decide_eq_true c65
                     clear c65
                     by_cases c66 : x12_4 < (t363.length : Int)
                     ·rw [if_pos c66] at H
                      have c66b0 := decide_eq_true c66
                      clear c66
                      have H' := Aside0.mk H
                      clear H
                      have p373 : 0 ≤ (x13_5 : Int) := of_decide_eq_true (by first | (with_reducible assumption) | assumption)
                      have q373 : x13_5 < (t353.length : Int) := of_decide_eq_true (by first | (with_reducible assumption) | assumption)
                      obtain ⟨ad373, e373, hx373_0, hx373_1, hx373_2, hx373_3⟩ := at_T37 (Kd.R_reads' HO_4.out).2.2 x13_5 p373 q373
                      cases e373
                      replace p373 := eq_true p373
                      replace q373 := eq_true q373
                      have p374 : 0 ≤ (x12_4 : Int) := of_decide_eq_true (by first | (with_reducible assumption) | assumption)
                      have q374 : x12_4 < (t363.length : Int) := of_decide_eq_true (by first | (with_reducible assumption) | assumption)
                      obtain ⟨ad374, e374, hx374_0, hx374_1, hx374_2, hx374_3⟩ := at_T37 (Kd.R_reads' HO_10.out).2.2 x12_4 p374 q374
                      obtain rfl : ad370 = ad374 := (by injection e374)
                      replace p374 := eq_true p374
                      replace q374 := eq_true q374
                      go_wp2
                      repeat (go_quiet (fail); try go_wp2)
                      go_meet
                      case rel => exact ⟨_, ((!((((rd_T37 t353 x13_5).f0).toList) == (((rd_T37 t363 x12_4).f0).toList)) || (!((((rd_T37 t353 x13_5).f1).toList) == (((rd_T37 t363 x12_4).f1).toList)) || (!(((rd_T37 t353 x13_5).f2) == ((rd_T37 t363 x12_4).f2)) || (!(((rd_T37 t353 x13_5).f3) == ((rd_T37 t363 x12_4).f3))))))), sr, H', ⟨by have := HK1.out; have := HJ25.out; have := HK3.out; have := HK4.out; have := HK5.out; have := HJ53.out; first | omega | exact Nat.le_refl _⟩, ⟨by exact sE HO_4.out⟩, ⟨by exact sE HO_10.out⟩, ⟨by exact sE HO_11.out⟩, ⟨by exact sE HO_353002.out⟩, ⟨by exact sT BK352.out⟩, ⟨sb⟩⟩
                     rw [if_neg c66] at H
                     exact absurd H (by simp)
                    rw [if_neg c65] at H
                    exact absurd H (by simp)
                   rw [if_neg c64] at H
                   exact absurd H (by simp)
                  rw [if_neg c63] at H
                  exact absurd H (by simp)
                 case rest =>
                  clear HC61
                  try clear c1
                  try clear c2
                  try clear c2b0
                  try clear c2b1
                  try clear p2
                  try clear c3
                  try clear p3
                  try clear q3
                  try clear hx3
                  try clear c4
                  try clear c5
                  try clear c6
                  try clear p6
                  try clear c13
                  try clear c13b0
                  try clear c14
                  try clear c14b0
                  try clear c18
                  try clear c20
                  try clear c20b0
                  try clear c20b2
                  try clear c21
                  try clear c23
                  try clear c25
                  try clear c28
                  try clear c28b0
                  try clear c28b1
                  try clear c28b2
                  try clear c32
                  try clear c33
                  try clear c33b0
                  try clear c34
                  try clear c34b0
                  try clear c35
                  try clear c35b0
                  try clear p35
                  try clear q35
                  try clear hx35
                  try clear c36
                  try clear c36b0
                  try clear p36
                  try clear q36
                  try clear hx36
                  try clear p37
                  try clear q37
                  try clear hx37
                  try clear c43
                  try clear c43b0
                  try clear c43b1
                  try clear c43b2
                  try clear c50
                  try clear c50b0
                  try clear c51
                  try clear c51b0
                  try clear c52
                  try clear c52b0
                  try clear c53
                  try clear c53b0
                  try clear c55
                  try clear c55b0
                  try clear c55b2
                  try clear c56
                  try clear c56b0
                  try clear c57
                  try clear c57b0
                  try clear c58
                  try clear c58b0
                  try clear c59
                  try clear c59b0
                  try clear c60
                  try clear c62
                  try clear c62b0
                  try clear c62b2
                  try clear c63
                  try clear c63b0
                  try clear c64
                  try clear c64b0
                  try clear p64
                  try clear c65
                  try clear c65b0
                  try clear c66
                  try clear c66b0
                  try clear hcz11_0
                  try clear hcz11_1
                  try clear hcz11_2
                  try clear hcz16_0
                  try clear hcz16_1
                  try clear hcz16_2
                  try clear hcz19_0
                  try clear hcz19_1
                  try clear hcz19_2
                  try clear hcz19_3
                  try clear hcz22_0
                  try clear hcz22_1
                  try clear hcz22_2
                  try clear hcz22_3
                  try clear hcz24_0
                  try clear hcz24_1
                  try clear hcz24_2
                  try clear hcz24_3
                  try clear hcz27_0
                  try clear hcz27_1
                  try clear hcz27_2
                  try clear hcz8_0
                  try clear hcz8_1
                  try clear hcz8_2
                  try clear hfz11_0
                  try clear hfz11_1
                  try clear hfz11_2
                  try clear hfz16_0
                  try clear hfz16_1
                  try clear hfz16_2
                  try clear hfz19_0
                  try clear hfz19_1
                  try clear hfz19_2
                  try clear hfz19_3
                  try clear hfz22_0
                  try clear hfz22_1
                  try clear hfz22_2
                  try clear hfz22_3
                  try clear hfz24_0
                  try clear hfz24_1
                  try clear hfz24_2
                  try clear hfz24_3
                  try clear hfz27_0
                  try clear hfz27_1
                  try clear hfz27_2
                  try clear hfz8_0
                  try clear hfz8_1
                  try clear hfz8_2
                  try clear hx359_0
                  try clear hx359_1
                  try clear hx359_2
                  try clear hx359_3
                  try clear hx361_0
                  try clear hx361_1
                  try clear hx361_2
                  try clear hx361_3
                  try clear hx362_0
                  try clear hx362_1
                  try clear hx362_2
                  try clear hx362_3
                  try clear hx369_0
                  try clear hx369_1
                  try clear hx369_2
                  try clear hx369_3
                  try clear hx370_0
                  try clear hx370_1
                  try clear hx370_2
                  try clear hx370_3
                  try clear hx371_0
                  try clear hx371_1
                  try clear hx371_2
                  try clear hx371_3
                  try clear hx372_0
                  try clear hx372_1
                  try clear hx372_2
                  try clear hx372_3
                  try clear hx373_0
                  try clear hx373_1
                  try clear hx373_2
                  try clear hx373_3
                  try clear hx374_0
                  try clear hx374_1
                  try clear hx374_2
                  try clear hx374_3
                  try clear p2
                  try clear p3
                  try clear p35
                  try clear p359
                  try clear p36
                  try clear p361
                  try clear p362
                  try clear p369
                  try clear p37
                  try clear p370
                  try clear p371
                  try clear p372
                  try clear p373
                  try clear p374
                  try clear p6
                  try clear q3
                  try clear q35
                  try clear q359
                  try clear q36
                  try clear q361
                  try clear q362
                  try clear q369
                  try clear q37
                  try clear q370
                  try clear q371
                  try clear q372
                  try clear q373
                  try clear q374
                  obtain ⟨kq, x126_60, rfl, HA, HJ60, HO_4, HO_10, HO_11, HO_353002, BK352, HB⟩ := hcut
                  cases kq with
                  | zero => exact absurd HA.out (by simp [laws_FnCaptures.j7])
                  | succ kj60 =>
                   have H := HA.out
                   clear HA
                   simp only [laws_FnCaptures.j7] at H
                   by_cases c67 : x126_60 = true
                   ·subst c67
                    rewrite [if_pos rfl] at H
                    obtain rfl := Option.some.inj H
                    go_wp2
                    repeat (go_quiet (fail); try go_wp2)
                    go_ret
                    exact ⟨sq, sb⟩
                   replace c67 := Bool.eq_false_iff.mpr c67
                   subst c67
                   rewrite [if_neg (show ¬ (false = true) by decide)] at H
                   have H' := Aside0.mk H
                   clear H
                   go_wp2
                   repeat (go_quiet (fail); try go_wp2)
                   go_roundg kj60
                   case measure => have := HK1.out; have := HJ25.out; have := HK3.out; have := HK4.out; have := HK5.out; have := HJ53.out; have := HJ60.out; omega
                   case rel => exact ⟨(wrap64 (x12_4 + 1)), sr, H', ⟨by have := HK1.out; have := HJ25.out; have := HK3.out; have := HK4.out; have := HK5.out; have := HJ53.out; have := HJ60.out; omega⟩, ⟨by exact sE HO_4.out⟩, ⟨by exact sE HO_10.out⟩, ⟨by exact sE HO_11.out⟩, ⟨by exact sE HO_353002.out⟩, ⟨by exact sT BK352.out⟩, ⟨sb⟩⟩
            rw [if_neg c52] at H
            exact absurd H (by simp)
           rw [if_neg c51] at H
           exact absurd H (by simp)
          rw [if_neg c50] at H
          have c50b0 := decide_eq_false c50
          clear c50
          obtain rfl := Option.some.inj H
          go_wp2
          repeat (go_quiet (fail); try go_wp2)
          go_ret
          exact ⟨sq, sb⟩
       rw [if_neg c43] at H
       have c43b0 : ((t366.length : Int) == (t363.length : Int)) = false := beq_eq_false_iff_ne.mpr c43
       have c43b1 : ((t366.length : Int) != (t363.length : Int)) = true := bne_iff_ne.mpr c43
       have c43b2 : (t366.length == t363.length) = false := by first | simpa using c43 | (simp at c43 ⊢; omega)
       obtain rfl := Option.some.inj H
       obtain ⟨Ao68, co68, eo68⟩ := Kd.R_slice HO_5.out
       subst eo68
       obtain ⟨Ao69, co69, eo69⟩ := Kd.R_slice HO_4.out
       subst eo69
       go_wp2_with (first | (go_at_call 19; (with_reducible refine (impl_FinalOf.calls k3 _ _ t353 t363 _ ?side1 ?side2 A41.out).mono ?_); (case side1 => exact sD ((Kd.R_reads' HO_4.out).2.2)); (case side2 => exact (Kd.R_reads' HO_4.out).2.1); rintro e w70 ⟨v364, rfl, ho0, hb⟩; have n0_ := Aside0.mk (Kd.R_elder' (sE HO_4.out) (Kd.R_base ho0) hb); have n1_ := Aside0.mk (Kd.R_elder' (sE HO_5.out) (Kd.R_base ho0) hb); have n2_ := Aside0.mk (Kd.R_below (sE HO_353002.out) hb); have n3_ := Aside0.mk (Kd.R_lower (Kd.R_new' (Kd.R_new' ho0 (Kd.R_lt (sE HO_4.out))) (Kd.R_lt (sE HO_5.out))) (below_size (by repeat (first | (with_reducible first | exact HB.out | apply below_alloc | apply pw_below_drewN | apply below_drew1 | refine below_set ?_ GE352.out) | exact HB.out)))); have n4_ := sK BK352 hb; have n5_ := sB HB hb; clear HO_4; clear HO_5; clear HO_353002; clear BK352; clear HB; have HO_4 := n0_; have HO_5 := n1_; have HO_353002 := n2_; have HO365 := n3_; have BK352 := n4_; have HB := n5_; clear n0_ n1_ n2_ n3_ n4_ n5_; (try clear hb); (try clear hb2); (try clear hk); (try clear hi); (try clear ho0); obtain ⟨Ao71, co71, eo71⟩ := Kd.R_slice HO365.out; subst eo71) | (go_at_call 19; (with_reducible refine (impl_FinalOf.calls k3 _ _ t363 t366 _ ?side1 ?side2 A42.out).mono ?_); (case side1 => exact sD ((Kd.R_reads' HO365.out).2.2)); (case side2 => exact (Kd.R_reads' HO365.out).2.1); rintro e w72 ⟨v367, rfl, ho0, hb⟩; have n0_ := Aside0.mk (Kd.R_elder' (sE HO_4.out) (Kd.R_base ho0) hb); have n1_ := Aside0.mk (Kd.R_elder' (sE HO_5.out) (Kd.R_base ho0) hb); have n2_ := Aside0.mk (Kd.R_below (sE HO_353002.out) hb); have n3_ := Aside0.mk (Kd.R_elder' (sE HO365.out) (Kd.R_base ho0) hb); have n4_ := Aside0.mk (Kd.R_lower (Kd.R_new' (Kd.R_new' (Kd.R_new' ho0 (Kd.R_lt (sE HO_4.out))) (Kd.R_lt (sE HO_5.out))) (Kd.R_lt (sE HO365.out))) (below_size (by repeat (first | (with_reducible first | exact HB.out | apply below_alloc | apply pw_below_drewN | apply below_drew1 | refine below_set ?_ GE352.out) | exact HB.out)))); have n5_ := sK BK352 hb; have n6_ := sB HB hb; clear HO_4; clear HO_5; clear HO_353002; clear HO365; clear BK352; clear HB; have HO_4 := n0_; have HO_5 := n1_; have HO_353002 := n2_; have HO365 := n3_; have HO368 := n4_; have BK352 := n5_; have HB := n6_; clear n0_ n1_ n2_ n3_ n4_ n5_ n6_; (try clear hb); (try clear hb2); (try clear hk); (try clear hi); (try clear ho0); obtain ⟨Ao73, co73, eo73⟩ := Kd.R_slice HO368.out; subst eo73))
       repeat (go_quiet (first | (go_at_call 19; (with_reducible refine (impl_FinalOf.calls k3 _ _ t353 t363 _ ?side1 ?side2 A41.out).mono ?_); (case side1 => exact sD ((Kd.R_reads' HO_4.out).2.2)); (case side2 => exact (Kd.R_reads' HO_4.out).2.1); rintro e w70 ⟨v364, rfl, ho0, hb⟩; have n0_ := Aside0.mk (Kd.R_elder' (sE HO_4.out) (Kd.R_base ho0) hb); have n1_ := Aside0.mk (Kd.R_elder' (sE HO_5.out) (Kd.R_base ho0) hb); have n2_ := Aside0.mk (Kd.R_below (sE HO_353002.out) hb); have n3_ := Aside0.mk (Kd.R_lower (Kd.R_new' (Kd.R_new' ho0 (Kd.R_lt (sE HO_4.out))) (Kd.R_lt (sE HO_5.out))) (below_size (by repeat (first | (with_reducible first | exact HB.out | apply below_alloc | apply pw_below_drewN | apply below_drew1 | refine below_set ?_ GE352.out) | exact HB.out)))); have n4_ := sK BK352 hb; have n5_ := sB HB hb; clear HO_4; clear HO_5; clear HO_353002; clear BK352; clear HB; have HO_4 := n0_; have HO_5 := n1_; have HO_353002 := n2_; have HO365 := n3_; have BK352 := n4_; have HB := n5_; clear n0_ n1_ n2_ n3_ n4_ n5_; (try clear hb); (try clear hb2); (try clear hk); (try clear hi); (try clear ho0); obtain ⟨Ao71, co71, eo71⟩ := Kd.R_slice HO365.out; subst eo71) | (go_at_call 19; (with_reducible refine (impl_FinalOf.calls k3 _ _ t363 t366 _ ?side1 ?side2 A42.out).mono ?_); (case side1 => exact sD ((Kd.R_reads' HO365.out).2.2)); (case side2 => exact (Kd.R_reads' HO365.out).2.1); rintro e w72 ⟨v367, rfl, ho0, hb⟩; have n0_ := Aside0.mk (Kd.R_elder' (sE HO_4.out) (Kd.R_base ho0) hb); have n1_ := Aside0.mk (Kd.R_elder' (sE HO_5.out) (Kd.R_base ho0) hb); have n2_ := Aside0.mk (Kd.R_below (sE HO_353002.out) hb); have n3_ := Aside0.mk (Kd.R_elder' (sE HO365.out) (Kd.R_base ho0) hb); have n4_ := Aside0.mk (Kd.R_lower (Kd.R_new' (Kd.R_new' (Kd.R_new' ho0 (Kd.R_lt (sE HO_4.out))) (Kd.R_lt (sE HO_5.out))) (Kd.R_lt (sE HO365.out))) (below_size (by repeat (first | (with_reducible first | exact HB.out | apply below_alloc | apply pw_below_drewN | apply below_drew1 | refine below_set ?_ GE352.out) | exact HB.out)))); have n5_ := sK BK352 hb; have n6_ := sB HB hb; clear HO_4; clear HO_5; clear HO_353002; clear HO365; clear BK352; clear HB; have HO_4 := n0_; have HO_5 := n1_; have HO_353002 := n2_; have HO365 := n3_; have HO368 := n4_; have BK352 := n5_; have HB := n6_; clear n0_ n1_ n2_ n3_ n4_ n5_ n6_; (try clear hb); (try clear hb2); (try clear hk); (try clear hi); (try clear ho0); obtain ⟨Ao73, co73, eo73⟩ := Kd.R_slice HO368.out; subst eo73)); try go_wp2_with (first | (go_at_call 19; (with_reducible refine (impl_FinalOf.calls k3 _ _ t353 t363 _ ?side1 ?side2 A41.out).mono ?_); (case side1 => exact sD ((Kd.R_reads' HO_4.out).2.2)); (case side2 => exact (Kd.R_reads' HO_4.out).2.1); rintro e w70 ⟨v364, rfl, ho0, hb⟩; have n0_ := Aside0.mk (Kd.R_elder' (sE HO_4.out) (Kd.R_base ho0) hb); have n1_ := Aside0.mk (Kd.R_elder' (sE HO_5.out) (Kd.R_base ho0) hb); have n2_ := Aside0.mk (Kd.R_below (sE HO_353002.out) hb); have n3_ := Aside0.mk (Kd.R_lower (Kd.R_new' (Kd.R_new' ho0 (Kd.R_lt (sE HO_4.out))) (Kd.R_lt (sE HO_5.out))) (below_size (by repeat (first | (with_reducible first | exact HB.out | apply below_alloc | apply pw_below_drewN | apply below_drew1 | refine below_set ?_ GE352.out) | exact HB.out)))); have n4_ := sK BK352 hb; have n5_ := sB HB hb; clear HO_4; clear HO_5; clear HO_353002; clear BK352; clear HB; have HO_4 := n0_; have HO_5 := n1_; have HO_353002 := n2_; have HO365 := n3_; have BK352 := n4_; have HB := n5_; clear n0_ n1_ n2_ n3_ n4_ n5_; (try clear hb); (try clear hb2); (try clear hk); (try clear hi); (try clear ho0); obtain ⟨Ao71, co71, eo71⟩ := Kd.R_slice HO365.out; subst eo71) | (go_at_call 19; (with_reducible refine (impl_FinalOf.calls k3 _ _ t363 t366 _ ?side1 ?side2 A42.out).mono ?_); (case side1 => exact sD ((Kd.R_reads' HO365.out).2.2)); (case side2 => exact (Kd.R_reads' HO365.out).2.1); rintro e w72 ⟨v367, rfl, ho0, hb⟩; have n0_ := Aside0.mk (Kd.R_elder' (sE HO_4.out) (Kd.R_base ho0) hb); have n1_ := Aside0.mk (Kd.R_elder' (sE HO_5.out) (Kd.R_base ho0) hb); have n2_ := Aside0.mk (Kd.R_below (sE HO_353002.out) hb); have n3_ := Aside0.mk (Kd.R_elder' (sE HO365.out) (Kd.R_base ho0) hb); have n4_ := Aside0.mk (Kd.R_lower (Kd.R_new' (Kd.R_new' (Kd.R_new' ho0 (Kd.R_lt (sE HO_4.out))) (Kd.R_lt (sE HO_5.out))) (Kd.R_lt (sE HO365.out))) (below_size (by repeat (first | (with_reducible first | exact HB.out | apply below_alloc | apply pw_below_drewN | apply below_drew1 | refine below_set ?_ GE352.out) | exact HB.out)))); have n5_ := sK BK352 hb; have n6_ := sB HB hb; clear HO_4; clear HO_5; clear HO_353002; clear HO365; clear BK352; clear HB; have HO_4 := n0_; have HO_5 := n1_; have HO_353002 := n2_; have HO365 := n3_; have HO368 := n4_; have BK352 := n5_; have HB := n6_; clear n0_ n1_ n2_ n3_ n4_ n5_ n6_; (try clear hb); (try clear hb2); (try clear hk); (try clear hi); (try clear ho0); obtain ⟨Ao73, co73, eo73⟩ := Kd.R_slice HO368.out; subst eo73)))
       go_ret
       exact ⟨sq, sb⟩

/-- THE ONE PURE STATEMENT of laws_FnCaptures: yours. -/
def laws_FnCaptures.Pure : Prop := ∀ (l0 : List Int), l0.length ≤ maxLen → l0.length * 1 ≤ 140737488351232 → (∀ x ∈ l0, (Lit.int .u8 x).wf = true) → ∃ k, laws_FnCaptures.f k l0 = some true
theorem laws_FnCaptures.walk (P : laws_FnCaptures.Pure) (a0 : Option Addr) (len0 cap0 : Nat) (z0 : List Int) (w : World) (w0 : (a0 = none ∧ len0 = 0 ∧ cap0 = 0 ∧ z0 = []) ∨ ∃ x, a0 = some x ∧ len0 ≤ cap0 ∧ cap0 ≤ maxLen ∧ z0.length = cap0 ∧ (∀ i, i < z0.length → w.cell? (x.add i) = some (.int .u8 (z0.getD i 0))) ∧ ∀ n ∈ z0, (Lit.int .u8 n).wf = true) (y0 : len0 * 1 ≤ 140737488351232) :
  Calls Try.prog 4 #[.slice a0 len0 cap0] w fun e w' => e = .returned (.bool true) ∧ Below w.heap.size w w' := by
 obtain ⟨l0, rfl, hr0, hm0, hw0, hc0⟩ := ReadsInt.ofRowC w0
 obtain ⟨k, h⟩ := P l0 hm0 y0 hw0
 refine (laws_FnCaptures.calls k _ _ l0 true w (Kd.C_of_reads (d := (0 : Int)) (h1 := fun _ => rfl) hr0) hc0 h).mono ?_
 rintro e w' ⟨rfl, hd⟩
 exact ⟨rfl, hd⟩
end
end Go.Proofs.Ytabbpnkbhapibaa.PFnExactFinalOf
