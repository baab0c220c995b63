/- Printed functions: laws_FnExactFinalOf. -/
import Derived.Test.YtabbpnkbhapibaaYFcP0
import Derived.Test.YtabbpnkbhapibaaYFcP1
import Derived.Test.YtabbpnkbhapibaaYFcP2
import Derived.Test.YtabbpnkbhapibaaYFcP3
import Derived.Test.YtabbpnkbhapibaaYFcP4
import Derived.Test.YtabbpnkbhapibaaYFcP5
import Derived.Test.YtabbpnkbhapibaaYFcP6
namespace Go.Proofs.Ytabbpnkbhapibaa.PFnExactFinalOf
open Go.RowKit Go.Proofs.YtabbpnkbhapibaaG Go.Proofs.YtabbpnkbhapibaaW.PrintWords Go.Proofs.YtabbpnkbhapibaaW.PrintLast Go.Proofs.YtabbpnkbhapibaaW.PrintMore
attribute [local go_sem] max2_int min2_int max_two min_two max_three min_three max_four min_four   -- for this text's walks alone
set_option linter.unusedVariables false
set_option linter.unusedSimpArgs false
/-! ### laws_FnExactFinalOf: function 7 -/
def laws_FnExactFinalOf.j0 : Nat → List (S149) → List (S37) → List (S37) → Bool → Option (Bool)
 | 0, _, _, _, _ => none
 | k + 1, x0, x4, x6, x42 => if x42 = true then (some false) else ((laws_markAssignmentS.f k x6 1).bind fun bt182 => ((laws_heldAssignmentS.f k bt182.2 1).bind fun t184 => (if t184 < 0 then (some false) else (if t184 = bt182.1 then ((laws_toAssignmentS.f k x0).bind fun t185 => ((impl_FinalOf.f k t185).bind fun t188 => ((laws_eqAssignmentS.f k t188 x4).bind fun t191 => (if t191 = true then ((laws_heldAssignmentS.f k bt182.2 1).bind fun t192 => (if t192 < 0 then (some false) else (if t192 = bt182.1 then (some true) else (some false)))) else (some false))))) else (some false)))))
def laws_FnExactFinalOf.f (k : Nat) (l0 : List (S149)) : Option (Bool) := (laws_szAssignmentS.f k l0 1048576).bind fun t161 => (if t161 < 0 then (some true) else ((laws_toAssignmentS.f k l0).bind fun t162 => ((spec_FinalOf.f k t162).bind fun t165 => ((laws_toAssignmentS.f k l0).bind fun t168 => ((impl_FinalOf.f k t168).bind fun t171 => ((laws_eqAssignmentS.f k t171 t165).bind fun t174 => (if t174 = true then ((laws_toAssignmentS.f k l0).bind fun t175 => ((laws_eqAssignmentS.f k t168 t175).bind fun t178 => (if t178 = true then ((laws_markAssignmentS.f k t168 1).bind fun bt179 => (if bt179.1 < 0 then (laws_FnExactFinalOf.j0 k l0 t165 t171 true) else ((laws_eqAssignmentS.f k t171 t165).bind fun t181 => (laws_FnExactFinalOf.j0 k l0 t165 t171 (!t181))))) else (some false)))) else (some false))))))))
set_option maxHeartbeats 8000000 in
set_option maxRecDepth 100000 in
theorem laws_FnExactFinalOf.calls (k : Nat) (A0 : Option Addr) (c0 : Nat) (l0 : List (S149)) (w : World) (hr0 : Kd.C k149 w A0 l0.length l0) (hc0 : l0.length ≤ c0) (h : laws_FnExactFinalOf.f k l0 = some true) :
  Calls Try.prog 7 #[.slice A0 l0.length c0] w fun e w' => e = .returned (.bool true) ∧ Below w.heap.size w w' := by
 have HR0 := Aside0.mk hr0
 have HC0 := Aside0.mk hc0
 clear hr0 hc0
 have HB := Aside0.mk (Below.refl w.heap.size w)
 have H : ((laws_szAssignmentS.f k l0 1048576).bind fun t161 => (if t161 < 0 then (some true) else ((laws_toAssignmentS.f k l0).bind fun t162 => ((spec_FinalOf.f k t162).bind fun t165 => ((laws_toAssignmentS.f k l0).bind fun t168 => ((impl_FinalOf.f k t168).bind fun t171 => ((laws_eqAssignmentS.f k t171 t165).bind fun t174 => (if t174 = true then ((laws_toAssignmentS.f k l0).bind fun t175 => ((laws_eqAssignmentS.f k t168 t175).bind fun t178 => (if t178 = true then ((laws_markAssignmentS.f k t168 1).bind fun bt179 => (if bt179.1 < 0 then (laws_FnExactFinalOf.j0 k l0 t165 t171 true) else ((laws_eqAssignmentS.f k t171 t165).bind fun t181 => (laws_FnExactFinalOf.j0 k l0 t165 t171 (!t181))))) else (some false)))) else (some false))))))))) = some true := h
 clear h
 obtain ⟨t161, A2, H⟩ := sO H
 by_cases c3 : t161 < 0
 ·rw [if_pos c3] at H
  have c3b0 := decide_eq_true c3
  clear c3
  clear H
  go_enter Try.func7, Try.ntmps7
  go_wp2_with (first | ((with_reducible refine gate_callee (f := 30) rfl ?_); refine sC (some 13) Try.func30 #[.slice A0 l0.length c0, .int .i64 1048576] (laws_szAssignmentS.calls k _ _ l0 1048576 t161 _ ?side1 ?side2 A2.out) ?_; (case side1 => exact sD HR0.out); (case side2 => exact HC0.out); rintro e w4 ⟨rfl, hb⟩; refine ⟨_, rfl, ?_⟩; have n0_ := sB HB hb; clear HB; have HB := n0_; clear n0_; (try clear hb); (try clear hb2); (try clear hk); (try clear hi)))
  go_ret
  exact ⟨sq, sb⟩
 ·rw [if_neg c3] at H
  have c3b0 := decide_eq_false c3
  clear c3
  obtain ⟨t162, A5, H⟩ := sO H
  obtain ⟨t165, A6, H⟩ := sO H
  obtain ⟨t168, A7, H⟩ := sO H
  obtain ⟨t171, A8, H⟩ := sO H
  obtain ⟨t174, A9, H⟩ := sO H
  by_cases c10 : t174 = true
  ·subst c10
   rewrite [if_pos rfl] at H
   obtain ⟨t175, A11, H⟩ := sO H
   obtain ⟨t178, A12, H⟩ := sO H
   by_cases c13 : t178 = true
   ·subst c13
    rewrite [if_pos rfl] at H
    replace H := Option.bind_eq_some_iff.mp H
    obtain ⟨⟨t179, t180⟩, A140, H⟩ := H
    replace H : (if t179 < 0 then (laws_FnExactFinalOf.j0 k l0 t165 t171 true) else ((laws_eqAssignmentS.f k t171 t165).bind fun t181 => (laws_FnExactFinalOf.j0 k l0 t165 t171 (!t181)))) = some true := H
    have A14 := Aside0.mk A140
    clear A140
    have HC15 := Aside0.mk H
    clear H
    go_enter Try.func7, Try.ntmps7
    go_upto_region 14 with (first | ((with_reducible refine gate_callee (f := 30) rfl ?_); refine sC (some 13) Try.func30 #[.slice A0 l0.length c0, .int .i64 1048576] (laws_szAssignmentS.calls k _ _ l0 1048576 t161 _ ?side1 ?side2 A2.out) ?_; (case side1 => exact sD HR0.out); (case side2 => exact HC0.out); rintro e w16 ⟨rfl, hb⟩; refine ⟨_, rfl, ?_⟩; have n0_ := sB HB hb; clear HB; have HB := n0_; clear n0_; (try clear hb); (try clear hb2); (try clear hk); (try clear hi)) | ((with_reducible refine gate_callee (f := 32) rfl ?_); refine sC (some 17) Try.func32 #[.slice A0 l0.length c0] (laws_toAssignmentS.calls k _ _ l0 t162 _ ?side1 ?side2 A5.out) ?_; (case side1 => exact sD (Kd.C_below HR0.out HB.out)); (case side2 => exact HC0.out); rintro e w17 ⟨v163, rfl, ho0, hb⟩; refine ⟨_, rfl, ?_⟩; have n0_ := Aside0.mk (Kd.R_lower ho0 (below_size (sH HB.out))); have n1_ := sB HB hb; clear HB; have HO164 := n0_; have HB := n1_; clear n0_ n1_; (try clear hb); (try clear hb2); (try clear hk); (try clear hi); (try clear ho0); obtain ⟨Ao18, co18, eo18⟩ := Kd.R_slice HO164.out; subst eo18) | ((with_reducible refine gate_callee (f := 31) rfl ?_); refine sC (some 18) Try.func31 #[.slice Ao18 t162.length co18] (spec_FinalOf.calls k _ _ t162 t165 _ ?side1 ?side2 A6.out) ?_; (case side1 => exact sD ((Kd.R_reads' HO164.out).2.2)); (case side2 => exact (Kd.R_reads' HO164.out).2.1); rintro e w19 ⟨v166, rfl, ho0, hb⟩; refine ⟨_, rfl, ?_⟩; have n0_ := Aside0.mk (Kd.R_elder' (sE HO164.out) (Kd.R_base ho0) hb); have n1_ := Aside0.mk (Kd.R_lower (Kd.R_new' ho0 (Kd.R_lt (sE HO164.out))) (below_size (sH HB.out))); have n2_ := sB HB hb; clear HO164; clear HB; have HO164 := n0_; have HO167 := n1_; have HB := n2_; clear n0_ n1_ n2_; (try clear hb); (try clear hb2); (try clear hk); (try clear hi); (try clear ho0)) | ((with_reducible refine gate_callee (f := 32) rfl ?_); refine sC (some 20) Try.func32 #[.slice A0 l0.length c0] (laws_toAssignmentS.calls k _ _ l0 t168 _ ?side1 ?side2 A7.out) ?_; (case side1 => exact sD (Kd.C_below HR0.out HB.out)); (case side2 => exact HC0.out); rintro e w20 ⟨v169, rfl, ho0, hb⟩; refine ⟨_, rfl, ?_⟩; have n0_ := Aside0.mk (Kd.R_elder' (sE HO164.out) (Kd.R_base ho0) hb); have n1_ := Aside0.mk (Kd.R_elder' (sE HO167.out) (Kd.R_base ho0) hb); have n2_ := Aside0.mk (Kd.R_lower (Kd.R_new' (Kd.R_new' ho0 (Kd.R_lt (sE HO164.out))) (Kd.R_lt (sE HO167.out))) (below_size (sH HB.out))); have n3_ := sB HB hb; clear HO164; clear HO167; clear HB; have HO164 := n0_; have HO167 := n1_; have HO170 := n2_; have HB := n3_; clear n0_ n1_ n2_ n3_; (try clear hb); (try clear hb2); (try clear hk); (try clear hi); (try clear ho0); obtain ⟨Ao21, co21, eo21⟩ := Kd.R_slice HO170.out; subst eo21) | ((with_reducible refine gate_callee (f := 19) rfl ?_); refine sC (some 22) Try.func19 #[.slice Ao21 t168.length co21] (impl_FinalOf.calls k _ _ t168 t171 _ ?side1 ?side2 A8.out) ?_; (case side1 => exact sD ((Kd.R_reads' HO170.out).2.2)); (case side2 => exact (Kd.R_reads' HO170.out).2.1); rintro e w22 ⟨v172, rfl, ho0, hb⟩; refine ⟨_, rfl, ?_⟩; have n0_ := Aside0.mk (Kd.R_elder' (sE HO164.out) (Kd.R_base ho0) hb); have n1_ := Aside0.mk (Kd.R_elder' (sE HO167.out) (Kd.R_base ho0) hb); have n2_ := Aside0.mk (Kd.R_elder' (sE HO170.out) (Kd.R_base ho0) hb); have n3_ := Aside0.mk (Kd.R_lower (Kd.R_new' (Kd.R_new' (Kd.R_new' ho0 (Kd.R_lt (sE HO164.out))) (Kd.R_lt (sE HO167.out))) (Kd.R_lt (sE HO170.out))) (below_size (sH HB.out))); have n4_ := sB HB hb; clear HO164; clear HO167; clear HO170; clear HB; have HO164 := n0_; have HO167 := n1_; have HO170 := n2_; have HO173 := n3_; have HB := n4_; clear n0_ n1_ n2_ n3_ n4_; (try clear hb); (try clear hb2); (try clear hk); (try clear hi); (try clear ho0); obtain ⟨Ao23, co23, eo23⟩ := Kd.R_slice HO173.out; subst eo23; obtain ⟨Ao24, co24, eo24⟩ := Kd.R_slice HO167.out; subst eo24) | ((with_reducible refine gate_callee (f := 33) rfl ?_); refine sC (some 25) Try.func33 #[.slice Ao23 t171.length co23, .slice Ao24 t165.length co24] (laws_eqAssignmentS.calls k _ _ t171 _ _ t165 true _ ?side1 ?side2 ?side3 ?side4 A9.out) ?_; (case side1 => exact sD ((Kd.R_reads' HO173.out).2.2)); (case side2 => exact (Kd.R_reads' HO173.out).2.1); (case side3 => exact sD ((Kd.R_reads' HO167.out).2.2)); (case side4 => exact (Kd.R_reads' HO167.out).2.1); rintro e w25 ⟨rfl, hb⟩; refine ⟨_, rfl, ?_⟩; have n0_ := Aside0.mk (Kd.R_below (sE HO164.out) hb); have n1_ := Aside0.mk (Kd.R_below (sE HO167.out) hb); have n2_ := Aside0.mk (Kd.R_below (sE HO170.out) hb); have n3_ := Aside0.mk (Kd.R_below (sE HO173.out) hb); have n4_ := sB HB hb; clear HO164; clear HO167; clear HO170; clear HO173; clear HB; have HO164 := n0_; have HO167 := n1_; have HO170 := n2_; have HO173 := n3_; have HB := n4_; clear n0_ n1_ n2_ n3_ n4_; (try clear hb); (try clear hb2); (try clear hk); (try clear hi)) | ((with_reducible refine gate_callee (f := 32) rfl ?_); refine sC (some 29) Try.func32 #[.slice A0 l0.length c0] (laws_toAssignmentS.calls k _ _ l0 t175 _ ?side1 ?side2 A11.out) ?_; (case side1 => exact sD (Kd.C_below HR0.out HB.out)); (case side2 => exact HC0.out); rintro e w26 ⟨v176, rfl, ho0, hb⟩; refine ⟨_, rfl, ?_⟩; have n0_ := Aside0.mk (Kd.R_elder' (sE HO164.out) (Kd.R_base ho0) hb); have n1_ := Aside0.mk (Kd.R_elder' (sE HO167.out) (Kd.R_base ho0) hb); have n2_ := Aside0.mk (Kd.R_elder' (sE HO170.out) (Kd.R_base ho0) hb); have n3_ := Aside0.mk (Kd.R_elder' (sE HO173.out) (Kd.R_base ho0) hb); have n4_ := Aside0.mk (Kd.R_lower (Kd.R_new' (Kd.R_new' (Kd.R_new' (Kd.R_new' ho0 (Kd.R_lt (sE HO164.out))) (Kd.R_lt (sE HO167.out))) (Kd.R_lt (sE HO170.out))) (Kd.R_lt (sE HO173.out))) (below_size (sH HB.out))); have n5_ := sB HB hb; clear HO164; clear HO167; clear HO170; clear HO173; clear HB; have HO164 := n0_; have HO167 := n1_; have HO170 := n2_; have HO173 := n3_; have HO177 := n4_; have HB := n5_; clear n0_ n1_ n2_ n3_ n4_ n5_; (try clear hb); (try clear hb2); (try clear hk); (try clear hi); (try clear ho0); obtain ⟨Ao27, co27, eo27⟩ := Kd.R_slice HO177.out; subst eo27) | ((with_reducible refine gate_callee (f := 33) rfl ?_); refine sC (some 30) Try.func33 #[.slice Ao21 t168.length co21, .slice Ao27 t175.length co27] (laws_eqAssignmentS.calls k _ _ t168 _ _ t175 true _ ?side1 ?side2 ?side3 ?side4 A12.out) ?_; (case side1 => exact sD ((Kd.R_reads' HO170.out).2.2)); (case side2 => exact (Kd.R_reads' HO170.out).2.1); (case side3 => exact sD ((Kd.R_reads' HO177.out).2.2)); (case side4 => exact (Kd.R_reads' HO177.out).2.1); rintro e w28 ⟨rfl, hb⟩; refine ⟨_, rfl, ?_⟩; have n0_ := Aside0.mk (Kd.R_below (sE HO164.out) hb); have n1_ := Aside0.mk (Kd.R_below (sE HO167.out) hb); have n2_ := Aside0.mk (Kd.R_below (sE HO170.out) hb); have n3_ := Aside0.mk (Kd.R_below (sE HO173.out) hb); have n4_ := Aside0.mk (Kd.R_below (sE HO177.out) hb); have n5_ := sB HB hb; clear HO164; clear HO167; clear HO170; clear HO173; clear HO177; clear HB; have HO164 := n0_; have HO167 := n1_; have HO170 := n2_; have HO173 := n3_; have HO177 := n4_; have HB := n5_; clear n0_ n1_ n2_ n3_ n4_ n5_; (try clear hb); (try clear hb2); (try clear hk); (try clear hi)) | ((with_reducible refine gate_callee (f := 34) rfl ?_); refine sC (some 34) Try.func34 #[.slice Ao21 t168.length co21, .int .i64 1] (laws_markAssignmentS.calls k (fun k_ => some k_ = (.slice Ao21 t168.length co21 : Value).ownBlock) (.slice Ao21 t168.length co21) t168 1 t179 t180 w _ ?side1 ?side2 A14.out) ?_; (case side1 => repeat (first | (with_reducible first | exact HB.out | apply below_alloc | apply pw_below_drewN | apply below_drew1) | exact HB.out)); (case side2 => exact Kd.R_tight rfl HO170.out); rintro e w29 ⟨rfl, hy0, hb, hkp⟩; refine ⟨_, rfl, ?_⟩; have n0_ := Aside0.mk (Kd.R_mono (ok' := fun k_ => some k_ ≠ (.slice Ao24 t165.length co24 : Value).ownBlock ∧ some k_ ≠ (.slice Ao21 t168.length co21 : Value).ownBlock ∧ some k_ ≠ (.slice Ao23 t171.length co23 : Value).ownBlock ∧ some k_ ≠ (.slice Ao27 t175.length co27 : Value).ownBlock) (Kd.R_keptB (HO164.out) hkp (fun k_ hk_ hs_ => (hk_.1.1.2) hs_)) (fun k_ hk_ => ⟨hk_.1.1.1.1.2, hk_.1.1.1.2, hk_.1.1.2, hk_.1.2⟩)); have n1_ := Aside0.mk (Kd.R_mono (ok' := fun k_ => some k_ ≠ (.slice Ao18 t162.length co18 : Value).ownBlock ∧ some k_ ≠ (.slice Ao21 t168.length co21 : Value).ownBlock ∧ some k_ ≠ (.slice Ao23 t171.length co23 : Value).ownBlock ∧ some k_ ≠ (.slice Ao27 t175.length co27 : Value).ownBlock) (Kd.R_keptB (HO167.out) hkp (fun k_ hk_ hs_ => (hk_.1.1.2) hs_)) (fun k_ hk_ => ⟨hk_.1.1.1.1.2, hk_.1.1.1.2, hk_.1.1.2, hk_.1.2⟩)); have n2_ := Aside0.mk (Kd.R_reok rfl hy0 (fun k_ e_ => HO170.out.1 k_ e_)); have n3_ := Aside0.mk (Kd.R_mono (ok' := fun k_ => some k_ ≠ (.slice Ao18 t162.length co18 : Value).ownBlock ∧ some k_ ≠ (.slice Ao24 t165.length co24 : Value).ownBlock ∧ some k_ ≠ (.slice Ao21 t168.length co21 : Value).ownBlock ∧ some k_ ≠ (.slice Ao27 t175.length co27 : Value).ownBlock) (Kd.R_keptB (HO173.out) hkp (fun k_ hk_ hs_ => (hk_.1.2) hs_)) (fun k_ hk_ => ⟨hk_.1.1.1.1.2, hk_.1.1.1.2, hk_.1.1.2, hk_.1.2⟩)); have n4_ := Aside0.mk (Kd.R_mono (ok' := fun k_ => some k_ ≠ (.slice Ao18 t162.length co18 : Value).ownBlock ∧ some k_ ≠ (.slice Ao24 t165.length co24 : Value).ownBlock ∧ some k_ ≠ (.slice Ao21 t168.length co21 : Value).ownBlock ∧ some k_ ≠ (.slice Ao23 t171.length co23 : Value).ownBlock) (Kd.R_keptB (HO177.out) hkp (fun k_ hk_ hs_ => (hk_.1.2) hs_)) (fun k_ hk_ => ⟨hk_.1.1.1.1.2, hk_.1.1.1.2, hk_.1.1.2, hk_.1.2⟩)); have n5_ := Aside0.mk (hb); clear HO164; clear HO167; clear HO170; clear HO173; clear HO177; clear HB; have HO164 := n0_; have HO167 := n1_; have HO170 := n2_; have HO173 := n3_; have HO177 := n4_; have HB := n5_; clear n0_ n1_ n2_ n3_ n4_ n5_; (try clear hb); (try clear hkp); (try clear hy0)))
    (try simp only [Act.put, List.setIfInBounds_toArray, List.set_cons_zero, List.set_cons_succ])
    go_cut [42] (fun v42 wc => ∃ (kq : Nat) (x42_14 : Bool), v42 = .bool x42_14 ∧ Aside0 (laws_FnExactFinalOf.j0 kq l0 t165 t171 x42_14 = some true) ∧ Aside0 (kq ≤ k) ∧ Aside0 (Kd.R k37 37 wc w.heap.size (fun k_ => some k_ ≠ ((.slice Ao23 t171.length co23) : Value).ownBlock) (.slice Ao24 t165.length co24) t165) ∧ Aside0 (Kd.R k37 37 wc w.heap.size (fun k_ => some k_ ≠ ((.slice Ao24 t165.length co24) : Value).ownBlock) (.slice Ao23 t171.length co23) t171) ∧ Aside0 (Below w.heap.size w wc))
    case first =>
     have H := HC15.out
     clear HC15
     by_cases c30 : t179 < 0
     ·rw [if_pos c30] at H
      have c30b0 := decide_eq_true c30
      clear c30
      (first | rw [c30b0] | (simp only [i64_w, i32_w]; rw [c30b0]) | rw [c30b2] | skip)
      have H' := Aside0.mk H
      clear H
      go_wp2
      go_meet
      case rel => exact ⟨_, (true), sr, H', ⟨by first | omega | exact Nat.le_refl _⟩, ⟨by (with_reducible repeat (first | apply Kd.R_alloc | apply Kd.R_drewN | apply Kd.R_drew)); exact Kd.R_mono HO167.out (fun _ hk => hk.2.2.1)⟩, ⟨by (with_reducible repeat (first | apply Kd.R_alloc | apply Kd.R_drewN | apply Kd.R_drew)); exact Kd.R_mono HO173.out (fun _ hk => hk.2.1)⟩, ⟨sb⟩⟩
     ·rw [if_neg c30] at H
      have c30b0 := decide_eq_false c30
      clear c30
      (first | rw [c30b0] | (simp only [i64_w, i32_w]; rw [c30b0]) | rw [c30b2] | skip)
      obtain ⟨t181, A31, H⟩ := sO H
      have H' := Aside0.mk H
      clear H
      go_wp2_with (first | (go_at_call 33; (with_reducible refine (laws_eqAssignmentS.calls k _ _ t171 _ _ t165 t181 _ ?side1 ?side2 ?side3 ?side4 A31.out).mono ?_); (case side1 => exact sD ((Kd.R_reads' HO173.out).2.2)); (case side2 => exact (Kd.R_reads' HO173.out).2.1); (case side3 => exact sD ((Kd.R_reads' HO167.out).2.2)); (case side4 => exact (Kd.R_reads' HO167.out).2.1); rintro e w32 ⟨rfl, hb⟩; have n0_ := Aside0.mk (Kd.R_below (sE HO164.out) hb); have n1_ := Aside0.mk (Kd.R_below (sE HO167.out) hb); have n2_ := Aside0.mk (Kd.R_below (sE HO170.out) hb); have n3_ := Aside0.mk (Kd.R_below (sE HO173.out) hb); have n4_ := Aside0.mk (Kd.R_below (sE HO177.out) hb); have n5_ := sB HB hb; clear HO164; clear HO167; clear HO170; clear HO173; clear HO177; clear HB; have HO164 := n0_; have HO167 := n1_; have HO170 := n2_; have HO173 := n3_; have HO177 := n4_; have HB := n5_; clear n0_ n1_ n2_ n3_ n4_ n5_; (try clear hb); (try clear hb2); (try clear hk); (try clear hi)))
      go_meet
      case rel => exact ⟨_, (!t181), sr, H', ⟨by first | omega | exact Nat.le_refl _⟩, ⟨by (with_reducible repeat (first | apply Kd.R_alloc | apply Kd.R_drewN | apply Kd.R_drew)); exact Kd.R_mono HO167.out (fun _ hk => hk.2.2.1)⟩, ⟨by (with_reducible repeat (first | apply Kd.R_alloc | apply Kd.R_drewN | apply Kd.R_drew)); exact Kd.R_mono HO173.out (fun _ hk => hk.2.1)⟩, ⟨sb⟩⟩
    case rest =>
     clear HC15
     try clear c1
     try clear p2
     try clear c3
     try clear c3b0
     try clear c7
     try clear c10
     try clear c13
     try clear c19
     try clear c30
     try clear c30b0
     try clear c30b2
     try clear c31
     try clear c32
     obtain ⟨kq, x42_14, rfl, HA, HJ14, HO_4, HO_6, HB⟩ := hcut
     cases kq with
     | zero => exact absurd HA.out (by simp [laws_FnExactFinalOf.j0])
     | succ kj14 =>
      have H := HA.out
      clear HA
      simp only [laws_FnExactFinalOf.j0] at H
      by_cases c33 : x42_14 = true
      ·subst c33
       rewrite [if_pos rfl] at H
       exact absurd H (by simp)
      ·replace c33 := Bool.eq_false_iff.mpr c33
       subst c33
       rewrite [if_neg (show ¬ (false = true) by decide)] at H
       replace H := Option.bind_eq_some_iff.mp H
       obtain ⟨⟨t182, t183⟩, A340, H⟩ := H
       replace H : ((laws_heldAssignmentS.f kj14 t183 1).bind fun t184 => (if t184 < 0 then (some false) else (if t184 = t182 then ((laws_toAssignmentS.f kj14 l0).bind fun t185 => ((impl_FinalOf.f kj14 t185).bind fun t188 => ((laws_eqAssignmentS.f kj14 t188 t165).bind fun t191 => (if t191 = true then ((laws_heldAssignmentS.f kj14 t183 1).bind fun t192 => (if t192 < 0 then (some false) else (if t192 = t182 then (some true) else (some false)))) else (some false))))) else (some false)))) = some true := H
       have A34 := Aside0.mk A340
       clear A340
       obtain ⟨t184, A35, H⟩ := sO H
       by_cases c36 : t184 < 0
       ·rw [if_pos c36] at H
        have c36b0 := decide_eq_true c36
        clear c36
        exact absurd H (by simp)
       ·rw [if_neg c36] at H
        have c36b0 := decide_eq_false c36
        clear c36
        by_cases c37 : t184 = t182
        ·rw [if_pos c37] at H
         have c37b0 : (t184 == t182) = true := beq_iff_eq.mpr c37
         have c37b1 : (t184 != t182) = false := bne_eq_false_iff_eq.mpr c37
         clear c37
         obtain ⟨t185, A38, H⟩ := sO H
         obtain ⟨t188, A39, H⟩ := sO H
         obtain ⟨t191, A40, H⟩ := sO H
         by_cases c41 : t191 = true
         ·subst c41
          rewrite [if_pos rfl] at H
          obtain ⟨t192, A42, H⟩ := sO H
          by_cases c43 : t192 < 0
          ·rw [if_pos c43] at H
           have c43b0 := decide_eq_true c43
           clear c43
           exact absurd H (by simp)
          ·rw [if_neg c43] at H
           have c43b0 := decide_eq_false c43
           clear c43
           by_cases c44 : t192 = t182
           ·rw [if_pos c44] at H
            have c44b0 : (t192 == t182) = true := beq_iff_eq.mpr c44
            have c44b1 : (t192 != t182) = false := bne_eq_false_iff_eq.mpr c44
            clear c44
            clear H
            go_wp2_with (first | ((with_reducible refine gate_callee (f := 34) rfl ?_); refine sC (some 45) Try.func34 #[.slice Ao23 t171.length co23, .int .i64 1] (laws_markAssignmentS.calls kj14 (fun k_ => some k_ = (.slice Ao23 t171.length co23 : Value).ownBlock) (.slice Ao23 t171.length co23) t171 1 t182 t183 w _ ?side1 ?side2 A34.out) ?_; (case side1 => repeat (first | (with_reducible first | exact HB.out | apply below_alloc | apply pw_below_drewN | apply below_drew1) | exact HB.out)); (case side2 => exact Kd.R_tight rfl HO_6.out); rintro e w45 ⟨rfl, hy0, hb, hkp⟩; refine ⟨_, rfl, ?_⟩; have n0_ := Aside0.mk (Kd.R_mono (ok' := fun k_ => some k_ ≠ (.slice Ao23 t171.length co23 : Value).ownBlock) (Kd.R_keptB (HO_4.out) hkp (fun k_ hk_ hs_ => (hk_) hs_)) (fun k_ hk_ => hk_.1)); have n1_ := Aside0.mk (Kd.R_reok rfl hy0 (fun k_ e_ => HO_6.out.1 k_ e_)); have n2_ := Aside0.mk (hb); clear HO_4; clear HO_6; clear HB; have HO_4 := n0_; have HO_6 := n1_; have HB := n2_; clear n0_ n1_ n2_; (try clear hb); (try clear hkp); (try clear hy0)) | ((with_reducible refine gate_callee (f := 35) rfl ?_); refine goesL_ (some 48) rfl rfl Try.func35 (by kernel_rfl) rfl #[.slice Ao23 t183.length co23, .int .i64 1] rfl (by (try simp only [List.map_toArray, List.map_cons, List.map_nil]); first | done | (rw [show t183.length = t171.length from (Kd.R_reads' HO_6.out).1.symm] <;> rfl) | rfl | (simp only [List.length_drop, List.length_take]; rfl)) ?_; (with_reducible refine (laws_heldAssignmentS.calls kj14 _ _ t183 1 t184 _ ?side1 ?side2 A35.out).mono ?_); (case side1 => exact sD ((Kd.R_reads' HO_6.out).2.2)); (case side2 => rw [show t183.length = t171.length from (Kd.R_reads' HO_6.out).1.symm]; exact (Kd.R_reads' HO_6.out).2.1); rintro e w46 ⟨rfl, hb⟩; refine ⟨_, rfl, ?_⟩; have n0_ := Aside0.mk (Kd.R_below (sE HO_4.out) hb); have n1_ := Aside0.mk (Kd.R_below (sE HO_6.out) hb); have n2_ := sB HB hb; clear HO_4; clear HO_6; clear HB; have HO_4 := n0_; have HO_6 := n1_; have HB := n2_; clear n0_ n1_ n2_; (try clear hb); (try clear hb2); (try clear hk); (try clear hi)) | ((with_reducible refine gate_callee (f := 32) rfl ?_); refine sC (some 55) Try.func32 #[.slice A0 l0.length c0] (laws_toAssignmentS.calls kj14 _ _ l0 t185 _ ?side1 ?side2 A38.out) ?_; (case side1 => exact sD (Kd.C_below HR0.out HB.out)); (case side2 => exact HC0.out); rintro e w47 ⟨v186, rfl, ho0, hb⟩; refine ⟨_, rfl, ?_⟩; have n0_ := Aside0.mk (Kd.R_elder' (sE HO_4.out) (Kd.R_base ho0) hb); have n1_ := Aside0.mk (Kd.R_elder' (sE HO_6.out) (Kd.R_base ho0) hb); have n2_ := Aside0.mk (Kd.R_lower (Kd.R_new' (Kd.R_new' ho0 (Kd.R_lt (sE HO_4.out))) (Kd.R_lt (sE HO_6.out))) (below_size (sH HB.out))); have n3_ := sB HB hb; clear HO_4; clear HO_6; clear HB; have HO_4 := n0_; have HO_6 := n1_; have HO187 := n2_; have HB := n3_; clear n0_ n1_ n2_ n3_; (try clear hb); (try clear hb2); (try clear hk); (try clear hi); (try clear ho0); obtain ⟨Ao48, co48, eo48⟩ := Kd.R_slice HO187.out; subst eo48) | ((with_reducible refine gate_callee (f := 19) rfl ?_); refine sC (some 56) Try.func19 #[.slice Ao48 t185.length co48] (impl_FinalOf.calls kj14 _ _ t185 t188 _ ?side1 ?side2 A39.out) ?_; (case side1 => exact sD ((Kd.R_reads' HO187.out).2.2)); (case side2 => exact (Kd.R_reads' HO187.out).2.1); rintro e w49 ⟨v189, rfl, ho0, hb⟩; refine ⟨_, rfl, ?_⟩; have n0_ := Aside0.mk (Kd.R_elder' (sE HO_4.out) (Kd.R_base ho0) hb); have n1_ := Aside0.mk (Kd.R_elder' (sE HO_6.out) (Kd.R_base ho0) hb); have n2_ := Aside0.mk (Kd.R_elder' (sE HO187.out) (Kd.R_base ho0) hb); have n3_ := Aside0.mk (Kd.R_lower (Kd.R_new' (Kd.R_new' (Kd.R_new' ho0 (Kd.R_lt (sE HO_4.out))) (Kd.R_lt (sE HO_6.out))) (Kd.R_lt (sE HO187.out))) (below_size (sH HB.out))); have n4_ := sB HB hb; clear HO_4; clear HO_6; clear HO187; clear HB; have HO_4 := n0_; have HO_6 := n1_; have HO187 := n2_; have HO190 := n3_; have HB := n4_; clear n0_ n1_ n2_ n3_ n4_; (try clear hb); (try clear hb2); (try clear hk); (try clear hi); (try clear ho0); obtain ⟨Ao50, co50, eo50⟩ := Kd.R_slice HO190.out; subst eo50) | ((with_reducible refine gate_callee (f := 33) rfl ?_); refine sC (some 59) Try.func33 #[.slice Ao50 t188.length co50, .slice Ao24 t165.length co24] (laws_eqAssignmentS.calls kj14 _ _ t188 _ _ t165 true _ ?side1 ?side2 ?side3 ?side4 A40.out) ?_; (case side1 => exact sD ((Kd.R_reads' HO190.out).2.2)); (case side2 => exact (Kd.R_reads' HO190.out).2.1); (case side3 => exact sD ((Kd.R_reads' HO_4.out).2.2)); (case side4 => exact (Kd.R_reads' HO_4.out).2.1); rintro e w51 ⟨rfl, hb⟩; refine ⟨_, rfl, ?_⟩; have n0_ := Aside0.mk (Kd.R_below (sE HO_4.out) hb); have n1_ := Aside0.mk (Kd.R_below (sE HO_6.out) hb); have n2_ := Aside0.mk (Kd.R_below (sE HO187.out) hb); have n3_ := Aside0.mk (Kd.R_below (sE HO190.out) hb); have n4_ := sB HB hb; clear HO_4; clear HO_6; clear HO187; clear HO190; clear HB; have HO_4 := n0_; have HO_6 := n1_; have HO187 := n2_; have HO190 := n3_; have HB := n4_; clear n0_ n1_ n2_ n3_ n4_; (try clear hb); (try clear hb2); (try clear hk); (try clear hi)) | ((with_reducible refine gate_callee (f := 35) rfl ?_); refine goesL_ (some 63) rfl rfl Try.func35 (by kernel_rfl) rfl #[.slice Ao23 t183.length co23, .int .i64 1] rfl (by (try simp only [List.map_toArray, List.map_cons, List.map_nil]); first | done | (rw [show t183.length = t171.length from (Kd.R_reads' HO_6.out).1.symm] <;> rfl) | rfl | (simp only [List.length_drop, List.length_take]; rfl)) ?_; (with_reducible refine (laws_heldAssignmentS.calls kj14 _ _ t183 1 t192 _ ?side1 ?side2 A42.out).mono ?_); (case side1 => exact sD ((Kd.R_reads' HO_6.out).2.2)); (case side2 => rw [show t183.length = t171.length from (Kd.R_reads' HO_6.out).1.symm]; exact (Kd.R_reads' HO_6.out).2.1); rintro e w52 ⟨rfl, hb⟩; refine ⟨_, rfl, ?_⟩; have n0_ := Aside0.mk (Kd.R_below (sE HO_4.out) hb); have n1_ := Aside0.mk (Kd.R_below (sE HO_6.out) hb); have n2_ := Aside0.mk (Kd.R_below (sE HO187.out) hb); have n3_ := Aside0.mk (Kd.R_below (sE HO190.out) hb); have n4_ := sB HB hb; clear HO_4; clear HO_6; clear HO187; clear HO190; clear HB; have HO_4 := n0_; have HO_6 := n1_; have HO187 := n2_; have HO190 := n3_; have HB := n4_; clear n0_ n1_ n2_ n3_ n4_; (try clear hb); (try clear hb2); (try clear hk); (try clear hi)))
            go_ret
            exact ⟨sq, sb⟩
           ·rw [if_neg c44] at H
            have c44b0 : (t192 == t182) = false := beq_eq_false_iff_ne.mpr c44
            have c44b1 : (t192 != t182) = true := bne_iff_ne.mpr c44
            exact absurd H (by simp)
         ·replace c41 := Bool.eq_false_iff.mpr c41
          subst c41
          rewrite [if_neg (show ¬ (false = true) by decide)] at H
          exact absurd H (by simp)
        ·rw [if_neg c37] at H
         have c37b0 : (t184 == t182) = false := beq_eq_false_iff_ne.mpr c37
         have c37b1 : (t184 != t182) = true := bne_iff_ne.mpr c37
         exact absurd H (by simp)
   ·replace c13 := Bool.eq_false_iff.mpr c13
    subst c13
    rewrite [if_neg (show ¬ (false = true) by decide)] at H
    exact absurd H (by simp)
  ·replace c10 := Bool.eq_false_iff.mpr c10
   subst c10
   rewrite [if_neg (show ¬ (false = true) by decide)] at H
   exact absurd H (by simp)
end Go.Proofs.Ytabbpnkbhapibaa.PFnExactFinalOf
