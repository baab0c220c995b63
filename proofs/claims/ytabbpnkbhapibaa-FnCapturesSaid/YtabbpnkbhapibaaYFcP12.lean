/- Printed functions: spec_A8Match. -/
import Derived.Test.YtabbpnkbhapibaaYFcP0
import Derived.Test.YtabbpnkbhapibaaYFcP8
import Derived.Test.YtabbpnkbhapibaaYFcP11
namespace Go.Proofs.Ytabbpnkbhapibaa.PFnExactFinalOf
open Go.RowKit Go.Proofs.YtabbpnkbhapibaaG Go.Proofs.YtabbpnkbhapibaaW.PrintWords Go.Proofs.YtabbpnkbhapibaaW.PrintLast Go.Proofs.YtabbpnkbhapibaaW.PrintMore
attribute [local go_sem] max2_int min2_int max_two min_two max_three min_three max_four min_four   -- for this text's walks alone
set_option linter.unusedVariables false
set_option linter.unusedSimpArgs false
/-! ### spec_A8Match: function 16 -/
def spec_A8Match.f (k : Nat) (l0 : List Int) : Option (Int × Int × (List (S35))) := (spec_l00From.f l0).bind fun bt292 => ((spec_l12Match.f k bt292.1 bt292.2.1 bt292.2.2).bind fun bt296 => (some (bt296.1, bt296.2.1, bt296.2.2.1)))
set_option maxHeartbeats 8000000 in
set_option maxRecDepth 100000 in
theorem spec_A8Match.calls (k : Nat) (A0 : Option Addr) (c0 : Nat) (l0 : List Int) (r1 : Int) (r2 : Int) (r3 : List (S35)) (w : World) (hr0 : Kd.C (Kd.int .u8) w A0 l0.length l0) (hc0 : l0.length ≤ c0) (h : spec_A8Match.f k l0 = some (r1, r2, r3)) :
  Calls Try.prog 16 #[.slice A0 l0.length c0] w fun e w' => ∃ v2_ : Value, e = .returned (.agg #[.int .i64 r1, .int .i64 r2, v2_]) ∧ Kd.R k35 35 w' w.heap.size (fun _ => True) v2_ r3 ∧ Below w.heap.size w w' := by
 have hu30 := Try.underlying30
 have HR0 := Aside0.mk hr0
 have HC0 := Aside0.mk hc0
 clear hr0 hc0
 have HB := Aside0.mk (Below.refl w.heap.size w)
 have H : ((spec_l00From.f l0).bind fun bt292 => ((spec_l12Match.f k bt292.1 bt292.2.1 bt292.2.2).bind fun bt296 => (some (bt296.1, bt296.2.1, bt296.2.2.1)))) = some (r1, r2, r3) := h
 clear h
 replace H := Option.bind_eq_some_iff.mp H
 obtain ⟨⟨t292, t293, t294⟩, A20, H⟩ := H
 replace H : ((spec_l12Match.f k t292 t293 t294).bind fun bt296 => (some (bt296.1, bt296.2.1, bt296.2.2.1))) = some (r1, r2, r3) := H
 have A2 := Aside0.mk A20
 clear A20
 replace H := Option.bind_eq_some_iff.mp H
 obtain ⟨⟨t296, t297, t298, t301, t302⟩, A30, H⟩ := H
 replace H : (some (t296, t297, t298)) = some (r1, r2, r3) := H
 have A3 := Aside0.mk A30
 clear A30
 simp only [Option.some.injEq, Prod.mk.injEq] at H
 obtain ⟨rfl, rfl, rfl⟩ := H
 go_enter Try.func16, Try.ntmps16
 go_wp2_with (first | ((with_reducible refine gate_dst (N := 2) rfl ?_); refine sV (N := 2) (cs := #[.int .i64 0, .int .i64 0, .slice none 0 0]) (t := 30) ?_; intro gb291 hg w4 hbox hb; have n0_ := sB HB hb; have n1_ := Aside0.mk (hbox); have n2_ := sG HB hg; have n3_ := sG HB hg; clear HB; have HB := n0_; have BK291 := n1_; have GW291 := n2_; have GE291 := n3_; clear n0_ n1_ n2_ n3_; clear hb hbox hg) | ((with_reducible refine gate_callee (f := 57) rfl ?_); refine sC (some 5) Try.func57 #[.slice A0 l0.length c0] (spec_l00From.calls _ _ l0 t292 t293 t294 w _ ?side1 ?side2 ?side3 A2.out) ?_; (case side1 => repeat (first | (with_reducible first | exact HB.out | apply below_alloc | apply pw_below_drewN | apply below_drew1 | refine below_set ?_ GE291.out) | exact HB.out)); (case side2 => exact HR0.out); (case side3 => exact HC0.out); rintro e w5 ⟨g295, rfl, hi, hb, hb2⟩; refine ⟨_, rfl, ?_⟩; have n0_ := Aside0.mk (blk_below (g := gb291) (o := .cells #[.int .i64 0, .int .i64 0, .slice none 0 0] 30 (0, 0)) (sT BK291.out) hb2); have n1_ := Aside0.mk (hb); have n2_ := Aside0.mk (hi); have n3_ := Aside0.mk (IsS193.ne_blk hi (blk_below (g := gb291) (o := .cells #[.int .i64 0, .int .i64 0, .slice none 0 0] 30 (0, 0)) (sT BK291.out) hb2) (by decide)); have n4_ := Aside0.mk (Ne.symm (IsS193.ne_blk hi (blk_below (g := gb291) (o := .cells #[.int .i64 0, .int .i64 0, .slice none 0 0] 30 (0, 0)) (sT BK291.out) hb2) (by decide))); clear BK291; clear HB; have BK291 := n0_; have HB := n1_; have HI295 := n2_; have NB295_291 := n3_; have NB291_295 := n4_; clear n0_ n1_ n2_ n3_ n4_; (try clear hb); (try clear hb2); (try clear hk); (try clear hi)) | ((with_reducible refine gate_callee (f := 61) rfl ?_); refine sC (some 7) Try.func61 #[.pointer (some ⟨g295, 0, none⟩)] (spec_l12Match.calls k g295 t292 t293 t294 t296 t297 t298 t301 t302 w _ ?side1 ?side2 A3.out) ?_; (case side1 => repeat (first | (with_reducible first | exact HI295.out | apply IsS193.alloc | apply IsS193.drewN | apply IsS193.drew | apply IsS193.set_1 | apply IsS193.set_2 | refine IsS193.far ?_ NB295_291.out _) | exact HI295.out)); (case side2 => repeat (first | (with_reducible first | exact HB.out | apply below_alloc | apply pw_below_drewN | apply below_drew1 | refine below_set ?_ (IsS193.ge HI295.out) | refine below_set ?_ GE291.out) | exact HB.out)); rintro e w6 ⟨v299, rfl, ho0, hi, hb, hk⟩; refine ⟨_, rfl, ?_⟩; have n0_ := Aside0.mk (KeepBut.blk hk (g' := gb291) (o := .cells #[.int .i64 0, .int .i64 0, .slice none 0 0] 30 (0, 0)) (sT BK291.out) NB291_295.out (by simp)); have n1_ := Aside0.mk (Kd.R_lower ho0 (below_size (by repeat (first | (with_reducible first | exact HB.out | apply below_alloc | apply pw_below_drewN | apply below_drew1 | refine below_set ?_ (IsS193.ge HI295.out) | refine below_set ?_ GE291.out) | exact HB.out)))); have n2_ := Aside0.mk (hb); have n3_ := Aside0.mk (hi); clear BK291; clear HB; clear HI295; have BK291 := n0_; have HO300 := n1_; have HB := n2_; have HI295 := n3_; clear n0_ n1_ n2_ n3_; (try clear hb); (try clear hb2); (try clear hk); (try clear hi); (try clear ho0); have hnb7 := NB291_295.out; have hnc7 := NB295_291.out; obtain ⟨hcz8_0, hcz8_1, hcz8_2, hfz8_0, hfz8_1, hfz8_2⟩ := cells3 BK291.out; obtain ⟨Ao9, co9, eo9⟩ := Kd.R_slice HO300.out; subst eo9))
 refine bodyPost_ret (results_cell_row rfl _ _ gb291 30 #[.int .i64 t296, .int .i64 t297, .slice Ao9 t298.length co9] (0, 0) _ rfl (by exact sP3 (sT BK291.out)) Try.underlying30 rfl (by kernel_rfl)) rfl ?_
 exact ⟨_, sq, by (with_reducible repeat (first | apply Kd.R_alloc | apply Kd.R_drewN | apply Kd.R_drew)); exact Kd.R_mono (Kd.R_far (p := ⟨gb291, 2, none⟩) (Kd.R_far (p := ⟨gb291, 1, none⟩) (Kd.R_far (p := ⟨gb291, 0, none⟩) (Kd.R_types HO300.out BK291.out (by decide)) (fun _ hk => hk.2) (.int .i64 t296)) (fun _ hk => hk.2) (.int .i64 t297)) (fun _ hk => hk.2) (.slice Ao9 t298.length co9)) (fun _ hk => trivial), by repeat (first | (with_reducible first | exact HB.out | apply below_alloc | apply pw_below_drewN | apply below_drew1 | refine below_set ?_ (IsS193.ge HI295.out) | refine below_set ?_ GE291.out) | exact HB.out)⟩
end Go.Proofs.Ytabbpnkbhapibaa.PFnExactFinalOf
