/- Printed functions: spec_ReadInstr. -/
import Derived.Test.YtdihlgkcpooadaaDoorYRiP0
import Derived.Test.YtdihlgkcpooadaaDoorYRiP1
import Derived.Test.YtdihlgkcpooadaaDoorYRiP2
import Derived.Test.YtdihlgkcpooadaaDoorYRiP3
import Derived.Test.YtdihlgkcpooadaaDoorYRiP6
namespace Go.Proofs.YtdihlgkcpooadaaDoor.PFnExactReadInstr
open Go.RowKit Go.Proofs.YtdihlgkcpooadaaDoorG Go.Proofs.YtdihlgkcpooadaaDoorW.PrintWords Go.Proofs.YtdihlgkcpooadaaDoorW.PrintLast Go.Proofs.YtdihlgkcpooadaaDoorW.PrintMore
attribute [local go_sem] max2_int min2_int max_two min_two max_three min_three max_four min_four   -- for this text's walks alone
set_option linter.unusedVariables false
set_option linter.unusedSimpArgs false
/-! ### spec_ReadInstr: function 4 -/
mutual
def spec_ReadInstr.j0 : Nat → ByteArray → ByteArray → Int → Bool → Int → Int → ByteArray → Option (Int × Int × ByteArray × Bool)
 | 0, _, _, _, _, _, _, _ => none
 | k + 1, x0, x5, x6, x9, x154000, x154001, x154002 => if x6 = 2 then (spec_ReadInstr.j1 k x0 x5 x9 (decide ((x5.size : Int) ≥ 2)) x154000 x154001 x154002) else (spec_ReadInstr.j1 k x0 x5 x9 false x154000 x154001 x154002)
def spec_ReadInstr.j1 : Nat → ByteArray → ByteArray → Bool → Bool → Int → Int → ByteArray → Option (Int × Int × ByteArray × Bool)
 | 0, _, _, _, _, _, _, _ => none
 | k + 1, x0, x5, x9, x49, x154000, x154001, x154002 => if x49 = true then (if 1 ≤ (wrap64 ((x5.size : Int) - 1)) then (if (wrap64 ((x5.size : Int) - 1)) ≤ (x5.size : Int) then ((spec_InstrText.f k x154000 x154001 (x5.extract 1 ((wrap64 ((x5.size : Int) - 1)) : Int).toNat)).bind fun t160 => (if t160.toList = x0.toList then (some (x154000, x154001, x5.extract 1 ((wrap64 ((x5.size : Int) - 1)) : Int).toNat, true)) else (some (0, 0, (⟨#[]⟩ : ByteArray), false)))) else (none)) else (none)) else (if x9 = true then ((spec_InstrText.f k x154000 x154001 x5).bind fun t161 => (if t161.toList = x0.toList then (some (x154000, x154001, x5, true)) else (some (0, 0, (⟨#[]⟩ : ByteArray), false)))) else ((spec_InstrText.f k x154000 x154001 x154002).bind fun t162 => (if t162.toList = x0.toList then (some (x154000, x154001, x154002, true)) else (some (0, 0, (⟨#[]⟩ : ByteArray), false)))))
end
def spec_ReadInstr.f (k : Nat) (a0 : ByteArray) : Option (Int × Int × ByteArray × Bool) := (spec_l24Split.f k a0).bind fun bt147 => ((spec_l24Words.f).bind fun t149 => ((spec_l17At.f k t149 bt147.1).bind fun t152 => (if t152 < 1 then (some (0, 0, (⟨#[]⟩ : ByteArray), false)) else ((spec_l24Fields.f k t152).bind fun bt154 => (if bt154.1 = true then ((spec_l24Split.f k bt147.2).bind fun bt156 => ((spec_l06Number.f k bt156.1).bind fun bt158 => (if bt158.2 = true then (spec_ReadInstr.j0 k a0 bt156.2 t152 bt154.2 t152 bt158.1 (⟨#[]⟩ : ByteArray)) else (some (0, 0, (⟨#[]⟩ : ByteArray), false))))) else (spec_ReadInstr.j0 k a0 bt147.2 t152 bt154.2 t152 0 (⟨#[]⟩ : ByteArray)))))))
set_option maxHeartbeats 8000000 in
set_option maxRecDepth 100000 in
theorem spec_ReadInstr.calls (k : Nat) (a0 : ByteArray) (r1 : Int) (r2 : Int) (r3 : ByteArray) (r4 : Bool) (w : World) (h : spec_ReadInstr.f k a0 = some (r1, r2, r3, r4)) :
  Calls Tryd.prog 4 #[.string a0] w fun e w' => e = .returned (.tuple #[.agg #[.int .i64 r1, .int .i64 r2, .string r3], .bool r4]) ∧ Below w.heap.size w w' := by
 have hu23 := Tryd.underlying23
 have HB := Aside0.mk (Below.refl w.heap.size w)
 have H : ((spec_l24Split.f k a0).bind fun bt147 => ((spec_l24Words.f).bind fun t149 => ((spec_l17At.f k t149 bt147.1).bind fun t152 => (if t152 < 1 then (some (0, 0, (⟨#[]⟩ : ByteArray), false)) else ((spec_l24Fields.f k t152).bind fun bt154 => (if bt154.1 = true then ((spec_l24Split.f k bt147.2).bind fun bt156 => ((spec_l06Number.f k bt156.1).bind fun bt158 => (if bt158.2 = true then (spec_ReadInstr.j0 k a0 bt156.2 t152 bt154.2 t152 bt158.1 (⟨#[]⟩ : ByteArray)) else (some (0, 0, (⟨#[]⟩ : ByteArray), false))))) else (spec_ReadInstr.j0 k a0 bt147.2 t152 bt154.2 t152 0 (⟨#[]⟩ : ByteArray)))))))) = some (r1, r2, r3, r4) := h
 clear h
 replace H := Option.bind_eq_some_iff.mp H
 obtain ⟨⟨t147, t148⟩, A20, H⟩ := H
 replace H : ((spec_l24Words.f).bind fun t149 => ((spec_l17At.f k t149 t147).bind fun t152 => (if t152 < 1 then (some (0, 0, (⟨#[]⟩ : ByteArray), false)) else ((spec_l24Fields.f k t152).bind fun bt154 => (if bt154.1 = true then ((spec_l24Split.f k t148).bind fun bt156 => ((spec_l06Number.f k bt156.1).bind fun bt158 => (if bt158.2 = true then (spec_ReadInstr.j0 k a0 bt156.2 t152 bt154.2 t152 bt158.1 (⟨#[]⟩ : ByteArray)) else (some (0, 0, (⟨#[]⟩ : ByteArray), false))))) else (spec_ReadInstr.j0 k a0 t148 t152 bt154.2 t152 0 (⟨#[]⟩ : ByteArray))))))) = some (r1, r2, r3, r4) := H
 have A2 := Aside0.mk A20
 clear A20
 obtain ⟨t149, A3, H⟩ := sO H
 obtain ⟨t152, A4, H⟩ := sO H
 by_cases c5 : t152 < 1
 ·rw [if_pos c5] at H
  have c5b0 := decide_eq_true c5
  clear c5
  simp only [Option.some.injEq, Prod.mk.injEq] at H
  obtain ⟨rfl, rfl, rfl, rfl⟩ := H
  go_enter Tryd.func4, Tryd.ntmps4
  go_wp2_with (first | ((with_reducible refine gate_dst (N := 2) rfl ?_); (try (refine gate_guard (by rfl) ?_; dsimp only)); refine sV (N := 2) (cs := #[.int .i64 0, .int .i64 0, .string (⟨#[]⟩ : ByteArray)]) (t := 23) ?_; intro gb146 hg w6 hbox hb; have n0_ := sB HB hb; have n1_ := Aside0.mk (hbox); have n2_ := sG HB hg; have n3_ := sG HB hg; clear HB; have HB := n0_; have BK146 := n1_; have GW146 := n2_; have GE146 := n3_; clear n0_ n1_ n2_ n3_; clear hb hbox hg) | ((with_reducible refine gate_callee (f := 7) rfl ?_); refine sC (some 16) Tryd.func7 #[.string a0] (spec_l24Split.calls k a0 t147 t148 _ A2.out) ?_; rintro e w' ⟨rfl, ⟨nd, rfl⟩⟩; refine ⟨_, rfl, ?_⟩; (try (rw [drewN_self w6]; generalize hq_ : World.drewN w6 _ = w6; have n0_ : Aside0 (w6.heap[gb146]? = some (.cells #[.int .i64 0, .int .i64 0, .string (⟨#[]⟩ : ByteArray)] 23 (0, 0))) := ⟨by rw [← hq_]; exact (sT BK146.out)⟩; have n1_ : Aside0 (Below w.heap.size w w6) := ⟨by rw [← hq_]; exact (by repeat (first | (with_reducible first | exact HB.out | apply below_alloc | apply pw_below_drewN | apply below_drew1 | refine below_set ?_ GE146.out) | exact HB.out))⟩; clear BK146 HB hq_; have BK146 := n0_; have HB := n1_; clear n0_ n1_))) | ((with_reducible refine gate_callee (f := 9) rfl ?_); refine sC (some 19) Tryd.func9 #[] (spec_l24Words.calls  t149 _ A3.out) ?_; rintro e w7 ⟨v150, rfl, ho0, hb⟩; refine ⟨_, rfl, ?_⟩; have n0_ := Aside0.mk (Kd.R_lower ho0 (below_size (by repeat (first | (with_reducible first | exact HB.out | apply below_alloc | apply pw_below_drewN | apply below_drew1 | refine below_set ?_ GE146.out) | exact HB.out)))); have n1_ := sK BK146 hb; have n2_ := sB HB hb; clear BK146; clear HB; have HO151 := n0_; have BK146 := n1_; have HB := n2_; clear n0_ n1_ n2_; (try clear hb); (try clear hb2); (try clear hk); (try clear hi); (try clear ho0); obtain ⟨Ao8, co8, eo8⟩ := Kd.R_slice HO151.out; subst eo8) | ((with_reducible refine gate_callee (f := 8) rfl ?_); refine sC (some 21) Tryd.func8 #[.slice Ao8 t149.length co8, .string t147] (spec_l17At.calls k _ _ t149 t147 t152 _ ?side1 ?side2 A4.out) ?_; (case side1 => exact sD ((Kd.R_reads' HO151.out).2.2)); (case side2 => exact (Kd.R_reads' HO151.out).2.1); rintro e w' ⟨rfl, ⟨nd, rfl⟩⟩; refine ⟨_, rfl, ?_⟩; (try (rw [drewN_self w7]; generalize hq_ : World.drewN w7 _ = w7; have n0_ : Aside0 (Kd.R Kd.string 9 w7 w.heap.size (fun _ => True) (.slice Ao8 t149.length co8) t149) := ⟨by rw [← hq_]; exact (sE HO151.out)⟩; have n1_ : Aside0 (w7.heap[gb146]? = some (.cells #[.int .i64 0, .int .i64 0, .string (⟨#[]⟩ : ByteArray)] 23 (0, 0))) := ⟨by rw [← hq_]; exact (sT BK146.out)⟩; have n2_ : Aside0 (Below w.heap.size w w7) := ⟨by rw [← hq_]; exact (by repeat (first | (with_reducible first | exact HB.out | apply below_alloc | apply pw_below_drewN | apply below_drew1 | refine below_set ?_ GE146.out) | exact HB.out))⟩; clear HO151 BK146 HB hq_; have HO151 := n0_; have BK146 := n1_; have HB := n2_; clear n0_ n1_ n2_)); obtain ⟨hcz9_0, hcz9_1, hcz9_2, hfz9_0, hfz9_1, hfz9_2⟩ := cells3 BK146.out))
  refine bodyPost_ret (results_ct rfl _ _ gb146 23 #[.int .i64 0, .int .i64 0, .string (⟨#[]⟩ : ByteArray)] (0, 0) _ rfl (by exact sP3 (sT BK146.out)) Tryd.underlying23 rfl (by kernel_rfl)) rfl ?_
  exact ⟨sq, sb⟩
 rw [if_neg c5] at H
 have c5b0 := decide_eq_false c5
 clear c5
 replace H := Option.bind_eq_some_iff.mp H
 obtain ⟨⟨t154, t155⟩, A100, H⟩ := H
 replace H : (if t154 = true then ((spec_l24Split.f k t148).bind fun bt156 => ((spec_l06Number.f k bt156.1).bind fun bt158 => (if bt158.2 = true then (spec_ReadInstr.j0 k a0 bt156.2 t152 t155 t152 bt158.1 (⟨#[]⟩ : ByteArray)) else (some (0, 0, (⟨#[]⟩ : ByteArray), false))))) else (spec_ReadInstr.j0 k a0 t148 t152 t155 t152 0 (⟨#[]⟩ : ByteArray))) = some (r1, r2, r3, r4) := H
 have A10 := Aside0.mk A100
 clear A100
 have HC11 := Aside0.mk H
 clear H
 go_enter Tryd.func4, Tryd.ntmps4
 go_upto_if 32 with (first | ((with_reducible refine gate_dst (N := 2) rfl ?_); (try (refine gate_guard (by rfl) ?_; dsimp only)); refine sV (N := 2) (cs := #[.int .i64 0, .int .i64 0, .string (⟨#[]⟩ : ByteArray)]) (t := 23) ?_; intro gb146 hg w12 hbox hb; have n0_ := sB HB hb; have n1_ := Aside0.mk (hbox); have n2_ := sG HB hg; have n3_ := sG HB hg; clear HB; have HB := n0_; have BK146 := n1_; have GW146 := n2_; have GE146 := n3_; clear n0_ n1_ n2_ n3_; clear hb hbox hg) | ((with_reducible refine gate_callee (f := 7) rfl ?_); refine sC (some 16) Tryd.func7 #[.string a0] (spec_l24Split.calls k a0 t147 t148 _ A2.out) ?_; rintro e w' ⟨rfl, ⟨nd, rfl⟩⟩; refine ⟨_, rfl, ?_⟩; (try (rw [drewN_self w12]; generalize hq_ : World.drewN w12 _ = w12; have n0_ : Aside0 (w12.heap[gb146]? = some (.cells #[.int .i64 0, .int .i64 0, .string (⟨#[]⟩ : ByteArray)] 23 (0, 0))) := ⟨by rw [← hq_]; exact (sT BK146.out)⟩; have n1_ : Aside0 (Below w.heap.size w w12) := ⟨by rw [← hq_]; exact (by repeat (first | (with_reducible first | exact HB.out | apply below_alloc | apply pw_below_drewN | apply below_drew1 | refine below_set ?_ GE146.out) | exact HB.out))⟩; clear BK146 HB hq_; have BK146 := n0_; have HB := n1_; clear n0_ n1_)); obtain ⟨hrz146_0, hrz146_1, hrz146_2, hrf146_0, hrf146_1, hrf146_2⟩ := cells3 BK146.out) | ((with_reducible refine gate_callee (f := 9) rfl ?_); refine sC (some 19) Tryd.func9 #[] (spec_l24Words.calls  t149 _ A3.out) ?_; rintro e w13 ⟨v150, rfl, ho0, hb⟩; refine ⟨_, rfl, ?_⟩; have n0_ := Aside0.mk (Kd.R_lower ho0 (below_size (by repeat (first | (with_reducible first | exact HB.out | apply below_alloc | apply pw_below_drewN | apply below_drew1 | refine below_set ?_ GE146.out) | exact HB.out)))); have n1_ := sK BK146 hb; have n2_ := sB HB hb; clear BK146; clear HB; have HO151 := n0_; have BK146 := n1_; have HB := n2_; clear n0_ n1_ n2_; (try clear hb); (try clear hb2); (try clear hk); (try clear hi); (try clear ho0); obtain ⟨Ao14, co14, eo14⟩ := Kd.R_slice HO151.out; subst eo14) | ((with_reducible refine gate_callee (f := 8) rfl ?_); refine sC (some 21) Tryd.func8 #[.slice Ao14 t149.length co14, .string t147] (spec_l17At.calls k _ _ t149 t147 t152 _ ?side1 ?side2 A4.out) ?_; (case side1 => exact sD ((Kd.R_reads' HO151.out).2.2)); (case side2 => exact (Kd.R_reads' HO151.out).2.1); rintro e w' ⟨rfl, ⟨nd, rfl⟩⟩; refine ⟨_, rfl, ?_⟩; (try (rw [drewN_self w13]; generalize hq_ : World.drewN w13 _ = w13; have n0_ : Aside0 (Kd.R Kd.string 9 w13 w.heap.size (fun _ => True) (.slice Ao14 t149.length co14) t149) := ⟨by rw [← hq_]; exact (sE HO151.out)⟩; have n1_ : Aside0 (w13.heap[gb146]? = some (.cells #[.int .i64 0, .int .i64 0, .string (⟨#[]⟩ : ByteArray)] 23 (0, 0))) := ⟨by rw [← hq_]; exact (sT BK146.out)⟩; have n2_ : Aside0 (Below w.heap.size w w13) := ⟨by rw [← hq_]; exact (by repeat (first | (with_reducible first | exact HB.out | apply below_alloc | apply pw_below_drewN | apply below_drew1 | refine below_set ?_ GE146.out) | exact HB.out))⟩; clear HO151 BK146 HB hq_; have HO151 := n0_; have BK146 := n1_; have HB := n2_; clear n0_ n1_ n2_)); obtain ⟨hrz146_0, hrz146_1, hrz146_2, hrf146_0, hrf146_1, hrf146_2⟩ := cells3 BK146.out) | ((with_reducible refine gate_dst (N := 7) rfl ?_); (try (refine gate_guard (by rfl) ?_; dsimp only)); refine sV (N := 7) (cs := #[.int .i64 0, .int .i64 0, .string (⟨#[]⟩ : ByteArray)]) (t := 23) ?_; intro gb153 hg w15 hbox hb; have n0_ := Aside0.mk (Kd.R_below (sE HO151.out) hb); have n1_ := sK BK146 hb; have n2_ := sB HB hb; have n3_ := Aside0.mk (hbox); have n4_ := sG HB hg; have n5_ := sG HB hg; have n6_ := sN BK146 hg; have n7_ := sM BK146 hg; clear HO151; clear BK146; clear HB; have HO151 := n0_; have BK146 := n1_; have HB := n2_; have BK153 := n3_; have GW153 := n4_; have GE153 := n5_; have NB146_153 := n6_; have NB153_146 := n7_; clear n0_ n1_ n2_ n3_ n4_ n5_ n6_ n7_; clear hb hbox hg; have hnb16 := NB153_146.out; have hnc16 := NB146_153.out; obtain ⟨hcz17_0, hcz17_1, hcz17_2, hfz17_0, hfz17_1, hfz17_2⟩ := cells3 BK153.out) | ((with_reducible refine gate_callee (f := 10) rfl ?_); refine sC (some 29) Tryd.func10 #[.int .i64 t152] (spec_l24Fields.calls k t152 t154 t155 _ A10.out) ?_; rintro e w' ⟨rfl, ⟨nd, rfl⟩⟩; refine ⟨_, rfl, ?_⟩))
 (try simp only [Act.put, List.setIfInBounds_toArray, List.set_cons_zero, List.set_cons_succ])
 go_cut [5] (fun v5 wc => ∃ (kq : Nat) (x5_10 : ByteArray) (x147000_10 : Int) (x147001_10 : Int) (x147002_10 : ByteArray) (x154001_10 : Int), v5 = .string x5_10 ∧ Aside0 (spec_ReadInstr.j0 kq a0 x5_10 t152 t155 t152 x154001_10 (⟨#[]⟩ : ByteArray) = some (r1, r2, r3, r4)) ∧ Aside0 (kq ≤ k) ∧ Aside0 (wc.heap[gb146]? = some (.cells #[.int .i64 x147000_10, .int .i64 x147001_10, .string x147002_10] 23 (0, 0))) ∧ Aside0 (wc.heap[gb153]? = some (.cells #[.int .i64 t152, .int .i64 x154001_10, .string (⟨#[]⟩ : ByteArray)] 23 (0, 0))) ∧ Aside0 (Below w.heap.size w wc))
 case first =>
  have H := HC11.out
  clear HC11
  by_cases c18 : t154 = true
  ·subst c18
   rewrite [if_pos rfl] at H
   replace H := Option.bind_eq_some_iff.mp H
   obtain ⟨⟨t156, t157⟩, A190, H⟩ := H
   replace H : ((spec_l06Number.f k t156).bind fun bt158 => (if bt158.2 = true then (spec_ReadInstr.j0 k a0 t157 t152 t155 t152 bt158.1 (⟨#[]⟩ : ByteArray)) else (some (0, 0, (⟨#[]⟩ : ByteArray), false)))) = some (r1, r2, r3, r4) := H
   have A19 := Aside0.mk A190
   clear A190
   replace H := Option.bind_eq_some_iff.mp H
   obtain ⟨⟨t158, t159⟩, A200, H⟩ := H
   replace H : (if t159 = true then (spec_ReadInstr.j0 k a0 t157 t152 t155 t152 t158 (⟨#[]⟩ : ByteArray)) else (some (0, 0, (⟨#[]⟩ : ByteArray), false))) = some (r1, r2, r3, r4) := H
   have A20 := Aside0.mk A200
   clear A200
   by_cases c21 : t159 = true
   ·subst c21
    rewrite [if_pos rfl] at H
    have H' := Aside0.mk H
    clear H
    go_wp2_with (first | ((with_reducible refine gate_callee (f := 7) rfl ?_); refine sC (some 35) Tryd.func7 #[.string t148] (spec_l24Split.calls k t148 t156 t157 _ A19.out) ?_; rintro e w' ⟨rfl, ⟨nd, rfl⟩⟩; refine ⟨_, rfl, ?_⟩) | ((with_reducible refine gate_callee (f := 11) rfl ?_); refine sC (some 40) Tryd.func11 #[.string t156] (spec_l06Number.calls k t156 t158 true _ A20.out) ?_; rintro e w22 ⟨rfl, hb⟩; refine ⟨_, rfl, ?_⟩; have n0_ := Aside0.mk (Kd.R_below (by (with_reducible repeat (first | apply Kd.R_alloc | apply Kd.R_drewN | apply Kd.R_drew)); exact (Kd.R_mono (Kd.R_far (p := ⟨gb153, 2, none⟩) (Kd.R_far (p := ⟨gb153, 1, none⟩) (Kd.R_far (p := ⟨gb153, 0, none⟩) (Kd.R_types HO151.out BK153.out (by decide)) (fun _ hk => hk.2) (.int .i64 t152)) (fun _ hk => hk.2) (.int .i64 0)) (fun _ hk => hk.2) (.string (⟨#[]⟩ : ByteArray))) (fun _ h_ => h_.1))) hb); have n1_ := Aside0.mk (blk_below (g := gb146) (o := .cells #[.int .i64 0, .int .i64 0, .string (⟨#[]⟩ : ByteArray)] 23 (0, 0)) (by (with_reducible repeat (first | refine blk_drewN ?_ _ | refine blk_drew ?_ | refine blk_alloc ?_ _)); refine blk_far ?_ NB146_153.out _; (with_reducible repeat (first | refine blk_drewN ?_ _ | refine blk_drew ?_ | refine blk_alloc ?_ _)); refine blk_far ?_ NB146_153.out _; (with_reducible repeat (first | refine blk_drewN ?_ _ | refine blk_drew ?_ | refine blk_alloc ?_ _)); refine blk_far ?_ NB146_153.out _; exact sT BK146.out) hb); have n2_ := Aside0.mk (blk_below (g := gb153) (o := .cells #[.int .i64 t152, .int .i64 0, .string (⟨#[]⟩ : ByteArray)] 23 (0, 0)) (by exact sP3 (sT BK153.out)) hb); have n3_ := sB HB hb; clear HO151; clear BK146; clear BK153; clear HB; have HO151 := n0_; have BK146 := n1_; have BK153 := n2_; have HB := n3_; clear n0_ n1_ n2_ n3_; (try clear hb); (try clear hb2); (try clear hk); (try clear hi); have hnb23 := NB153_146.out; have hnc23 := NB146_153.out; obtain ⟨hcz24_0, hcz24_1, hcz24_2, hfz24_0, hfz24_1, hfz24_2⟩ := cells3 BK153.out))
    go_meet
    case rel => exact ⟨_, (t157), (0), (0), ((⟨#[]⟩ : ByteArray)), (t158), sr, H', ⟨by first | omega | exact Nat.le_refl _⟩, ⟨by (with_reducible repeat (first | refine blk_drewN ?_ _ | refine blk_drew ?_ | refine blk_alloc ?_ _)); refine blk_far ?_ NB146_153.out _; exact sT BK146.out⟩, ⟨by (with_reducible repeat (first | refine blk_drewN ?_ _ | refine blk_drew ?_ | refine blk_alloc ?_ _)); refine blk_put (cs := #[.int .i64 t152, .int .i64 0, .string (⟨#[]⟩ : ByteArray)]) ?_ 1 _ rfl; exact sT BK153.out⟩, ⟨sb⟩⟩
   replace c21 := Bool.eq_false_iff.mpr c21
   subst c21
   rewrite [if_neg (show ¬ (false = true) by decide)] at H
   simp only [Option.some.injEq, Prod.mk.injEq] at H
   obtain ⟨rfl, rfl, rfl, rfl⟩ := H
   go_wp2_with (first | ((with_reducible refine gate_callee (f := 7) rfl ?_); refine sC (some 35) Tryd.func7 #[.string t148] (spec_l24Split.calls k t148 t156 t157 _ A19.out) ?_; rintro e w' ⟨rfl, ⟨nd, rfl⟩⟩; refine ⟨_, rfl, ?_⟩) | ((with_reducible refine gate_callee (f := 11) rfl ?_); refine sC (some 40) Tryd.func11 #[.string t156] (spec_l06Number.calls k t156 t158 false _ A20.out) ?_; rintro e w25 ⟨rfl, hb⟩; refine ⟨_, rfl, ?_⟩; have n0_ := Aside0.mk (Kd.R_below (by (with_reducible repeat (first | apply Kd.R_alloc | apply Kd.R_drewN | apply Kd.R_drew)); exact (Kd.R_mono (Kd.R_far (p := ⟨gb153, 2, none⟩) (Kd.R_far (p := ⟨gb153, 1, none⟩) (Kd.R_far (p := ⟨gb153, 0, none⟩) (Kd.R_types HO151.out BK153.out (by decide)) (fun _ hk => hk.2) (.int .i64 t152)) (fun _ hk => hk.2) (.int .i64 0)) (fun _ hk => hk.2) (.string (⟨#[]⟩ : ByteArray))) (fun _ h_ => h_.1))) hb); have n1_ := Aside0.mk (blk_below (g := gb146) (o := .cells #[.int .i64 0, .int .i64 0, .string (⟨#[]⟩ : ByteArray)] 23 (0, 0)) (by (with_reducible repeat (first | refine blk_drewN ?_ _ | refine blk_drew ?_ | refine blk_alloc ?_ _)); refine blk_far ?_ NB146_153.out _; (with_reducible repeat (first | refine blk_drewN ?_ _ | refine blk_drew ?_ | refine blk_alloc ?_ _)); refine blk_far ?_ NB146_153.out _; (with_reducible repeat (first | refine blk_drewN ?_ _ | refine blk_drew ?_ | refine blk_alloc ?_ _)); refine blk_far ?_ NB146_153.out _; exact sT BK146.out) hb); have n2_ := Aside0.mk (blk_below (g := gb153) (o := .cells #[.int .i64 t152, .int .i64 0, .string (⟨#[]⟩ : ByteArray)] 23 (0, 0)) (by exact sP3 (sT BK153.out)) hb); have n3_ := sB HB hb; clear HO151; clear BK146; clear BK153; clear HB; have HO151 := n0_; have BK146 := n1_; have BK153 := n2_; have HB := n3_; clear n0_ n1_ n2_ n3_; (try clear hb); (try clear hb2); (try clear hk); (try clear hi); have hnb26 := NB146_153.out; have hnc26 := NB153_146.out; obtain ⟨hcz27_0, hcz27_1, hcz27_2, hfz27_0, hfz27_1, hfz27_2⟩ := cells3 BK146.out))
   refine bodyPost_ret (results_ct rfl _ _ gb146 23 #[.int .i64 0, .int .i64 0, .string (⟨#[]⟩ : ByteArray)] (0, 0) _ rfl (by exact sP3 (sT BK146.out)) Tryd.underlying23 rfl (by kernel_rfl)) rfl ?_
   exact ⟨sq, sb⟩
  replace c18 := Bool.eq_false_iff.mpr c18
  subst c18
  rewrite [if_neg (show ¬ (false = true) by decide)] at H
  have H' := Aside0.mk H
  clear H
  go_wp2
  go_meet
  case rel => exact ⟨_, (t148), (0), (0), ((⟨#[]⟩ : ByteArray)), (0), sr, H', ⟨by first | omega | exact Nat.le_refl _⟩, ⟨by (with_reducible repeat (first | refine blk_drewN ?_ _ | refine blk_drew ?_ | refine blk_alloc ?_ _)); refine blk_far ?_ NB146_153.out _; (with_reducible repeat (first | refine blk_drewN ?_ _ | refine blk_drew ?_ | refine blk_alloc ?_ _)); refine blk_far ?_ NB146_153.out _; (with_reducible repeat (first | refine blk_drewN ?_ _ | refine blk_drew ?_ | refine blk_alloc ?_ _)); refine blk_far ?_ NB146_153.out _; exact sT BK146.out⟩, ⟨by exact sP3 (sT BK153.out)⟩, ⟨sb⟩⟩
 case rest =>
  clear HC11
  try clear c1
  try clear c2
  try clear p2
  try clear c4
  try clear c5
  try clear c5b0
  try clear c7
  try clear c8
  try clear c9
  try clear c10
  try clear c11
  try clear c16
  try clear c18
  try clear c21
  try clear c23
  try clear c26
  try clear hcz17_0
  try clear hcz17_1
  try clear hcz17_2
  try clear hcz24_0
  try clear hcz24_1
  try clear hcz24_2
  try clear hcz27_0
  try clear hcz27_1
  try clear hcz27_2
  try clear hcz9_0
  try clear hcz9_1
  try clear hcz9_2
  try clear hfz17_0
  try clear hfz17_1
  try clear hfz17_2
  try clear hfz24_0
  try clear hfz24_1
  try clear hfz24_2
  try clear hfz27_0
  try clear hfz27_1
  try clear hfz27_2
  try clear hfz9_0
  try clear hfz9_1
  try clear hfz9_2
  obtain ⟨kq, x5_10, x147000_10, x147001_10, x147002_10, x154001_10, rfl, HA, HJ10, BK146, BK153, HB⟩ := hcut
  cases kq with
  | zero => exact absurd HA.out (by simp [spec_ReadInstr.j0])
  | succ kj10 =>
   have H := HA.out
   clear HA
   simp only [spec_ReadInstr.j0] at H
   have HC28 := Aside0.mk H
   clear H
   go_upto_region 14 with (fail)
   go_cut [49] (fun v49 wc => ∃ (kq : Nat) (x49_27 : Bool), v49 = .bool x49_27 ∧ Aside0 (spec_ReadInstr.j1 kq a0 x5_10 t155 x49_27 t152 x154001_10 (⟨#[]⟩ : ByteArray) = some (r1, r2, r3, r4)) ∧ Aside0 (kq ≤ kj10) ∧ Aside0 (wc.heap[gb146]? = some (.cells #[.int .i64 x147000_10, .int .i64 x147001_10, .string x147002_10] 23 (0, 0))) ∧ Aside0 (wc.heap[gb153]? = some (.cells #[.int .i64 t152, .int .i64 x154001_10, .string (⟨#[]⟩ : ByteArray)] 23 (0, 0))) ∧ Aside0 (Below w.heap.size w wc))
   case first =>
    have H := HC28.out
    clear HC28
    by_cases c29 : t152 = 2
    ·rw [if_pos c29] at H
     have c29b0 : (t152 == 2) = true := beq_iff_eq.mpr c29
     have c29b1 : (t152 != 2) = false := bne_eq_false_iff_eq.mpr c29
     clear c29
     (first | rw [c29b0] | (simp only [i64_w, i32_w]; rw [c29b0]) | rw [c29b2] | skip)
     have H' := Aside0.mk H
     clear H
     go_wp2
     go_meet
     case rel => exact ⟨_, (decide ((x5_10.size : Int) ≥ 2)), sr, H', ⟨by have := HJ10.out; first | omega | exact Nat.le_refl _⟩, ⟨by exact sT BK146.out⟩, ⟨by exact sT BK153.out⟩, ⟨sb⟩⟩
    rw [if_neg c29] at H
    have c29b0 : (t152 == 2) = false := beq_eq_false_iff_ne.mpr c29
    have c29b1 : (t152 != 2) = true := bne_iff_ne.mpr c29
    (first | rw [c29b0] | (simp only [i64_w, i32_w]; rw [c29b0]) | rw [c29b2] | skip)
    have H' := Aside0.mk H
    clear H
    go_wp2
    go_meet
    case rel => exact ⟨_, (false), sr, H', ⟨by have := HJ10.out; first | omega | exact Nat.le_refl _⟩, ⟨by exact sT BK146.out⟩, ⟨by exact sT BK153.out⟩, ⟨sb⟩⟩
   case rest =>
    clear HC28
    try clear c1
    try clear c2
    try clear p2
    try clear c4
    try clear c5
    try clear c5b0
    try clear c7
    try clear c8
    try clear c9
    try clear c10
    try clear c11
    try clear c16
    try clear c18
    try clear c21
    try clear c23
    try clear c26
    try clear c29
    try clear c29b0
    try clear c29b1
    try clear c29b2
    try clear hcz17_0
    try clear hcz17_1
    try clear hcz17_2
    try clear hcz24_0
    try clear hcz24_1
    try clear hcz24_2
    try clear hcz27_0
    try clear hcz27_1
    try clear hcz27_2
    try clear hcz9_0
    try clear hcz9_1
    try clear hcz9_2
    try clear hfz17_0
    try clear hfz17_1
    try clear hfz17_2
    try clear hfz24_0
    try clear hfz24_1
    try clear hfz24_2
    try clear hfz27_0
    try clear hfz27_1
    try clear hfz27_2
    try clear hfz9_0
    try clear hfz9_1
    try clear hfz9_2
    try clear p2
    obtain ⟨kq, x49_27, rfl, HA, HJ27, BK146, BK153, HB⟩ := hcut
    cases kq with
    | zero => exact absurd HA.out (by simp [spec_ReadInstr.j1])
    | succ kj27 =>
     have H := HA.out
     clear HA
     simp only [spec_ReadInstr.j1] at H
     by_cases c30 : x49_27 = true
     ·subst c30
      rewrite [if_pos rfl] at H
      by_cases c31 : 1 ≤ (wrap64 ((x5_10.size : Int) - 1))
      ·rw [if_pos c31] at H
       have c31b0 := eq_true c31
       have c31b1 := decide_eq_true c31
       clear c31
       by_cases c32 : (wrap64 ((x5_10.size : Int) - 1)) ≤ (x5_10.size : Int)
       ·rw [if_pos c32] at H
        have c32b0 := eq_true c32
        have c32b1 := decide_eq_true c32
        clear c32
        obtain ⟨t160, A33, H⟩ := sO H
        by_cases c34 : t160.toList = a0.toList
        ·rw [if_pos c34] at H
         have c34b0 : (t160.toList == a0.toList) = true := beq_iff_eq.mpr c34
         have c34b1 : (t160.toList != a0.toList) = false := bne_eq_false_iff_eq.mpr c34
         clear c34
         simp only [Option.some.injEq, Prod.mk.injEq] at H
         obtain ⟨rfl, rfl, rfl, rfl⟩ := H
         have hnb35 := NB153_146.out
         have hnc35 := NB146_153.out
         obtain ⟨hcz36_0, hcz36_1, hcz36_2, hfz36_0, hfz36_1, hfz36_2⟩ := cells3 BK153.out
         go_wp2_with (first | ((with_reducible refine gate_callee (f := 12) rfl ?_); refine sC (some 68) Tryd.func12 #[.agg #[.int .i64 t152, .int .i64 x154001_10, .string (x5_10.extract 1 ((wrap64 ((x5_10.size : Int) - 1)) : Int).toNat)]] (spec_InstrText.calls kj27 t152 x154001_10 (x5_10.extract 1 ((wrap64 ((x5_10.size : Int) - 1)) : Int).toNat) t160 _ A33.out) ?_; rintro e w37 ⟨rfl, hb⟩; refine ⟨_, rfl, ?_⟩; have n0_ := Aside0.mk (blk_below (g := gb146) (o := .cells #[.int .i64 x147000_10, .int .i64 x147001_10, .string x147002_10] 23 (0, 0)) (by (with_reducible repeat (first | refine blk_drewN ?_ _ | refine blk_drew ?_ | refine blk_alloc ?_ _)); refine blk_far ?_ NB146_153.out _; exact sT BK146.out) hb); have n1_ := Aside0.mk (blk_below (g := gb153) (o := .cells #[.int .i64 t152, .int .i64 x154001_10, .string (x5_10.extract 1 ((wrap64 ((x5_10.size : Int) - 1)) : Int).toNat)] 23 (0, 0)) (by (with_reducible repeat (first | refine blk_drewN ?_ _ | refine blk_drew ?_ | refine blk_alloc ?_ _)); refine blk_put (cs := #[.int .i64 t152, .int .i64 x154001_10, .string (⟨#[]⟩ : ByteArray)]) ?_ 2 _ rfl; exact sT BK153.out) hb); have n2_ := sB HB hb; clear BK146; clear BK153; clear HB; have BK146 := n0_; have BK153 := n1_; have HB := n2_; clear n0_ n1_ n2_; (try clear hb); (try clear hb2); (try clear hk); (try clear hi); obtain ⟨hcz38_0, hcz38_1, hcz38_2, hfz38_0, hfz38_1, hfz38_2⟩ := cells3 BK153.out; obtain ⟨hcz39_0, hcz39_1, hcz39_2, hfz39_0, hfz39_1, hfz39_2⟩ := cells3 BK146.out))
         refine bodyPost_ret (results_ct rfl _ _ gb146 23 #[.int .i64 t152, .int .i64 x154001_10, .string (x5_10.extract 1 ((wrap64 ((x5_10.size : Int) - 1)) : Int).toNat)] (0, 0) _ rfl (by exact sP3 (sT BK146.out)) Tryd.underlying23 rfl (by kernel_rfl)) rfl ?_
         exact ⟨sq, sb⟩
        rw [if_neg c34] at H
        have c34b0 : (t160.toList == a0.toList) = false := beq_eq_false_iff_ne.mpr c34
        have c34b1 : (t160.toList != a0.toList) = true := bne_iff_ne.mpr c34
        simp only [Option.some.injEq, Prod.mk.injEq] at H
        obtain ⟨rfl, rfl, rfl, rfl⟩ := H
        have hnb40 := NB153_146.out
        have hnc40 := NB146_153.out
        obtain ⟨hcz41_0, hcz41_1, hcz41_2, hfz41_0, hfz41_1, hfz41_2⟩ := cells3 BK153.out
        go_wp2_with (first | ((with_reducible refine gate_callee (f := 12) rfl ?_); refine sC (some 68) Tryd.func12 #[.agg #[.int .i64 t152, .int .i64 x154001_10, .string (x5_10.extract 1 ((wrap64 ((x5_10.size : Int) - 1)) : Int).toNat)]] (spec_InstrText.calls kj27 t152 x154001_10 (x5_10.extract 1 ((wrap64 ((x5_10.size : Int) - 1)) : Int).toNat) t160 _ A33.out) ?_; rintro e w42 ⟨rfl, hb⟩; refine ⟨_, rfl, ?_⟩; have n0_ := Aside0.mk (blk_below (g := gb146) (o := .cells #[.int .i64 x147000_10, .int .i64 x147001_10, .string x147002_10] 23 (0, 0)) (by (with_reducible repeat (first | refine blk_drewN ?_ _ | refine blk_drew ?_ | refine blk_alloc ?_ _)); refine blk_far ?_ NB146_153.out _; exact sT BK146.out) hb); have n1_ := Aside0.mk (blk_below (g := gb153) (o := .cells #[.int .i64 t152, .int .i64 x154001_10, .string (x5_10.extract 1 ((wrap64 ((x5_10.size : Int) - 1)) : Int).toNat)] 23 (0, 0)) (by (with_reducible repeat (first | refine blk_drewN ?_ _ | refine blk_drew ?_ | refine blk_alloc ?_ _)); refine blk_put (cs := #[.int .i64 t152, .int .i64 x154001_10, .string (⟨#[]⟩ : ByteArray)]) ?_ 2 _ rfl; exact sT BK153.out) hb); have n2_ := sB HB hb; clear BK146; clear BK153; clear HB; have BK146 := n0_; have BK153 := n1_; have HB := n2_; clear n0_ n1_ n2_; (try clear hb); (try clear hb2); (try clear hk); (try clear hi); obtain ⟨hcz43_0, hcz43_1, hcz43_2, hfz43_0, hfz43_1, hfz43_2⟩ := cells3 BK146.out))
        refine bodyPost_ret (results_ct rfl _ _ gb146 23 #[.int .i64 0, .int .i64 0, .string (⟨#[]⟩ : ByteArray)] (0, 0) _ rfl (by exact sP3 (sT BK146.out)) Tryd.underlying23 rfl (by kernel_rfl)) rfl ?_
        exact ⟨sq, sb⟩
       rw [if_neg c32] at H
       exact absurd H (by simp)
      rw [if_neg c31] at H
      exact absurd H (by simp)
     replace c30 := Bool.eq_false_iff.mpr c30
     subst c30
     rewrite [if_neg (show ¬ (false = true) by decide)] at H
     by_cases c44 : t155 = true
     ·subst c44
      rewrite [if_pos rfl] at H
      obtain ⟨t161, A45, H⟩ := sO H
      by_cases c46 : t161.toList = a0.toList
      ·rw [if_pos c46] at H
       have c46b0 : (t161.toList == a0.toList) = true := beq_iff_eq.mpr c46
       have c46b1 : (t161.toList != a0.toList) = false := bne_eq_false_iff_eq.mpr c46
       clear c46
       simp only [Option.some.injEq, Prod.mk.injEq] at H
       obtain ⟨rfl, rfl, rfl, rfl⟩ := H
       have hnb47 := NB153_146.out
       have hnc47 := NB146_153.out
       obtain ⟨hcz48_0, hcz48_1, hcz48_2, hfz48_0, hfz48_1, hfz48_2⟩ := cells3 BK153.out
       go_wp2_with (first | ((with_reducible refine gate_callee (f := 12) rfl ?_); refine sC (some 68) Tryd.func12 #[.agg #[.int .i64 t152, .int .i64 x154001_10, .string x5_10]] (spec_InstrText.calls kj27 t152 x154001_10 x5_10 t161 _ A45.out) ?_; rintro e w49 ⟨rfl, hb⟩; refine ⟨_, rfl, ?_⟩; have n0_ := Aside0.mk (blk_below (g := gb146) (o := .cells #[.int .i64 x147000_10, .int .i64 x147001_10, .string x147002_10] 23 (0, 0)) (by (with_reducible repeat (first | refine blk_drewN ?_ _ | refine blk_drew ?_ | refine blk_alloc ?_ _)); refine blk_far ?_ NB146_153.out _; exact sT BK146.out) hb); have n1_ := Aside0.mk (blk_below (g := gb153) (o := .cells #[.int .i64 t152, .int .i64 x154001_10, .string x5_10] 23 (0, 0)) (by (with_reducible repeat (first | refine blk_drewN ?_ _ | refine blk_drew ?_ | refine blk_alloc ?_ _)); refine blk_put (cs := #[.int .i64 t152, .int .i64 x154001_10, .string (⟨#[]⟩ : ByteArray)]) ?_ 2 _ rfl; exact sT BK153.out) hb); have n2_ := sB HB hb; clear BK146; clear BK153; clear HB; have BK146 := n0_; have BK153 := n1_; have HB := n2_; clear n0_ n1_ n2_; (try clear hb); (try clear hb2); (try clear hk); (try clear hi); obtain ⟨hcz50_0, hcz50_1, hcz50_2, hfz50_0, hfz50_1, hfz50_2⟩ := cells3 BK153.out; obtain ⟨hcz51_0, hcz51_1, hcz51_2, hfz51_0, hfz51_1, hfz51_2⟩ := cells3 BK146.out))
       refine bodyPost_ret (results_ct rfl _ _ gb146 23 #[.int .i64 t152, .int .i64 x154001_10, .string x5_10] (0, 0) _ rfl (by exact sP3 (sT BK146.out)) Tryd.underlying23 rfl (by kernel_rfl)) rfl ?_
       exact ⟨sq, sb⟩
      rw [if_neg c46] at H
      have c46b0 : (t161.toList == a0.toList) = false := beq_eq_false_iff_ne.mpr c46
      have c46b1 : (t161.toList != a0.toList) = true := bne_iff_ne.mpr c46
      simp only [Option.some.injEq, Prod.mk.injEq] at H
      obtain ⟨rfl, rfl, rfl, rfl⟩ := H
      have hnb52 := NB153_146.out
      have hnc52 := NB146_153.out
      obtain ⟨hcz53_0, hcz53_1, hcz53_2, hfz53_0, hfz53_1, hfz53_2⟩ := cells3 BK153.out
      go_wp2_with (first | ((with_reducible refine gate_callee (f := 12) rfl ?_); refine sC (some 68) Tryd.func12 #[.agg #[.int .i64 t152, .int .i64 x154001_10, .string x5_10]] (spec_InstrText.calls kj27 t152 x154001_10 x5_10 t161 _ A45.out) ?_; rintro e w54 ⟨rfl, hb⟩; refine ⟨_, rfl, ?_⟩; have n0_ := Aside0.mk (blk_below (g := gb146) (o := .cells #[.int .i64 x147000_10, .int .i64 x147001_10, .string x147002_10] 23 (0, 0)) (by (with_reducible repeat (first | refine blk_drewN ?_ _ | refine blk_drew ?_ | refine blk_alloc ?_ _)); refine blk_far ?_ NB146_153.out _; exact sT BK146.out) hb); have n1_ := Aside0.mk (blk_below (g := gb153) (o := .cells #[.int .i64 t152, .int .i64 x154001_10, .string x5_10] 23 (0, 0)) (by (with_reducible repeat (first | refine blk_drewN ?_ _ | refine blk_drew ?_ | refine blk_alloc ?_ _)); refine blk_put (cs := #[.int .i64 t152, .int .i64 x154001_10, .string (⟨#[]⟩ : ByteArray)]) ?_ 2 _ rfl; exact sT BK153.out) hb); have n2_ := sB HB hb; clear BK146; clear BK153; clear HB; have BK146 := n0_; have BK153 := n1_; have HB := n2_; clear n0_ n1_ n2_; (try clear hb); (try clear hb2); (try clear hk); (try clear hi); obtain ⟨hcz55_0, hcz55_1, hcz55_2, hfz55_0, hfz55_1, hfz55_2⟩ := cells3 BK146.out))
      refine bodyPost_ret (results_ct rfl _ _ gb146 23 #[.int .i64 0, .int .i64 0, .string (⟨#[]⟩ : ByteArray)] (0, 0) _ rfl (by exact sP3 (sT BK146.out)) Tryd.underlying23 rfl (by kernel_rfl)) rfl ?_
      exact ⟨sq, sb⟩
     replace c44 := Bool.eq_false_iff.mpr c44
     subst c44
     rewrite [if_neg (show ¬ (false = true) by decide)] at H
     obtain ⟨t162, A56, H⟩ := sO H
     by_cases c57 : t162.toList = a0.toList
     ·rw [if_pos c57] at H
      have c57b0 : (t162.toList == a0.toList) = true := beq_iff_eq.mpr c57
      have c57b1 : (t162.toList != a0.toList) = false := bne_eq_false_iff_eq.mpr c57
      clear c57
      simp only [Option.some.injEq, Prod.mk.injEq] at H
      obtain ⟨rfl, rfl, rfl, rfl⟩ := H
      have hnb58 := NB153_146.out
      have hnc58 := NB146_153.out
      obtain ⟨hcz59_0, hcz59_1, hcz59_2, hfz59_0, hfz59_1, hfz59_2⟩ := cells3 BK153.out
      go_wp2_with (first | ((with_reducible refine gate_callee (f := 12) rfl ?_); refine sC (some 68) Tryd.func12 #[.agg #[.int .i64 t152, .int .i64 x154001_10, .string (⟨#[]⟩ : ByteArray)]] (spec_InstrText.calls kj27 t152 x154001_10 (⟨#[]⟩ : ByteArray) t162 _ A56.out) ?_; rintro e w60 ⟨rfl, hb⟩; refine ⟨_, rfl, ?_⟩; have n0_ := sK BK146 hb; have n1_ := sK BK153 hb; have n2_ := sB HB hb; clear BK146; clear BK153; clear HB; have BK146 := n0_; have BK153 := n1_; have HB := n2_; clear n0_ n1_ n2_; (try clear hb); (try clear hb2); (try clear hk); (try clear hi); obtain ⟨hcz61_0, hcz61_1, hcz61_2, hfz61_0, hfz61_1, hfz61_2⟩ := cells3 BK153.out; obtain ⟨hcz62_0, hcz62_1, hcz62_2, hfz62_0, hfz62_1, hfz62_2⟩ := cells3 BK146.out))
      refine bodyPost_ret (results_ct rfl _ _ gb146 23 #[.int .i64 t152, .int .i64 x154001_10, .string (⟨#[]⟩ : ByteArray)] (0, 0) _ rfl (by exact sP3 (sT BK146.out)) Tryd.underlying23 rfl (by kernel_rfl)) rfl ?_
      exact ⟨sq, sb⟩
     rw [if_neg c57] at H
     have c57b0 : (t162.toList == a0.toList) = false := beq_eq_false_iff_ne.mpr c57
     have c57b1 : (t162.toList != a0.toList) = true := bne_iff_ne.mpr c57
     simp only [Option.some.injEq, Prod.mk.injEq] at H
     obtain ⟨rfl, rfl, rfl, rfl⟩ := H
     have hnb63 := NB153_146.out
     have hnc63 := NB146_153.out
     obtain ⟨hcz64_0, hcz64_1, hcz64_2, hfz64_0, hfz64_1, hfz64_2⟩ := cells3 BK153.out
     go_wp2_with (first | ((with_reducible refine gate_callee (f := 12) rfl ?_); refine sC (some 68) Tryd.func12 #[.agg #[.int .i64 t152, .int .i64 x154001_10, .string (⟨#[]⟩ : ByteArray)]] (spec_InstrText.calls kj27 t152 x154001_10 (⟨#[]⟩ : ByteArray) t162 _ A56.out) ?_; rintro e w65 ⟨rfl, hb⟩; refine ⟨_, rfl, ?_⟩; have n0_ := sK BK146 hb; have n1_ := sK BK153 hb; have n2_ := sB HB hb; clear BK146; clear BK153; clear HB; have BK146 := n0_; have BK153 := n1_; have HB := n2_; clear n0_ n1_ n2_; (try clear hb); (try clear hb2); (try clear hk); (try clear hi); obtain ⟨hcz66_0, hcz66_1, hcz66_2, hfz66_0, hfz66_1, hfz66_2⟩ := cells3 BK146.out))
     refine bodyPost_ret (results_ct rfl _ _ gb146 23 #[.int .i64 0, .int .i64 0, .string (⟨#[]⟩ : ByteArray)] (0, 0) _ rfl (by exact sP3 (sT BK146.out)) Tryd.underlying23 rfl (by kernel_rfl)) rfl ?_
     exact ⟨sq, sb⟩
end Go.Proofs.YtdihlgkcpooadaaDoor.PFnExactReadInstr
