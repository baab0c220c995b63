/- Printed functions: laws_FnExactPatternConstant. -/
import Derived.Test.YtabbpnkbhapibaaYPcP0
import Derived.Test.YtabbpnkbhapibaaYPcP1
import Derived.Test.YtabbpnkbhapibaaYPcP2
import Derived.Test.YtabbpnkbhapibaaYPcP3
import Derived.Test.YtabbpnkbhapibaaYPcP4
namespace Go.Proofs.Ytabbpnkbhapibaa.PFnExactPatternConstant
open Go.RowKit Go.Proofs.YtabbpnkbhapibaaG Go.Proofs.YtabbpnkbhapibaaW.PrintWords Go.Proofs.YtabbpnkbhapibaaW.PrintLast Go.Proofs.YtabbpnkbhapibaaW.PrintMore
attribute [local go_sem] max2_int min2_int max_two min_two max_three min_three max_four min_four   -- for this text's walks alone
set_option linter.unusedVariables false
set_option linter.unusedSimpArgs false
/-! ### laws_FnExactPatternConstant: function 5 -/
mutual
def laws_FnExactPatternConstant.j0 : Nat → ByteArray → Bool → Bool → Int → Int → ByteArray → List (S41) → Int → Int → ByteArray → List (S41) → Option (Bool)
 | 0, _, _, _, _, _, _, _, _, _, _, _ => none
 | k + 1, x0, x4, x32, x134000, x134001, x134002, x134003, x142000, x142001, x142002, x142003 => if x32 = true then (some false) else ((laws_markPattern.f x142000 x142001 x142002 x142003 1).bind fun t143 => ((laws_heldPattern.f x142000 x142001 x142002 x142003 1).bind fun t144 => (if t144 < 0 then (some false) else (if t144 = t143 then ((impl_PatternConstant.f k x0).bind fun bt145 => ((laws_eqPattern.f k bt145.1 bt145.2.1 bt145.2.2.1 bt145.2.2.2.1 x134000 x134001 x134002 x134003).bind fun t153 => (if t153 = true then (laws_FnExactPatternConstant.j1 k t143 (bt145.2.2.2.2 != x4) x142000 x142001 x142002 x142003) else (laws_FnExactPatternConstant.j1 k t143 true x142000 x142001 x142002 x142003)))) else (some false)))))
def laws_FnExactPatternConstant.j1 : Nat → Int → Bool → Int → Int → ByteArray → List (S41) → Option (Bool)
 | 0, _, _, _, _, _, _ => none
 | k + 1, x7, x57, x142000, x142001, x142002, x142003 => if x57 = true then (some false) else ((laws_heldPattern.f x142000 x142001 x142002 x142003 1).bind fun t154 => (if t154 < 0 then (some false) else (if t154 = x7 then (some true) else (some false))))
end
def laws_FnExactPatternConstant.f (k : Nat) (a0 : ByteArray) : Option (Bool) := if (a0.size : Int) > 1048576 then (some true) else ((spec_PatternConstant.f k a0).bind fun bt126 => ((impl_PatternConstant.f k a0).bind fun bt134 => ((laws_eqPattern.f k bt134.1 bt134.2.1 bt134.2.2.1 bt134.2.2.2.1 bt126.1 bt126.2.1 bt126.2.2.1 bt126.2.2.2.1).bind fun t142 => (if t142 = true then (laws_FnExactPatternConstant.j0 k a0 bt126.2.2.2.2 (bt134.2.2.2.2 != bt126.2.2.2.2) bt126.1 bt126.2.1 bt126.2.2.1 bt126.2.2.2.1 bt134.1 bt134.2.1 bt134.2.2.1 bt134.2.2.2.1) else (laws_FnExactPatternConstant.j0 k a0 bt126.2.2.2.2 true bt126.1 bt126.2.1 bt126.2.2.1 bt126.2.2.2.1 bt134.1 bt134.2.1 bt134.2.2.1 bt134.2.2.2.1)))))
set_option maxHeartbeats 8000000 in
set_option maxRecDepth 100000 in
theorem laws_FnExactPatternConstant.calls (k : Nat) (a0 : ByteArray) (r : Bool) (w : World) (h : laws_FnExactPatternConstant.f k a0 = some r) :
  Calls Try.prog 5 #[.string a0] w fun e w' => e = .returned (.bool r) ∧ Below w.heap.size w w' := by
 have hu41 := Try.underlying41
 have HB := Aside0.mk (Below.refl w.heap.size w)
 have H : (if (a0.size : Int) > 1048576 then (some true) else ((spec_PatternConstant.f k a0).bind fun bt126 => ((impl_PatternConstant.f k a0).bind fun bt134 => ((laws_eqPattern.f k bt134.1 bt134.2.1 bt134.2.2.1 bt134.2.2.2.1 bt126.1 bt126.2.1 bt126.2.2.1 bt126.2.2.2.1).bind fun t142 => (if t142 = true then (laws_FnExactPatternConstant.j0 k a0 bt126.2.2.2.2 (bt134.2.2.2.2 != bt126.2.2.2.2) bt126.1 bt126.2.1 bt126.2.2.1 bt126.2.2.2.1 bt134.1 bt134.2.1 bt134.2.2.1 bt134.2.2.2.1) else (laws_FnExactPatternConstant.j0 k a0 bt126.2.2.2.2 true bt126.1 bt126.2.1 bt126.2.2.1 bt126.2.2.2.1 bt134.1 bt134.2.1 bt134.2.2.1 bt134.2.2.2.1)))))) = some r := h
 clear h
 by_cases c2 : (a0.size : Int) > 1048576
 ·rw [if_pos c2] at H
  have c2b0 : decide (1048576 < (a0.size : Int)) = true := decide_eq_true c2
  have c2b1 : decide (1048576 < a0.size) = true := decide_eq_true (by omega)
  clear c2
  obtain rfl := Option.some.inj H
  go_enter Try.func5, Try.ntmps5
  go_wp2
  go_ret
  exact ⟨sq, sb⟩
 rw [if_neg c2] at H
 have c2b0 : decide (1048576 < (a0.size : Int)) = false := decide_eq_false c2
 have c2b1 : decide (1048576 < a0.size) = false := decide_eq_false (by omega)
 clear c2
 replace H := Option.bind_eq_some_iff.mp H
 obtain ⟨⟨t126, t127, t128, t129, t132⟩, A30, H⟩ := H
 replace H : ((impl_PatternConstant.f k a0).bind fun bt134 => ((laws_eqPattern.f k bt134.1 bt134.2.1 bt134.2.2.1 bt134.2.2.2.1 t126 t127 t128 t129).bind fun t142 => (if t142 = true then (laws_FnExactPatternConstant.j0 k a0 t132 (bt134.2.2.2.2 != t132) t126 t127 t128 t129 bt134.1 bt134.2.1 bt134.2.2.1 bt134.2.2.2.1) else (laws_FnExactPatternConstant.j0 k a0 t132 true t126 t127 t128 t129 bt134.1 bt134.2.1 bt134.2.2.1 bt134.2.2.2.1)))) = some r := H
 have A3 := Aside0.mk A30
 clear A30
 replace H := Option.bind_eq_some_iff.mp H
 obtain ⟨⟨t134, t135, t136, t137, t140⟩, A40, H⟩ := H
 replace H : ((laws_eqPattern.f k t134 t135 t136 t137 t126 t127 t128 t129).bind fun t142 => (if t142 = true then (laws_FnExactPatternConstant.j0 k a0 t132 (t140 != t132) t126 t127 t128 t129 t134 t135 t136 t137) else (laws_FnExactPatternConstant.j0 k a0 t132 true t126 t127 t128 t129 t134 t135 t136 t137))) = some r := H
 have A4 := Aside0.mk A40
 clear A40
 have HC5 := Aside0.mk H
 clear H
 go_enter Try.func5, Try.ntmps5
 go_upto_region 5 with (first | ((with_reducible refine gate_callee (f := 20) rfl ?_); refine sC (some 16) Try.func20 #[.string a0] (spec_PatternConstant.calls k a0 t126 t127 t128 t129 t132 _ A3.out) ?_; rintro e w6 ⟨v130, rfl, ho0, hb⟩; refine ⟨_, rfl, ?_⟩; have n0_ := Aside0.mk (Kd.R_lower ho0 (below_size (sH HB.out))); have n1_ := sB HB hb; clear HB; have HO131 := n0_; have HB := n1_; clear n0_ n1_; (try clear hb); (try clear hb2); (try clear hk); (try clear hi); (try clear ho0)) | ((with_reducible refine gate_dst (N := 3) rfl ?_); refine sV (N := 3) (cs := #[.int .i64 0, .int .i64 0, .string (⟨#[]⟩ : ByteArray), .slice none 0 0]) (t := 41) ?_; intro gb133 hg w7 hbox hb; have n0_ := Aside0.mk (Kd.R_below (Kd.R_elderB (sE HO131.out) gb133 (Nat.le_of_eq hg.symm)) hb); have n1_ := sB HB hb; have n2_ := Aside0.mk (hbox); have n3_ := sG HB hg; have n4_ := sG HB hg; clear HO131; clear HB; have HO131 := n0_; have HB := n1_; have BK133 := n2_; have GW133 := n3_; have GE133 := n4_; clear n0_ n1_ n2_ n3_ n4_; clear hb hbox hg; obtain ⟨hcz8_0, hcz8_1, hcz8_2, hcz8_3, hfz8_0, hfz8_1, hfz8_2, hfz8_3⟩ := cells4 BK133.out; obtain ⟨Ao9, co9, eo9⟩ := Kd.R_slice HO131.out; subst eo9) | ((with_reducible refine gate_callee (f := 21) rfl ?_); refine sC (some 21) Try.func21 #[.string a0] (impl_PatternConstant.calls k a0 t134 t135 t136 t137 t140 _ A4.out) ?_; rintro e w10 ⟨v138, rfl, ho0, hb⟩; refine ⟨_, rfl, ?_⟩; have n0_ := Aside0.mk (Kd.R_elder' (by (with_reducible repeat (first | apply Kd.R_alloc | apply Kd.R_drewN | apply Kd.R_drew)); exact (Kd.R_mono (Kd.R_far (p := ⟨gb133, 3, none⟩) (Kd.R_far (p := ⟨gb133, 2, none⟩) (Kd.R_far (p := ⟨gb133, 1, none⟩) (Kd.R_far (p := ⟨gb133, 0, none⟩) (Kd.R_mono HO131.out (fun k_ hk => (⟨hk, hk.2⟩ : _ ∧ k_ ≠ gb133))) (fun _ hk => hk.2) (.int .i64 t126)) (fun _ hk => hk.2) (.int .i64 t127)) (fun _ hk => hk.2) (.string t128)) (fun _ hk => hk.2) (.slice Ao9 t129.length co9)) (fun _ h_ => h_.1))) (Kd.R_base ho0) hb); have n1_ := Aside0.mk (Kd.R_lower (Kd.R_newB (Kd.R_new' ho0 (Kd.R_lt (by (with_reducible repeat (first | apply Kd.R_alloc | apply Kd.R_drewN | apply Kd.R_drew)); exact (Kd.R_mono (Kd.R_far (p := ⟨gb133, 3, none⟩) (Kd.R_far (p := ⟨gb133, 2, none⟩) (Kd.R_far (p := ⟨gb133, 1, none⟩) (Kd.R_far (p := ⟨gb133, 0, none⟩) (Kd.R_mono HO131.out (fun k_ hk => (⟨hk, hk.2⟩ : _ ∧ k_ ≠ gb133))) (fun _ hk => hk.2) (.int .i64 t126)) (fun _ hk => hk.2) (.int .i64 t127)) (fun _ hk => hk.2) (.string t128)) (fun _ hk => hk.2) (.slice Ao9 t129.length co9)) (fun _ h_ => h_.1))))) (g := gb133) (o := .cells #[.int .i64 t126, .int .i64 t127, .string t128, .slice Ao9 t129.length co9] 41 (0, 0)) (by exact sP4 (sT BK133.out))) (below_size (by repeat (first | (with_reducible first | exact HB.out | apply below_alloc | apply pw_below_drewN | apply below_drew1 | refine below_set ?_ GE133.out) | exact HB.out)))); have n2_ := Aside0.mk (blk_below (g := gb133) (o := .cells #[.int .i64 t126, .int .i64 t127, .string t128, .slice Ao9 t129.length co9] 41 (0, 0)) (by exact sP4 (sT BK133.out)) hb); have n3_ := sB HB hb; clear HO131; clear BK133; clear HB; have HO131 := n0_; have HO139 := n1_; have BK133 := n2_; have HB := n3_; clear n0_ n1_ n2_ n3_; (try clear hb); (try clear hb2); (try clear hk); (try clear hi); (try clear ho0)) | ((with_reducible refine gate_dst (N := 5) rfl ?_); refine sV (N := 5) (cs := #[.int .i64 0, .int .i64 0, .string (⟨#[]⟩ : ByteArray), .slice none 0 0]) (t := 41) ?_; intro gb141 hg w11 hbox hb; have n0_ := Aside0.mk (Kd.R_below (Kd.R_elderB (sE HO131.out) gb141 (Nat.le_of_eq hg.symm)) hb); have n1_ := Aside0.mk (Kd.R_below (Kd.R_elderB (sE HO139.out) gb141 (Nat.le_of_eq hg.symm)) hb); have n2_ := sK BK133 hb; have n3_ := sB HB hb; have n4_ := Aside0.mk (hbox); have n5_ := sG HB hg; have n6_ := sG HB hg; have n7_ := sN BK133 hg; have n8_ := sM BK133 hg; clear HO131; clear HO139; clear BK133; clear HB; have HO131 := n0_; have HO139 := n1_; have BK133 := n2_; have HB := n3_; have BK141 := n4_; have GW141 := n5_; have GE141 := n6_; have NB133_141 := n7_; have NB141_133 := n8_; clear n0_ n1_ n2_ n3_ n4_ n5_ n6_ n7_ n8_; clear hb hbox hg; have hnb12 := NB141_133.out; have hnc12 := NB133_141.out; obtain ⟨hcz13_0, hcz13_1, hcz13_2, hcz13_3, hfz13_0, hfz13_1, hfz13_2, hfz13_3⟩ := cells4 BK141.out; obtain ⟨Ao14, co14, eo14⟩ := Kd.R_slice HO139.out; subst eo14))
 (try simp only [Act.put, List.setIfInBounds_toArray, List.set_cons_zero, List.set_cons_succ])
 go_cut [32] (fun v32 wc => ∃ (kq : Nat) (x32_4 : Bool), v32 = .bool x32_4 ∧ Aside0 (laws_FnExactPatternConstant.j0 kq a0 t132 x32_4 t126 t127 t128 t129 t134 t135 t136 t137 = some r) ∧ Aside0 (kq ≤ k) ∧ Aside0 (Kd.R k41 41 wc w.heap.size (fun k_ => some k_ ≠ ((.slice Ao14 t137.length co14) : Value).ownBlock ∧ k_ ≠ gb133 ∧ k_ ≠ gb141) (.slice Ao9 t129.length co9) t129) ∧ Aside0 (Kd.R k41 41 wc w.heap.size (fun k_ => some k_ ≠ ((.slice Ao9 t129.length co9) : Value).ownBlock ∧ k_ ≠ gb133 ∧ k_ ≠ gb141) (.slice Ao14 t137.length co14) t137) ∧ Aside0 (wc.heap[gb133]? = some (.cells #[.int .i64 t126, .int .i64 t127, .string t128, (.slice Ao9 t129.length co9)] 41 (0, 0))) ∧ Aside0 (wc.heap[gb141]? = some (.cells #[.int .i64 t134, .int .i64 t135, .string t136, (.slice Ao14 t137.length co14)] 41 (0, 0))) ∧ Aside0 (Below w.heap.size w wc))
 case first =>
  have H := HC5.out
  clear HC5
  obtain ⟨t142, A15, H⟩ := sO H
  by_cases c16 : t142 = true
  ·subst c16
   rewrite [if_pos rfl] at H
   have H' := Aside0.mk H
   clear H
   have hnb17 := NB141_133.out
   have hnc17 := NB133_141.out
   obtain ⟨hcz18_0, hcz18_1, hcz18_2, hcz18_3, hfz18_0, hfz18_1, hfz18_2, hfz18_3⟩ := cells4 BK141.out
   obtain ⟨hcz19_0, hcz19_1, hcz19_2, hcz19_3, hfz19_0, hfz19_1, hfz19_2, hfz19_3⟩ := cells4 BK133.out
   go_wp2_with (first | ((with_reducible refine gate_callee (f := 22) rfl ?_); refine sC (some 26) Try.func22 #[.agg #[.int .i64 t134, .int .i64 t135, .string t136, .slice Ao14 t137.length co14], .agg #[.int .i64 t126, .int .i64 t127, .string t128, .slice Ao9 t129.length co9]] (laws_eqPattern.calls k t134 t135 t136 _ _ t137 t126 t127 t128 _ _ t129 true _ ?side1 ?side2 ?side3 ?side4 A15.out) ?_; (case side1 => refine (Kd.R_reads' (e := 41) (base := w.heap.size) (ok := fun k_ => (((True ∧ some k_ ≠ (.slice Ao9 t129.length co9 : Value).ownBlock) ∧ k_ ≠ gb133) ∧ k_ ≠ gb141)) (n := t137.length) (c := co14) ?_).2.2; exact (by (with_reducible repeat (first | apply Kd.R_alloc | apply Kd.R_drewN | apply Kd.R_drew)); exact (Kd.R_mono (Kd.R_far (p := ⟨gb141, 3, none⟩) (Kd.R_far (p := ⟨gb141, 2, none⟩) (Kd.R_far (p := ⟨gb141, 1, none⟩) (Kd.R_far (p := ⟨gb141, 0, none⟩) (Kd.R_mono HO139.out (fun k_ hk => (⟨hk, hk.2⟩ : _ ∧ k_ ≠ gb141))) (fun _ hk => hk.2) (.int .i64 t134)) (fun _ hk => hk.2) (.int .i64 t135)) (fun _ hk => hk.2) (.string t136)) (fun _ hk => hk.2) (.slice Ao14 t137.length co14)) (fun _ h_ => h_.1)))); (case side2 => exact (Kd.R_reads' HO139.out).2.1); (case side3 => refine (Kd.R_reads' (e := 41) (base := w.heap.size) (ok := fun k_ => (((True ∧ k_ ≠ gb133) ∧ some k_ ≠ (.slice Ao14 t137.length co14 : Value).ownBlock) ∧ k_ ≠ gb141)) (n := t129.length) (c := co9) ?_).2.2; exact (by (with_reducible repeat (first | apply Kd.R_alloc | apply Kd.R_drewN | apply Kd.R_drew)); exact (Kd.R_mono (Kd.R_far (p := ⟨gb141, 3, none⟩) (Kd.R_far (p := ⟨gb141, 2, none⟩) (Kd.R_far (p := ⟨gb141, 1, none⟩) (Kd.R_far (p := ⟨gb141, 0, none⟩) (Kd.R_mono HO131.out (fun k_ hk => (⟨hk, hk.2⟩ : _ ∧ k_ ≠ gb141))) (fun _ hk => hk.2) (.int .i64 t134)) (fun _ hk => hk.2) (.int .i64 t135)) (fun _ hk => hk.2) (.string t136)) (fun _ hk => hk.2) (.slice Ao14 t137.length co14)) (fun _ h_ => h_.1)))); (case side4 => exact (Kd.R_reads' HO131.out).2.1); rintro e w20 ⟨rfl, hb⟩; refine ⟨_, rfl, ?_⟩; have n0_ := Aside0.mk (Kd.R_below (by (with_reducible repeat (first | apply Kd.R_alloc | apply Kd.R_drewN | apply Kd.R_drew)); exact (Kd.R_mono (Kd.R_far (p := ⟨gb141, 3, none⟩) (Kd.R_far (p := ⟨gb141, 2, none⟩) (Kd.R_far (p := ⟨gb141, 1, none⟩) (Kd.R_far (p := ⟨gb141, 0, none⟩) (Kd.R_mono HO131.out (fun k_ hk => (⟨hk, hk.2⟩ : _ ∧ k_ ≠ gb141))) (fun _ hk => hk.2) (.int .i64 t134)) (fun _ hk => hk.2) (.int .i64 t135)) (fun _ hk => hk.2) (.string t136)) (fun _ hk => hk.2) (.slice Ao14 t137.length co14)) (fun _ h_ => h_.1))) hb); have n1_ := Aside0.mk (Kd.R_below (by (with_reducible repeat (first | apply Kd.R_alloc | apply Kd.R_drewN | apply Kd.R_drew)); exact (Kd.R_mono (Kd.R_far (p := ⟨gb141, 3, none⟩) (Kd.R_far (p := ⟨gb141, 2, none⟩) (Kd.R_far (p := ⟨gb141, 1, none⟩) (Kd.R_far (p := ⟨gb141, 0, none⟩) (Kd.R_mono HO139.out (fun k_ hk => (⟨hk, hk.2⟩ : _ ∧ k_ ≠ gb141))) (fun _ hk => hk.2) (.int .i64 t134)) (fun _ hk => hk.2) (.int .i64 t135)) (fun _ hk => hk.2) (.string t136)) (fun _ hk => hk.2) (.slice Ao14 t137.length co14)) (fun _ h_ => h_.1))) hb); have n2_ := Aside0.mk (blk_below (g := gb133) (o := .cells #[.int .i64 t126, .int .i64 t127, .string t128, .slice Ao9 t129.length co9] 41 (0, 0)) (by (with_reducible repeat (first | refine blk_drewN ?_ _ | refine blk_drew ?_ | refine blk_alloc ?_ _)); refine blk_far ?_ NB133_141.out _; (with_reducible repeat (first | refine blk_drewN ?_ _ | refine blk_drew ?_ | refine blk_alloc ?_ _)); refine blk_far ?_ NB133_141.out _; (with_reducible repeat (first | refine blk_drewN ?_ _ | refine blk_drew ?_ | refine blk_alloc ?_ _)); refine blk_far ?_ NB133_141.out _; (with_reducible repeat (first | refine blk_drewN ?_ _ | refine blk_drew ?_ | refine blk_alloc ?_ _)); refine blk_far ?_ NB133_141.out _; exact sT BK133.out) hb); have n3_ := Aside0.mk (blk_below (g := gb141) (o := .cells #[.int .i64 t134, .int .i64 t135, .string t136, .slice Ao14 t137.length co14] 41 (0, 0)) (by exact sP4 (sT BK141.out)) hb); have n4_ := sB HB hb; clear HO131; clear HO139; clear BK133; clear BK141; clear HB; have HO131 := n0_; have HO139 := n1_; have BK133 := n2_; have BK141 := n3_; have HB := n4_; clear n0_ n1_ n2_ n3_ n4_; (try clear hb); (try clear hb2); (try clear hk); (try clear hi)))
   go_meet
   case rel => exact ⟨_, ((t140 != t132)), sr, H', ⟨by first | omega | exact Nat.le_refl _⟩, ⟨by (with_reducible repeat (first | apply Kd.R_alloc | apply Kd.R_drewN | apply Kd.R_drew)); exact Kd.R_mono HO131.out (fun _ hk => ⟨hk.1.2, ⟨hk.1.1.2, hk.2⟩⟩)⟩, ⟨by (with_reducible repeat (first | apply Kd.R_alloc | apply Kd.R_drewN | apply Kd.R_drew)); exact Kd.R_mono HO139.out (fun _ hk => ⟨hk.1.1.2, ⟨hk.1.2, hk.2⟩⟩)⟩, ⟨by exact sT BK133.out⟩, ⟨by exact sT BK141.out⟩, ⟨sb⟩⟩
  replace c16 := Bool.eq_false_iff.mpr c16
  subst c16
  rewrite [if_neg (show ¬ (false = true) by decide)] at H
  have H' := Aside0.mk H
  clear H
  have hnb21 := NB141_133.out
  have hnc21 := NB133_141.out
  obtain ⟨hcz22_0, hcz22_1, hcz22_2, hcz22_3, hfz22_0, hfz22_1, hfz22_2, hfz22_3⟩ := cells4 BK141.out
  obtain ⟨hcz23_0, hcz23_1, hcz23_2, hcz23_3, hfz23_0, hfz23_1, hfz23_2, hfz23_3⟩ := cells4 BK133.out
  go_wp2_with (first | ((with_reducible refine gate_callee (f := 22) rfl ?_); refine sC (some 26) Try.func22 #[.agg #[.int .i64 t134, .int .i64 t135, .string t136, .slice Ao14 t137.length co14], .agg #[.int .i64 t126, .int .i64 t127, .string t128, .slice Ao9 t129.length co9]] (laws_eqPattern.calls k t134 t135 t136 _ _ t137 t126 t127 t128 _ _ t129 false _ ?side1 ?side2 ?side3 ?side4 A15.out) ?_; (case side1 => refine (Kd.R_reads' (e := 41) (base := w.heap.size) (ok := fun k_ => (((True ∧ some k_ ≠ (.slice Ao9 t129.length co9 : Value).ownBlock) ∧ k_ ≠ gb133) ∧ k_ ≠ gb141)) (n := t137.length) (c := co14) ?_).2.2; exact (by (with_reducible repeat (first | apply Kd.R_alloc | apply Kd.R_drewN | apply Kd.R_drew)); exact (Kd.R_mono (Kd.R_far (p := ⟨gb141, 3, none⟩) (Kd.R_far (p := ⟨gb141, 2, none⟩) (Kd.R_far (p := ⟨gb141, 1, none⟩) (Kd.R_far (p := ⟨gb141, 0, none⟩) (Kd.R_mono HO139.out (fun k_ hk => (⟨hk, hk.2⟩ : _ ∧ k_ ≠ gb141))) (fun _ hk => hk.2) (.int .i64 t134)) (fun _ hk => hk.2) (.int .i64 t135)) (fun _ hk => hk.2) (.string t136)) (fun _ hk => hk.2) (.slice Ao14 t137.length co14)) (fun _ h_ => h_.1)))); (case side2 => exact (Kd.R_reads' HO139.out).2.1); (case side3 => refine (Kd.R_reads' (e := 41) (base := w.heap.size) (ok := fun k_ => (((True ∧ k_ ≠ gb133) ∧ some k_ ≠ (.slice Ao14 t137.length co14 : Value).ownBlock) ∧ k_ ≠ gb141)) (n := t129.length) (c := co9) ?_).2.2; exact (by (with_reducible repeat (first | apply Kd.R_alloc | apply Kd.R_drewN | apply Kd.R_drew)); exact (Kd.R_mono (Kd.R_far (p := ⟨gb141, 3, none⟩) (Kd.R_far (p := ⟨gb141, 2, none⟩) (Kd.R_far (p := ⟨gb141, 1, none⟩) (Kd.R_far (p := ⟨gb141, 0, none⟩) (Kd.R_mono HO131.out (fun k_ hk => (⟨hk, hk.2⟩ : _ ∧ k_ ≠ gb141))) (fun _ hk => hk.2) (.int .i64 t134)) (fun _ hk => hk.2) (.int .i64 t135)) (fun _ hk => hk.2) (.string t136)) (fun _ hk => hk.2) (.slice Ao14 t137.length co14)) (fun _ h_ => h_.1)))); (case side4 => exact (Kd.R_reads' HO131.out).2.1); rintro e w24 ⟨rfl, hb⟩; refine ⟨_, rfl, ?_⟩; have n0_ := Aside0.mk (Kd.R_below (by (with_reducible repeat (first | apply Kd.R_alloc | apply Kd.R_drewN | apply Kd.R_drew)); exact (Kd.R_mono (Kd.R_far (p := ⟨gb141, 3, none⟩) (Kd.R_far (p := ⟨gb141, 2, none⟩) (Kd.R_far (p := ⟨gb141, 1, none⟩) (Kd.R_far (p := ⟨gb141, 0, none⟩) (Kd.R_mono HO131.out (fun k_ hk => (⟨hk, hk.2⟩ : _ ∧ k_ ≠ gb141))) (fun _ hk => hk.2) (.int .i64 t134)) (fun _ hk => hk.2) (.int .i64 t135)) (fun _ hk => hk.2) (.string t136)) (fun _ hk => hk.2) (.slice Ao14 t137.length co14)) (fun _ h_ => h_.1))) hb); have n1_ := Aside0.mk (Kd.R_below (by (with_reducible repeat (first | apply Kd.R_alloc | apply Kd.R_drewN | apply Kd.R_drew)); exact (Kd.R_mono (Kd.R_far (p := ⟨gb141, 3, none⟩) (Kd.R_far (p := ⟨gb141, 2, none⟩) (Kd.R_far (p := ⟨gb141, 1, none⟩) (Kd.R_far (p := ⟨gb141, 0, none⟩) (Kd.R_mono HO139.out (fun k_ hk => (⟨hk, hk.2⟩ : _ ∧ k_ ≠ gb141))) (fun _ hk => hk.2) (.int .i64 t134)) (fun _ hk => hk.2) (.int .i64 t135)) (fun _ hk => hk.2) (.string t136)) (fun _ hk => hk.2) (.slice Ao14 t137.length co14)) (fun _ h_ => h_.1))) hb); have n2_ := Aside0.mk (blk_below (g := gb133) (o := .cells #[.int .i64 t126, .int .i64 t127, .string t128, .slice Ao9 t129.length co9] 41 (0, 0)) (by (with_reducible repeat (first | refine blk_drewN ?_ _ | refine blk_drew ?_ | refine blk_alloc ?_ _)); refine blk_far ?_ NB133_141.out _; (with_reducible repeat (first | refine blk_drewN ?_ _ | refine blk_drew ?_ | refine blk_alloc ?_ _)); refine blk_far ?_ NB133_141.out _; (with_reducible repeat (first | refine blk_drewN ?_ _ | refine blk_drew ?_ | refine blk_alloc ?_ _)); refine blk_far ?_ NB133_141.out _; (with_reducible repeat (first | refine blk_drewN ?_ _ | refine blk_drew ?_ | refine blk_alloc ?_ _)); refine blk_far ?_ NB133_141.out _; exact sT BK133.out) hb); have n3_ := Aside0.mk (blk_below (g := gb141) (o := .cells #[.int .i64 t134, .int .i64 t135, .string t136, .slice Ao14 t137.length co14] 41 (0, 0)) (by exact sP4 (sT BK141.out)) hb); have n4_ := sB HB hb; clear HO131; clear HO139; clear BK133; clear BK141; clear HB; have HO131 := n0_; have HO139 := n1_; have BK133 := n2_; have BK141 := n3_; have HB := n4_; clear n0_ n1_ n2_ n3_ n4_; (try clear hb); (try clear hb2); (try clear hk); (try clear hi)))
  go_meet
  case rel => exact ⟨_, (true), sr, H', ⟨by first | omega | exact Nat.le_refl _⟩, ⟨by (with_reducible repeat (first | apply Kd.R_alloc | apply Kd.R_drewN | apply Kd.R_drew)); exact Kd.R_mono HO131.out (fun _ hk => ⟨hk.1.2, ⟨hk.1.1.2, hk.2⟩⟩)⟩, ⟨by (with_reducible repeat (first | apply Kd.R_alloc | apply Kd.R_drewN | apply Kd.R_drew)); exact Kd.R_mono HO139.out (fun _ hk => ⟨hk.1.1.2, ⟨hk.1.2, hk.2⟩⟩)⟩, ⟨by exact sT BK133.out⟩, ⟨by exact sT BK141.out⟩, ⟨sb⟩⟩
 case rest =>
  clear HC5
  try clear c1
  try clear c2
  try clear c2b0
  try clear c2b1
  try clear p2
  try clear c5
  try clear c12
  try clear c16
  try clear c17
  try clear c20
  try clear c21
  try clear c22
  try clear hcz13_0
  try clear hcz13_1
  try clear hcz13_2
  try clear hcz13_3
  try clear hcz18_0
  try clear hcz18_1
  try clear hcz18_2
  try clear hcz18_3
  try clear hcz19_0
  try clear hcz19_1
  try clear hcz19_2
  try clear hcz19_3
  try clear hcz22_0
  try clear hcz22_1
  try clear hcz22_2
  try clear hcz22_3
  try clear hcz23_0
  try clear hcz23_1
  try clear hcz23_2
  try clear hcz23_3
  try clear hcz8_0
  try clear hcz8_1
  try clear hcz8_2
  try clear hcz8_3
  try clear hfz13_0
  try clear hfz13_1
  try clear hfz13_2
  try clear hfz13_3
  try clear hfz18_0
  try clear hfz18_1
  try clear hfz18_2
  try clear hfz18_3
  try clear hfz19_0
  try clear hfz19_1
  try clear hfz19_2
  try clear hfz19_3
  try clear hfz22_0
  try clear hfz22_1
  try clear hfz22_2
  try clear hfz22_3
  try clear hfz23_0
  try clear hfz23_1
  try clear hfz23_2
  try clear hfz23_3
  try clear hfz8_0
  try clear hfz8_1
  try clear hfz8_2
  try clear hfz8_3
  obtain ⟨kq, x32_4, rfl, HA, HJ4, HO_134003, HO_142003, BK133, BK141, HB⟩ := hcut
  cases kq with
  | zero => exact absurd HA.out (by simp [laws_FnExactPatternConstant.j0])
  | succ kj4 =>
   have H := HA.out
   clear HA
   simp only [laws_FnExactPatternConstant.j0] at H
   by_cases c25 : x32_4 = true
   ·subst c25
    rewrite [if_pos rfl] at H
    obtain rfl := Option.some.inj H
    go_wp2
    go_ret
    exact ⟨sq, sb⟩
   replace c25 := Bool.eq_false_iff.mpr c25
   subst c25
   rewrite [if_neg (show ¬ (false = true) by decide)] at H
   obtain ⟨t143, A26, H⟩ := sO H
   obtain ⟨t144, A27, H⟩ := sO H
   by_cases c28 : t144 < 0
   ·rw [if_pos c28] at H
    have c28b0 := decide_eq_true c28
    clear c28
    obtain rfl := Option.some.inj H
    have hnb29 := NB141_133.out
    have hnc29 := NB133_141.out
    obtain ⟨hcz30_0, hcz30_1, hcz30_2, hcz30_3, hfz30_0, hfz30_1, hfz30_2, hfz30_3⟩ := cells4 BK141.out
    go_wp2_with (first | ((with_reducible refine gate_callee (f := 23) rfl ?_); refine sC (some 35) Try.func23 #[.agg #[.int .i64 t134, .int .i64 t135, .string t136, .slice Ao14 t137.length co14], .int .i64 1] (laws_markPattern.calls t134 t135 t136 _ _ t137 1 t143 _ ?side1 ?side2 A26.out) ?_; (case side1 => exact sD ((Kd.R_reads' HO_142003.out).2.2)); (case side2 => exact (Kd.R_reads' HO_142003.out).2.1); rintro e w31 ⟨rfl, hb⟩; refine ⟨_, rfl, ?_⟩; have n0_ := Aside0.mk (Kd.R_below (sE HO_134003.out) hb); have n1_ := Aside0.mk (Kd.R_below (sE HO_142003.out) hb); have n2_ := sK BK133 hb; have n3_ := sK BK141 hb; have n4_ := sB HB hb; clear HO_134003; clear HO_142003; clear BK133; clear BK141; clear HB; have HO_134003 := n0_; have HO_142003 := n1_; have BK133 := n2_; have BK141 := n3_; have HB := n4_; clear n0_ n1_ n2_ n3_ n4_; (try clear hb); (try clear hb2); (try clear hk); (try clear hi); obtain ⟨hcz32_0, hcz32_1, hcz32_2, hcz32_3, hfz32_0, hfz32_1, hfz32_2, hfz32_3⟩ := cells4 BK141.out) | ((with_reducible refine gate_callee (f := 24) rfl ?_); refine sC (some 38) Try.func24 #[.agg #[.int .i64 t134, .int .i64 t135, .string t136, .slice Ao14 t137.length co14], .int .i64 1] (laws_heldPattern.calls t134 t135 t136 _ _ t137 1 t144 _ ?side1 ?side2 A27.out) ?_; (case side1 => exact sD ((Kd.R_reads' HO_142003.out).2.2)); (case side2 => exact (Kd.R_reads' HO_142003.out).2.1); rintro e w33 ⟨rfl, hb⟩; refine ⟨_, rfl, ?_⟩; have n0_ := Aside0.mk (Kd.R_below (sE HO_134003.out) hb); have n1_ := Aside0.mk (Kd.R_below (sE HO_142003.out) hb); have n2_ := sK BK133 hb; have n3_ := sK BK141 hb; have n4_ := sB HB hb; clear HO_134003; clear HO_142003; clear BK133; clear BK141; clear HB; have HO_134003 := n0_; have HO_142003 := n1_; have BK133 := n2_; have BK141 := n3_; have HB := n4_; clear n0_ n1_ n2_ n3_ n4_; (try clear hb); (try clear hb2); (try clear hk); (try clear hi)))
    go_ret
    exact ⟨sq, sb⟩
   rw [if_neg c28] at H
   have c28b0 := decide_eq_false c28
   clear c28
   by_cases c34 : t144 = t143
   ·rw [if_pos c34] at H
    have c34b0 : (t144 == t143) = true := beq_iff_eq.mpr c34
    have c34b1 : (t144 != t143) = false := bne_eq_false_iff_eq.mpr c34
    clear c34
    replace H := Option.bind_eq_some_iff.mp H
    obtain ⟨⟨t145, t146, t147, t148, t151⟩, A350, H⟩ := H
    replace H : ((laws_eqPattern.f kj4 t145 t146 t147 t148 t126 t127 t128 t129).bind fun t153 => (if t153 = true then (laws_FnExactPatternConstant.j1 kj4 t143 (t151 != t132) t134 t135 t136 t137) else (laws_FnExactPatternConstant.j1 kj4 t143 true t134 t135 t136 t137))) = some r := H
    have A35 := Aside0.mk A350
    clear A350
    have HC36 := Aside0.mk H
    clear H
    have hnb37 := NB141_133.out
    have hnc37 := NB133_141.out
    obtain ⟨hcz38_0, hcz38_1, hcz38_2, hcz38_3, hfz38_0, hfz38_1, hfz38_2, hfz38_3⟩ := cells4 BK141.out
    go_upto_region 16 with (first | ((with_reducible refine gate_callee (f := 23) rfl ?_); refine sC (some 35) Try.func23 #[.agg #[.int .i64 t134, .int .i64 t135, .string t136, .slice Ao14 t137.length co14], .int .i64 1] (laws_markPattern.calls t134 t135 t136 _ _ t137 1 t143 _ ?side1 ?side2 A26.out) ?_; (case side1 => exact sD ((Kd.R_reads' HO_142003.out).2.2)); (case side2 => exact (Kd.R_reads' HO_142003.out).2.1); rintro e w39 ⟨rfl, hb⟩; refine ⟨_, rfl, ?_⟩; have n0_ := Aside0.mk (Kd.R_below (sE HO_134003.out) hb); have n1_ := Aside0.mk (Kd.R_below (sE HO_142003.out) hb); have n2_ := sK BK133 hb; have n3_ := sK BK141 hb; have n4_ := sB HB hb; clear HO_134003; clear HO_142003; clear BK133; clear BK141; clear HB; have HO_134003 := n0_; have HO_142003 := n1_; have BK133 := n2_; have BK141 := n3_; have HB := n4_; clear n0_ n1_ n2_ n3_ n4_; (try clear hb); (try clear hb2); (try clear hk); (try clear hi); obtain ⟨hcz40_0, hcz40_1, hcz40_2, hcz40_3, hfz40_0, hfz40_1, hfz40_2, hfz40_3⟩ := cells4 BK141.out) | ((with_reducible refine gate_callee (f := 24) rfl ?_); refine sC (some 38) Try.func24 #[.agg #[.int .i64 t134, .int .i64 t135, .string t136, .slice Ao14 t137.length co14], .int .i64 1] (laws_heldPattern.calls t134 t135 t136 _ _ t137 1 t144 _ ?side1 ?side2 A27.out) ?_; (case side1 => exact sD ((Kd.R_reads' HO_142003.out).2.2)); (case side2 => exact (Kd.R_reads' HO_142003.out).2.1); rintro e w41 ⟨rfl, hb⟩; refine ⟨_, rfl, ?_⟩; have n0_ := Aside0.mk (Kd.R_below (sE HO_134003.out) hb); have n1_ := Aside0.mk (Kd.R_below (sE HO_142003.out) hb); have n2_ := sK BK133 hb; have n3_ := sK BK141 hb; have n4_ := sB HB hb; clear HO_134003; clear HO_142003; clear BK133; clear BK141; clear HB; have HO_134003 := n0_; have HO_142003 := n1_; have BK133 := n2_; have BK141 := n3_; have HB := n4_; clear n0_ n1_ n2_ n3_ n4_; (try clear hb); (try clear hb2); (try clear hk); (try clear hi)) | ((with_reducible refine gate_callee (f := 21) rfl ?_); refine sC (some 46) Try.func21 #[.string a0] (impl_PatternConstant.calls kj4 a0 t145 t146 t147 t148 t151 _ A35.out) ?_; rintro e w42 ⟨v149, rfl, ho0, hb⟩; refine ⟨_, rfl, ?_⟩; have n0_ := Aside0.mk (Kd.R_elder' (sE HO_134003.out) (Kd.R_base ho0) hb); have n1_ := Aside0.mk (Kd.R_elder' (sE HO_142003.out) (Kd.R_base ho0) hb); have n2_ := Aside0.mk (Kd.R_lower (Kd.R_newB (Kd.R_newB (Kd.R_new' (Kd.R_new' ho0 (Kd.R_lt (sE HO_134003.out))) (Kd.R_lt (sE HO_142003.out))) (g := gb133) (o := .cells #[.int .i64 t126, .int .i64 t127, .string t128, .slice Ao9 t129.length co9] 41 (0, 0)) (sT BK133.out)) (g := gb141) (o := .cells #[.int .i64 t134, .int .i64 t135, .string t136, .slice Ao14 t137.length co14] 41 (0, 0)) (sT BK141.out)) (below_size (by repeat (first | (with_reducible first | exact HB.out | apply below_alloc | apply pw_below_drewN | apply below_drew1 | refine below_set ?_ GE133.out | refine below_set ?_ GE141.out) | exact HB.out)))); have n3_ := sK BK133 hb; have n4_ := sK BK141 hb; have n5_ := sB HB hb; clear HO_134003; clear HO_142003; clear BK133; clear BK141; clear HB; have HO_134003 := n0_; have HO_142003 := n1_; have HO150 := n2_; have BK133 := n3_; have BK141 := n4_; have HB := n5_; clear n0_ n1_ n2_ n3_ n4_ n5_; (try clear hb); (try clear hb2); (try clear hk); (try clear hi); (try clear ho0)) | ((with_reducible refine gate_dst (N := 9) rfl ?_); refine sV (N := 9) (cs := #[.int .i64 0, .int .i64 0, .string (⟨#[]⟩ : ByteArray), .slice none 0 0]) (t := 41) ?_; intro gb152 hg w43 hbox hb; have n0_ := Aside0.mk (Kd.R_below (Kd.R_elderB (sE HO_134003.out) gb152 (Nat.le_of_eq hg.symm)) hb); have n1_ := Aside0.mk (Kd.R_below (Kd.R_elderB (sE HO_142003.out) gb152 (Nat.le_of_eq hg.symm)) hb); have n2_ := Aside0.mk (Kd.R_below (Kd.R_elderB (sE HO150.out) gb152 (Nat.le_of_eq hg.symm)) hb); have n3_ := sK BK133 hb; have n4_ := sK BK141 hb; have n5_ := sB HB hb; have n6_ := Aside0.mk (hbox); have n7_ := sG HB hg; have n8_ := sG HB hg; have n9_ := sN BK133 hg; have n10_ := sM BK133 hg; have n11_ := sN BK141 hg; have n12_ := sM BK141 hg; clear HO_134003; clear HO_142003; clear HO150; clear BK133; clear BK141; clear HB; have HO_134003 := n0_; have HO_142003 := n1_; have HO150 := n2_; have BK133 := n3_; have BK141 := n4_; have HB := n5_; have BK152 := n6_; have GW152 := n7_; have GE152 := n8_; have NB133_152 := n9_; have NB152_133 := n10_; have NB141_152 := n11_; have NB152_141 := n12_; clear n0_ n1_ n2_ n3_ n4_ n5_ n6_ n7_ n8_ n9_ n10_ n11_ n12_; clear hb hbox hg; have hnb44 := NB152_133.out; have hnc44 := NB133_152.out; have hnb45 := NB152_141.out; have hnc45 := NB141_152.out; obtain ⟨hcz46_0, hcz46_1, hcz46_2, hcz46_3, hfz46_0, hfz46_1, hfz46_2, hfz46_3⟩ := cells4 BK152.out; obtain ⟨Ao47, co47, eo47⟩ := Kd.R_slice HO150.out; subst eo47))
    (try simp only [Act.put, List.setIfInBounds_toArray, List.set_cons_zero, List.set_cons_succ])
    go_cut [57] (fun v57 wc => ∃ (kq : Nat) (x57_35 : Bool), v57 = .bool x57_35 ∧ Aside0 (laws_FnExactPatternConstant.j1 kq t143 x57_35 t134 t135 t136 t137 = some r) ∧ Aside0 (kq ≤ kj4) ∧ Aside0 (Kd.R k41 41 wc w.heap.size (fun k_ => some k_ ≠ ((.slice Ao14 t137.length co14) : Value).ownBlock ∧ some k_ ≠ ((.slice Ao47 t148.length co47) : Value).ownBlock ∧ k_ ≠ gb133 ∧ k_ ≠ gb141 ∧ k_ ≠ gb152) (.slice Ao9 t129.length co9) t129) ∧ Aside0 (Kd.R k41 41 wc w.heap.size (fun k_ => some k_ ≠ ((.slice Ao9 t129.length co9) : Value).ownBlock ∧ some k_ ≠ ((.slice Ao47 t148.length co47) : Value).ownBlock ∧ k_ ≠ gb133 ∧ k_ ≠ gb141 ∧ k_ ≠ gb152) (.slice Ao14 t137.length co14) t137) ∧ Aside0 (Kd.R k41 41 wc w.heap.size (fun k_ => some k_ ≠ ((.slice Ao9 t129.length co9) : Value).ownBlock ∧ some k_ ≠ ((.slice Ao14 t137.length co14) : Value).ownBlock ∧ k_ ≠ gb133 ∧ k_ ≠ gb141 ∧ k_ ≠ gb152) (.slice Ao47 t148.length co47) t148) ∧ Aside0 (wc.heap[gb133]? = some (.cells #[.int .i64 t126, .int .i64 t127, .string t128, (.slice Ao9 t129.length co9)] 41 (0, 0))) ∧ Aside0 (wc.heap[gb141]? = some (.cells #[.int .i64 t134, .int .i64 t135, .string t136, (.slice Ao14 t137.length co14)] 41 (0, 0))) ∧ Aside0 (wc.heap[gb152]? = some (.cells #[.int .i64 t145, .int .i64 t146, .string t147, (.slice Ao47 t148.length co47)] 41 (0, 0))) ∧ Aside0 (Below w.heap.size w wc))
    case first =>
     have H := HC36.out
     clear HC36
     obtain ⟨t153, A48, H⟩ := sO H
     by_cases c49 : t153 = true
     ·subst c49
      rewrite [if_pos rfl] at H
      have H' := Aside0.mk H
      clear H
      have hnb50 := NB152_133.out
      have hnc50 := NB133_152.out
      have hnb51 := NB152_141.out
      have hnc51 := NB141_152.out
      obtain ⟨hcz52_0, hcz52_1, hcz52_2, hcz52_3, hfz52_0, hfz52_1, hfz52_2, hfz52_3⟩ := cells4 BK152.out
      have hnb53 := NB133_141.out
      have hnc53 := NB141_133.out
      obtain ⟨hcz54_0, hcz54_1, hcz54_2, hcz54_3, hfz54_0, hfz54_1, hfz54_2, hfz54_3⟩ := cells4 BK133.out
      go_wp2_with (first | ((with_reducible refine gate_callee (f := 22) rfl ?_); refine sC (some 51) Try.func22 #[.agg #[.int .i64 t145, .int .i64 t146, .string t147, .slice Ao47 t148.length co47], .agg #[.int .i64 t126, .int .i64 t127, .string t128, .slice Ao9 t129.length co9]] (laws_eqPattern.calls kj4 t145 t146 t147 _ _ t148 t126 t127 t128 _ _ t129 true _ ?side1 ?side2 ?side3 ?side4 A48.out) ?_; (case side1 => refine (Kd.R_reads' (e := 41) (base := w.heap.size) (ok := fun k_ => (((((True ∧ some k_ ≠ (.slice Ao9 t129.length co9 : Value).ownBlock) ∧ some k_ ≠ (.slice Ao14 t137.length co14 : Value).ownBlock) ∧ k_ ≠ gb133) ∧ k_ ≠ gb141) ∧ k_ ≠ gb152)) (n := t148.length) (c := co47) ?_).2.2; exact (by (with_reducible repeat (first | apply Kd.R_alloc | apply Kd.R_drewN | apply Kd.R_drew)); exact (Kd.R_mono (Kd.R_far (p := ⟨gb152, 3, none⟩) (Kd.R_far (p := ⟨gb152, 2, none⟩) (Kd.R_far (p := ⟨gb152, 1, none⟩) (Kd.R_far (p := ⟨gb152, 0, none⟩) (Kd.R_mono HO150.out (fun k_ hk => (⟨hk, hk.2⟩ : _ ∧ k_ ≠ gb152))) (fun _ hk => hk.2) (.int .i64 t145)) (fun _ hk => hk.2) (.int .i64 t146)) (fun _ hk => hk.2) (.string t147)) (fun _ hk => hk.2) (.slice Ao47 t148.length co47)) (fun _ h_ => h_.1)))); (case side2 => exact (Kd.R_reads' HO150.out).2.1); (case side3 => refine (Kd.R_reads' (e := 41) (base := w.heap.size) (ok := fun k_ => (((some k_ ≠ (.slice Ao14 t137.length co14 : Value).ownBlock ∧ (k_ ≠ gb133 ∧ k_ ≠ gb141)) ∧ some k_ ≠ (.slice Ao47 t148.length co47 : Value).ownBlock) ∧ k_ ≠ gb152)) (n := t129.length) (c := co9) ?_).2.2; exact (by (with_reducible repeat (first | apply Kd.R_alloc | apply Kd.R_drewN | apply Kd.R_drew)); exact (Kd.R_mono (Kd.R_far (p := ⟨gb152, 3, none⟩) (Kd.R_far (p := ⟨gb152, 2, none⟩) (Kd.R_far (p := ⟨gb152, 1, none⟩) (Kd.R_far (p := ⟨gb152, 0, none⟩) (Kd.R_mono HO_134003.out (fun k_ hk => (⟨hk, hk.2⟩ : _ ∧ k_ ≠ gb152))) (fun _ hk => hk.2) (.int .i64 t145)) (fun _ hk => hk.2) (.int .i64 t146)) (fun _ hk => hk.2) (.string t147)) (fun _ hk => hk.2) (.slice Ao47 t148.length co47)) (fun _ h_ => h_.1)))); (case side4 => exact (Kd.R_reads' HO_134003.out).2.1); rintro e w55 ⟨rfl, hb⟩; refine ⟨_, rfl, ?_⟩; have n0_ := Aside0.mk (Kd.R_below (by (with_reducible repeat (first | apply Kd.R_alloc | apply Kd.R_drewN | apply Kd.R_drew)); exact (Kd.R_mono (Kd.R_far (p := ⟨gb152, 3, none⟩) (Kd.R_far (p := ⟨gb152, 2, none⟩) (Kd.R_far (p := ⟨gb152, 1, none⟩) (Kd.R_far (p := ⟨gb152, 0, none⟩) (Kd.R_mono HO_134003.out (fun k_ hk => (⟨hk, hk.2⟩ : _ ∧ k_ ≠ gb152))) (fun _ hk => hk.2) (.int .i64 t145)) (fun _ hk => hk.2) (.int .i64 t146)) (fun _ hk => hk.2) (.string t147)) (fun _ hk => hk.2) (.slice Ao47 t148.length co47)) (fun _ h_ => h_.1))) hb); have n1_ := Aside0.mk (Kd.R_below (by (with_reducible repeat (first | apply Kd.R_alloc | apply Kd.R_drewN | apply Kd.R_drew)); exact (Kd.R_mono (Kd.R_far (p := ⟨gb152, 3, none⟩) (Kd.R_far (p := ⟨gb152, 2, none⟩) (Kd.R_far (p := ⟨gb152, 1, none⟩) (Kd.R_far (p := ⟨gb152, 0, none⟩) (Kd.R_mono HO_142003.out (fun k_ hk => (⟨hk, hk.2⟩ : _ ∧ k_ ≠ gb152))) (fun _ hk => hk.2) (.int .i64 t145)) (fun _ hk => hk.2) (.int .i64 t146)) (fun _ hk => hk.2) (.string t147)) (fun _ hk => hk.2) (.slice Ao47 t148.length co47)) (fun _ h_ => h_.1))) hb); have n2_ := Aside0.mk (Kd.R_below (by (with_reducible repeat (first | apply Kd.R_alloc | apply Kd.R_drewN | apply Kd.R_drew)); exact (Kd.R_mono (Kd.R_far (p := ⟨gb152, 3, none⟩) (Kd.R_far (p := ⟨gb152, 2, none⟩) (Kd.R_far (p := ⟨gb152, 1, none⟩) (Kd.R_far (p := ⟨gb152, 0, none⟩) (Kd.R_mono HO150.out (fun k_ hk => (⟨hk, hk.2⟩ : _ ∧ k_ ≠ gb152))) (fun _ hk => hk.2) (.int .i64 t145)) (fun _ hk => hk.2) (.int .i64 t146)) (fun _ hk => hk.2) (.string t147)) (fun _ hk => hk.2) (.slice Ao47 t148.length co47)) (fun _ h_ => h_.1))) hb); have n3_ := Aside0.mk (blk_below (g := gb133) (o := .cells #[.int .i64 t126, .int .i64 t127, .string t128, .slice Ao9 t129.length co9] 41 (0, 0)) (by (with_reducible repeat (first | refine blk_drewN ?_ _ | refine blk_drew ?_ | refine blk_alloc ?_ _)); refine blk_far ?_ NB133_152.out _; (with_reducible repeat (first | refine blk_drewN ?_ _ | refine blk_drew ?_ | refine blk_alloc ?_ _)); refine blk_far ?_ NB133_152.out _; (with_reducible repeat (first | refine blk_drewN ?_ _ | refine blk_drew ?_ | refine blk_alloc ?_ _)); refine blk_far ?_ NB133_152.out _; (with_reducible repeat (first | refine blk_drewN ?_ _ | refine blk_drew ?_ | refine blk_alloc ?_ _)); refine blk_far ?_ NB133_152.out _; exact sT BK133.out) hb); have n4_ := Aside0.mk (blk_below (g := gb141) (o := .cells #[.int .i64 t134, .int .i64 t135, .string t136, .slice Ao14 t137.length co14] 41 (0, 0)) (by (with_reducible repeat (first | refine blk_drewN ?_ _ | refine blk_drew ?_ | refine blk_alloc ?_ _)); refine blk_far ?_ NB141_152.out _; (with_reducible repeat (first | refine blk_drewN ?_ _ | refine blk_drew ?_ | refine blk_alloc ?_ _)); refine blk_far ?_ NB141_152.out _; (with_reducible repeat (first | refine blk_drewN ?_ _ | refine blk_drew ?_ | refine blk_alloc ?_ _)); refine blk_far ?_ NB141_152.out _; (with_reducible repeat (first | refine blk_drewN ?_ _ | refine blk_drew ?_ | refine blk_alloc ?_ _)); refine blk_far ?_ NB141_152.out _; exact sT BK141.out) hb); have n5_ := Aside0.mk (blk_below (g := gb152) (o := .cells #[.int .i64 t145, .int .i64 t146, .string t147, .slice Ao47 t148.length co47] 41 (0, 0)) (by exact sP4 (sT BK152.out)) hb); have n6_ := sB HB hb; clear HO_134003; clear HO_142003; clear HO150; clear BK133; clear BK141; clear BK152; clear HB; have HO_134003 := n0_; have HO_142003 := n1_; have HO150 := n2_; have BK133 := n3_; have BK141 := n4_; have BK152 := n5_; have HB := n6_; clear n0_ n1_ n2_ n3_ n4_ n5_ n6_; (try clear hb); (try clear hb2); (try clear hk); (try clear hi)))
      go_meet
      case rel => exact ⟨_, ((t151 != t132)), sr, H', ⟨by have := HJ4.out; first | omega | exact Nat.le_refl _⟩, ⟨by (with_reducible repeat (first | apply Kd.R_alloc | apply Kd.R_drewN | apply Kd.R_drew)); exact Kd.R_mono HO_134003.out (fun _ hk => ⟨hk.1.1.1, ⟨hk.1.2, ⟨hk.1.1.2.1, ⟨hk.1.1.2.2, hk.2⟩⟩⟩⟩)⟩, ⟨by (with_reducible repeat (first | apply Kd.R_alloc | apply Kd.R_drewN | apply Kd.R_drew)); exact Kd.R_mono HO_142003.out (fun _ hk => ⟨hk.1.1.1, ⟨hk.1.2, ⟨hk.1.1.2.1, ⟨hk.1.1.2.2, hk.2⟩⟩⟩⟩)⟩, ⟨by (with_reducible repeat (first | apply Kd.R_alloc | apply Kd.R_drewN | apply Kd.R_drew)); exact Kd.R_mono HO150.out (fun _ hk => ⟨hk.1.1.1.1.2, ⟨hk.1.1.1.2, ⟨hk.1.1.2, ⟨hk.1.2, hk.2⟩⟩⟩⟩)⟩, ⟨by exact sT BK133.out⟩, ⟨by exact sT BK141.out⟩, ⟨by exact sT BK152.out⟩, ⟨sb⟩⟩
     replace c49 := Bool.eq_false_iff.mpr c49
     subst c49
     rewrite [if_neg (show ¬ (false = true) by decide)] at H
     have H' := Aside0.mk H
     clear H
     have hnb56 := NB152_133.out
     have hnc56 := NB133_152.out
     have hnb57 := NB152_141.out
     have hnc57 := NB141_152.out
     obtain ⟨hcz58_0, hcz58_1, hcz58_2, hcz58_3, hfz58_0, hfz58_1, hfz58_2, hfz58_3⟩ := cells4 BK152.out
     have hnb59 := NB133_141.out
     have hnc59 := NB141_133.out
     obtain ⟨hcz60_0, hcz60_1, hcz60_2, hcz60_3, hfz60_0, hfz60_1, hfz60_2, hfz60_3⟩ := cells4 BK133.out
     go_wp2_with (first | ((with_reducible refine gate_callee (f := 22) rfl ?_); refine sC (some 51) Try.func22 #[.agg #[.int .i64 t145, .int .i64 t146, .string t147, .slice Ao47 t148.length co47], .agg #[.int .i64 t126, .int .i64 t127, .string t128, .slice Ao9 t129.length co9]] (laws_eqPattern.calls kj4 t145 t146 t147 _ _ t148 t126 t127 t128 _ _ t129 false _ ?side1 ?side2 ?side3 ?side4 A48.out) ?_; (case side1 => refine (Kd.R_reads' (e := 41) (base := w.heap.size) (ok := fun k_ => (((((True ∧ some k_ ≠ (.slice Ao9 t129.length co9 : Value).ownBlock) ∧ some k_ ≠ (.slice Ao14 t137.length co14 : Value).ownBlock) ∧ k_ ≠ gb133) ∧ k_ ≠ gb141) ∧ k_ ≠ gb152)) (n := t148.length) (c := co47) ?_).2.2; exact (by (with_reducible repeat (first | apply Kd.R_alloc | apply Kd.R_drewN | apply Kd.R_drew)); exact (Kd.R_mono (Kd.R_far (p := ⟨gb152, 3, none⟩) (Kd.R_far (p := ⟨gb152, 2, none⟩) (Kd.R_far (p := ⟨gb152, 1, none⟩) (Kd.R_far (p := ⟨gb152, 0, none⟩) (Kd.R_mono HO150.out (fun k_ hk => (⟨hk, hk.2⟩ : _ ∧ k_ ≠ gb152))) (fun _ hk => hk.2) (.int .i64 t145)) (fun _ hk => hk.2) (.int .i64 t146)) (fun _ hk => hk.2) (.string t147)) (fun _ hk => hk.2) (.slice Ao47 t148.length co47)) (fun _ h_ => h_.1)))); (case side2 => exact (Kd.R_reads' HO150.out).2.1); (case side3 => refine (Kd.R_reads' (e := 41) (base := w.heap.size) (ok := fun k_ => (((some k_ ≠ (.slice Ao14 t137.length co14 : Value).ownBlock ∧ (k_ ≠ gb133 ∧ k_ ≠ gb141)) ∧ some k_ ≠ (.slice Ao47 t148.length co47 : Value).ownBlock) ∧ k_ ≠ gb152)) (n := t129.length) (c := co9) ?_).2.2; exact (by (with_reducible repeat (first | apply Kd.R_alloc | apply Kd.R_drewN | apply Kd.R_drew)); exact (Kd.R_mono (Kd.R_far (p := ⟨gb152, 3, none⟩) (Kd.R_far (p := ⟨gb152, 2, none⟩) (Kd.R_far (p := ⟨gb152, 1, none⟩) (Kd.R_far (p := ⟨gb152, 0, none⟩) (Kd.R_mono HO_134003.out (fun k_ hk => (⟨hk, hk.2⟩ : _ ∧ k_ ≠ gb152))) (fun _ hk => hk.2) (.int .i64 t145)) (fun _ hk => hk.2) (.int .i64 t146)) (fun _ hk => hk.2) (.string t147)) (fun _ hk => hk.2) (.slice Ao47 t148.length co47)) (fun _ h_ => h_.1)))); (case side4 => exact (Kd.R_reads' HO_134003.out).2.1); rintro e w61 ⟨rfl, hb⟩; refine ⟨_, rfl, ?_⟩; have n0_ := Aside0.mk (Kd.R_below (by (with_reducible repeat (first | apply Kd.R_alloc | apply Kd.R_drewN | apply Kd.R_drew)); exact (Kd.R_mono (Kd.R_far (p := ⟨gb152, 3, none⟩) (Kd.R_far (p := ⟨gb152, 2, none⟩) (Kd.R_far (p := ⟨gb152, 1, none⟩) (Kd.R_far (p := ⟨gb152, 0, none⟩) (Kd.R_mono HO_134003.out (fun k_ hk => (⟨hk, hk.2⟩ : _ ∧ k_ ≠ gb152))) (fun _ hk => hk.2) (.int .i64 t145)) (fun _ hk => hk.2) (.int .i64 t146)) (fun _ hk => hk.2) (.string t147)) (fun _ hk => hk.2) (.slice Ao47 t148.length co47)) (fun _ h_ => h_.1))) hb); have n1_ := Aside0.mk (Kd.R_below (by (with_reducible repeat (first | apply Kd.R_alloc | apply Kd.R_drewN | apply Kd.R_drew)); exact (Kd.R_mono (Kd.R_far (p := ⟨gb152, 3, none⟩) (Kd.R_far (p := ⟨gb152, 2, none⟩) (Kd.R_far (p := ⟨gb152, 1, none⟩) (Kd.R_far (p := ⟨gb152, 0, none⟩) (Kd.R_mono HO_142003.out (fun k_ hk => (⟨hk, hk.2⟩ : _ ∧ k_ ≠ gb152))) (fun _ hk => hk.2) (.int .i64 t145)) (fun _ hk => hk.2) (.int .i64 t146)) (fun _ hk => hk.2) (.string t147)) (fun _ hk => hk.2) (.slice Ao47 t148.length co47)) (fun _ h_ => h_.1))) hb); have n2_ := Aside0.mk (Kd.R_below (by (with_reducible repeat (first | apply Kd.R_alloc | apply Kd.R_drewN | apply Kd.R_drew)); exact (Kd.R_mono (Kd.R_far (p := ⟨gb152, 3, none⟩) (Kd.R_far (p := ⟨gb152, 2, none⟩) (Kd.R_far (p := ⟨gb152, 1, none⟩) (Kd.R_far (p := ⟨gb152, 0, none⟩) (Kd.R_mono HO150.out (fun k_ hk => (⟨hk, hk.2⟩ : _ ∧ k_ ≠ gb152))) (fun _ hk => hk.2) (.int .i64 t145)) (fun _ hk => hk.2) (.int .i64 t146)) (fun _ hk => hk.2) (.string t147)) (fun _ hk => hk.2) (.slice Ao47 t148.length co47)) (fun _ h_ => h_.1))) hb); have n3_ := Aside0.mk (blk_below (g := gb133) (o := .cells #[.int .i64 t126, .int .i64 t127, .string t128, .slice Ao9 t129.length co9] 41 (0, 0)) (by (with_reducible repeat (first | refine blk_drewN ?_ _ | refine blk_drew ?_ | refine blk_alloc ?_ _)); refine blk_far ?_ NB133_152.out _; (with_reducible repeat (first | refine blk_drewN ?_ _ | refine blk_drew ?_ | refine blk_alloc ?_ _)); refine blk_far ?_ NB133_152.out _; (with_reducible repeat (first | refine blk_drewN ?_ _ | refine blk_drew ?_ | refine blk_alloc ?_ _)); refine blk_far ?_ NB133_152.out _; (with_reducible repeat (first | refine blk_drewN ?_ _ | refine blk_drew ?_ | refine blk_alloc ?_ _)); refine blk_far ?_ NB133_152.out _; exact sT BK133.out) hb); have n4_ := Aside0.mk (blk_below (g := gb141) (o := .cells #[.int .i64 t134, .int .i64 t135, .string t136, .slice Ao14 t137.length co14] 41 (0, 0)) (by (with_reducible repeat (first | refine blk_drewN ?_ _ | refine blk_drew ?_ | refine blk_alloc ?_ _)); refine blk_far ?_ NB141_152.out _; (with_reducible repeat (first | refine blk_drewN ?_ _ | refine blk_drew ?_ | refine blk_alloc ?_ _)); refine blk_far ?_ NB141_152.out _; (with_reducible repeat (first | refine blk_drewN ?_ _ | refine blk_drew ?_ | refine blk_alloc ?_ _)); refine blk_far ?_ NB141_152.out _; (with_reducible repeat (first | refine blk_drewN ?_ _ | refine blk_drew ?_ | refine blk_alloc ?_ _)); refine blk_far ?_ NB141_152.out _; exact sT BK141.out) hb); have n5_ := Aside0.mk (blk_below (g := gb152) (o := .cells #[.int .i64 t145, .int .i64 t146, .string t147, .slice Ao47 t148.length co47] 41 (0, 0)) (by exact sP4 (sT BK152.out)) hb); have n6_ := sB HB hb; clear HO_134003; clear HO_142003; clear HO150; clear BK133; clear BK141; clear BK152; clear HB; have HO_134003 := n0_; have HO_142003 := n1_; have HO150 := n2_; have BK133 := n3_; have BK141 := n4_; have BK152 := n5_; have HB := n6_; clear n0_ n1_ n2_ n3_ n4_ n5_ n6_; (try clear hb); (try clear hb2); (try clear hk); (try clear hi)))
     go_meet
     case rel => exact ⟨_, (true), sr, H', ⟨by have := HJ4.out; first | omega | exact Nat.le_refl _⟩, ⟨by (with_reducible repeat (first | apply Kd.R_alloc | apply Kd.R_drewN | apply Kd.R_drew)); exact Kd.R_mono HO_134003.out (fun _ hk => ⟨hk.1.1.1, ⟨hk.1.2, ⟨hk.1.1.2.1, ⟨hk.1.1.2.2, hk.2⟩⟩⟩⟩)⟩, ⟨by (with_reducible repeat (first | apply Kd.R_alloc | apply Kd.R_drewN | apply Kd.R_drew)); exact Kd.R_mono HO_142003.out (fun _ hk => ⟨hk.1.1.1, ⟨hk.1.2, ⟨hk.1.1.2.1, ⟨hk.1.1.2.2, hk.2⟩⟩⟩⟩)⟩, ⟨by (with_reducible repeat (first | apply Kd.R_alloc | apply Kd.R_drewN | apply Kd.R_drew)); exact Kd.R_mono HO150.out (fun _ hk => ⟨hk.1.1.1.1.2, ⟨hk.1.1.1.2, ⟨hk.1.1.2, ⟨hk.1.2, hk.2⟩⟩⟩⟩)⟩, ⟨by exact sT BK133.out⟩, ⟨by exact sT BK141.out⟩, ⟨by exact sT BK152.out⟩, ⟨sb⟩⟩
    case rest =>
     clear HC36
     try clear c1
     try clear c2
     try clear c2b0
     try clear c2b1
     try clear p2
     try clear c3
     try clear c4
     try clear c5
     try clear c12
     try clear c16
     try clear c17
     try clear c20
     try clear c21
     try clear c22
     try clear c23
     try clear c24
     try clear c25
     try clear c28
     try clear c28b0
     try clear c29
     try clear c34
     try clear c34b0
     try clear c34b1
     try clear c37
     try clear c44
     try clear c45
     try clear c49
     try clear c50
     try clear c51
     try clear c53
     try clear c56
     try clear c57
     try clear c59
     try clear hcz13_0
     try clear hcz13_1
     try clear hcz13_2
     try clear hcz13_3
     try clear hcz18_0
     try clear hcz18_1
     try clear hcz18_2
     try clear hcz18_3
     try clear hcz19_0
     try clear hcz19_1
     try clear hcz19_2
     try clear hcz19_3
     try clear hcz22_0
     try clear hcz22_1
     try clear hcz22_2
     try clear hcz22_3
     try clear hcz23_0
     try clear hcz23_1
     try clear hcz23_2
     try clear hcz23_3
     try clear hcz30_0
     try clear hcz30_1
     try clear hcz30_2
     try clear hcz30_3
     try clear hcz32_0
     try clear hcz32_1
     try clear hcz32_2
     try clear hcz32_3
     try clear hcz38_0
     try clear hcz38_1
     try clear hcz38_2
     try clear hcz38_3
     try clear hcz40_0
     try clear hcz40_1
     try clear hcz40_2
     try clear hcz40_3
     try clear hcz46_0
     try clear hcz46_1
     try clear hcz46_2
     try clear hcz46_3
     try clear hcz52_0
     try clear hcz52_1
     try clear hcz52_2
     try clear hcz52_3
     try clear hcz54_0
     try clear hcz54_1
     try clear hcz54_2
     try clear hcz54_3
     try clear hcz58_0
     try clear hcz58_1
     try clear hcz58_2
     try clear hcz58_3
     try clear hcz60_0
     try clear hcz60_1
     try clear hcz60_2
     try clear hcz60_3
     try clear hcz8_0
     try clear hcz8_1
     try clear hcz8_2
     try clear hcz8_3
     try clear hfz13_0
     try clear hfz13_1
     try clear hfz13_2
     try clear hfz13_3
     try clear hfz18_0
     try clear hfz18_1
     try clear hfz18_2
     try clear hfz18_3
     try clear hfz19_0
     try clear hfz19_1
     try clear hfz19_2
     try clear hfz19_3
     try clear hfz22_0
     try clear hfz22_1
     try clear hfz22_2
     try clear hfz22_3
     try clear hfz23_0
     try clear hfz23_1
     try clear hfz23_2
     try clear hfz23_3
     try clear hfz30_0
     try clear hfz30_1
     try clear hfz30_2
     try clear hfz30_3
     try clear hfz32_0
     try clear hfz32_1
     try clear hfz32_2
     try clear hfz32_3
     try clear hfz38_0
     try clear hfz38_1
     try clear hfz38_2
     try clear hfz38_3
     try clear hfz40_0
     try clear hfz40_1
     try clear hfz40_2
     try clear hfz40_3
     try clear hfz46_0
     try clear hfz46_1
     try clear hfz46_2
     try clear hfz46_3
     try clear hfz52_0
     try clear hfz52_1
     try clear hfz52_2
     try clear hfz52_3
     try clear hfz54_0
     try clear hfz54_1
     try clear hfz54_2
     try clear hfz54_3
     try clear hfz58_0
     try clear hfz58_1
     try clear hfz58_2
     try clear hfz58_3
     try clear hfz60_0
     try clear hfz60_1
     try clear hfz60_2
     try clear hfz60_3
     try clear hfz8_0
     try clear hfz8_1
     try clear hfz8_2
     try clear hfz8_3
     try clear p2
     obtain ⟨kq, x57_35, rfl, HA, HJ35, HO_134003, HO_142003, HO_153003, BK133, BK141, BK152, HB⟩ := hcut
     cases kq with
     | zero => exact absurd HA.out (by simp [laws_FnExactPatternConstant.j1])
     | succ kj35 =>
      have H := HA.out
      clear HA
      simp only [laws_FnExactPatternConstant.j1] at H
      by_cases c62 : x57_35 = true
      ·subst c62
       rewrite [if_pos rfl] at H
       obtain rfl := Option.some.inj H
       go_wp2
       go_ret
       exact ⟨sq, sb⟩
      replace c62 := Bool.eq_false_iff.mpr c62
      subst c62
      rewrite [if_neg (show ¬ (false = true) by decide)] at H
      obtain ⟨t154, A63, H⟩ := sO H
      by_cases c64 : t154 < 0
      ·rw [if_pos c64] at H
       have c64b0 := decide_eq_true c64
       clear c64
       obtain rfl := Option.some.inj H
       have hnb65 := NB141_133.out
       have hnc65 := NB133_141.out
       have hnb66 := NB141_152.out
       have hnc66 := NB152_141.out
       obtain ⟨hcz67_0, hcz67_1, hcz67_2, hcz67_3, hfz67_0, hfz67_1, hfz67_2, hfz67_3⟩ := cells4 BK141.out
       go_wp2_with (first | ((with_reducible refine gate_callee (f := 24) rfl ?_); refine sC (some 60) Try.func24 #[.agg #[.int .i64 t134, .int .i64 t135, .string t136, .slice Ao14 t137.length co14], .int .i64 1] (laws_heldPattern.calls t134 t135 t136 _ _ t137 1 t154 _ ?side1 ?side2 A63.out) ?_; (case side1 => exact sD ((Kd.R_reads' HO_142003.out).2.2)); (case side2 => exact (Kd.R_reads' HO_142003.out).2.1); rintro e w68 ⟨rfl, hb⟩; refine ⟨_, rfl, ?_⟩; have n0_ := Aside0.mk (Kd.R_below (sE HO_134003.out) hb); have n1_ := Aside0.mk (Kd.R_below (sE HO_142003.out) hb); have n2_ := Aside0.mk (Kd.R_below (sE HO_153003.out) hb); have n3_ := sK BK133 hb; have n4_ := sK BK141 hb; have n5_ := sK BK152 hb; have n6_ := sB HB hb; clear HO_134003; clear HO_142003; clear HO_153003; clear BK133; clear BK141; clear BK152; clear HB; have HO_134003 := n0_; have HO_142003 := n1_; have HO_153003 := n2_; have BK133 := n3_; have BK141 := n4_; have BK152 := n5_; have HB := n6_; clear n0_ n1_ n2_ n3_ n4_ n5_ n6_; (try clear hb); (try clear hb2); (try clear hk); (try clear hi)))
       go_ret
       exact ⟨sq, sb⟩
      rw [if_neg c64] at H
      have c64b0 := decide_eq_false c64
      clear c64
      by_cases c69 : t154 = t143
      ·rw [if_pos c69] at H
       have c69b0 : (t154 == t143) = true := beq_iff_eq.mpr c69
       have c69b1 : (t154 != t143) = false := bne_eq_false_iff_eq.mpr c69
       clear c69
       obtain rfl := Option.some.inj H
       have hnb70 := NB141_133.out
       have hnc70 := NB133_141.out
       have hnb71 := NB141_152.out
       have hnc71 := NB152_141.out
       obtain ⟨hcz72_0, hcz72_1, hcz72_2, hcz72_3, hfz72_0, hfz72_1, hfz72_2, hfz72_3⟩ := cells4 BK141.out
       go_wp2_with (first | ((with_reducible refine gate_callee (f := 24) rfl ?_); refine sC (some 60) Try.func24 #[.agg #[.int .i64 t134, .int .i64 t135, .string t136, .slice Ao14 t137.length co14], .int .i64 1] (laws_heldPattern.calls t134 t135 t136 _ _ t137 1 t154 _ ?side1 ?side2 A63.out) ?_; (case side1 => exact sD ((Kd.R_reads' HO_142003.out).2.2)); (case side2 => exact (Kd.R_reads' HO_142003.out).2.1); rintro e w73 ⟨rfl, hb⟩; refine ⟨_, rfl, ?_⟩; have n0_ := Aside0.mk (Kd.R_below (sE HO_134003.out) hb); have n1_ := Aside0.mk (Kd.R_below (sE HO_142003.out) hb); have n2_ := Aside0.mk (Kd.R_below (sE HO_153003.out) hb); have n3_ := sK BK133 hb; have n4_ := sK BK141 hb; have n5_ := sK BK152 hb; have n6_ := sB HB hb; clear HO_134003; clear HO_142003; clear HO_153003; clear BK133; clear BK141; clear BK152; clear HB; have HO_134003 := n0_; have HO_142003 := n1_; have HO_153003 := n2_; have BK133 := n3_; have BK141 := n4_; have BK152 := n5_; have HB := n6_; clear n0_ n1_ n2_ n3_ n4_ n5_ n6_; (try clear hb); (try clear hb2); (try clear hk); (try clear hi)))
       go_ret
       exact ⟨sq, sb⟩
      rw [if_neg c69] at H
      have c69b0 : (t154 == t143) = false := beq_eq_false_iff_ne.mpr c69
      have c69b1 : (t154 != t143) = true := bne_iff_ne.mpr c69
      obtain rfl := Option.some.inj H
      have hnb74 := NB141_133.out
      have hnc74 := NB133_141.out
      have hnb75 := NB141_152.out
      have hnc75 := NB152_141.out
      obtain ⟨hcz76_0, hcz76_1, hcz76_2, hcz76_3, hfz76_0, hfz76_1, hfz76_2, hfz76_3⟩ := cells4 BK141.out
      go_wp2_with (first | ((with_reducible refine gate_callee (f := 24) rfl ?_); refine sC (some 60) Try.func24 #[.agg #[.int .i64 t134, .int .i64 t135, .string t136, .slice Ao14 t137.length co14], .int .i64 1] (laws_heldPattern.calls t134 t135 t136 _ _ t137 1 t154 _ ?side1 ?side2 A63.out) ?_; (case side1 => exact sD ((Kd.R_reads' HO_142003.out).2.2)); (case side2 => exact (Kd.R_reads' HO_142003.out).2.1); rintro e w77 ⟨rfl, hb⟩; refine ⟨_, rfl, ?_⟩; have n0_ := Aside0.mk (Kd.R_below (sE HO_134003.out) hb); have n1_ := Aside0.mk (Kd.R_below (sE HO_142003.out) hb); have n2_ := Aside0.mk (Kd.R_below (sE HO_153003.out) hb); have n3_ := sK BK133 hb; have n4_ := sK BK141 hb; have n5_ := sK BK152 hb; have n6_ := sB HB hb; clear HO_134003; clear HO_142003; clear HO_153003; clear BK133; clear BK141; clear BK152; clear HB; have HO_134003 := n0_; have HO_142003 := n1_; have HO_153003 := n2_; have BK133 := n3_; have BK141 := n4_; have BK152 := n5_; have HB := n6_; clear n0_ n1_ n2_ n3_ n4_ n5_ n6_; (try clear hb); (try clear hb2); (try clear hk); (try clear hi)))
      go_ret
      exact ⟨sq, sb⟩
   rw [if_neg c34] at H
   have c34b0 : (t144 == t143) = false := beq_eq_false_iff_ne.mpr c34
   have c34b1 : (t144 != t143) = true := bne_iff_ne.mpr c34
   obtain rfl := Option.some.inj H
   have hnb78 := NB141_133.out
   have hnc78 := NB133_141.out
   obtain ⟨hcz79_0, hcz79_1, hcz79_2, hcz79_3, hfz79_0, hfz79_1, hfz79_2, hfz79_3⟩ := cells4 BK141.out
   go_wp2_with (first | ((with_reducible refine gate_callee (f := 23) rfl ?_); refine sC (some 35) Try.func23 #[.agg #[.int .i64 t134, .int .i64 t135, .string t136, .slice Ao14 t137.length co14], .int .i64 1] (laws_markPattern.calls t134 t135 t136 _ _ t137 1 t143 _ ?side1 ?side2 A26.out) ?_; (case side1 => exact sD ((Kd.R_reads' HO_142003.out).2.2)); (case side2 => exact (Kd.R_reads' HO_142003.out).2.1); rintro e w80 ⟨rfl, hb⟩; refine ⟨_, rfl, ?_⟩; have n0_ := Aside0.mk (Kd.R_below (sE HO_134003.out) hb); have n1_ := Aside0.mk (Kd.R_below (sE HO_142003.out) hb); have n2_ := sK BK133 hb; have n3_ := sK BK141 hb; have n4_ := sB HB hb; clear HO_134003; clear HO_142003; clear BK133; clear BK141; clear HB; have HO_134003 := n0_; have HO_142003 := n1_; have BK133 := n2_; have BK141 := n3_; have HB := n4_; clear n0_ n1_ n2_ n3_ n4_; (try clear hb); (try clear hb2); (try clear hk); (try clear hi); obtain ⟨hcz81_0, hcz81_1, hcz81_2, hcz81_3, hfz81_0, hfz81_1, hfz81_2, hfz81_3⟩ := cells4 BK141.out) | ((with_reducible refine gate_callee (f := 24) rfl ?_); refine sC (some 38) Try.func24 #[.agg #[.int .i64 t134, .int .i64 t135, .string t136, .slice Ao14 t137.length co14], .int .i64 1] (laws_heldPattern.calls t134 t135 t136 _ _ t137 1 t144 _ ?side1 ?side2 A27.out) ?_; (case side1 => exact sD ((Kd.R_reads' HO_142003.out).2.2)); (case side2 => exact (Kd.R_reads' HO_142003.out).2.1); rintro e w82 ⟨rfl, hb⟩; refine ⟨_, rfl, ?_⟩; have n0_ := Aside0.mk (Kd.R_below (sE HO_134003.out) hb); have n1_ := Aside0.mk (Kd.R_below (sE HO_142003.out) hb); have n2_ := sK BK133 hb; have n3_ := sK BK141 hb; have n4_ := sB HB hb; clear HO_134003; clear HO_142003; clear BK133; clear BK141; clear HB; have HO_134003 := n0_; have HO_142003 := n1_; have BK133 := n2_; have BK141 := n3_; have HB := n4_; clear n0_ n1_ n2_ n3_ n4_; (try clear hb); (try clear hb2); (try clear hk); (try clear hi)))
   go_ret
   exact ⟨sq, sb⟩

/-- THE ONE PURE STATEMENT of laws_FnExactPatternConstant: yours. -/
def laws_FnExactPatternConstant.Pure : Prop := ∀ (a0 : ByteArray), a0.size ≤ 140737488351232 → ∃ k, laws_FnExactPatternConstant.f k a0 = some true
theorem laws_FnExactPatternConstant.walk (P : laws_FnExactPatternConstant.Pure) (a0 : ByteArray) (w : World) (w0 : a0.size ≤ 140737488351232) :
  Calls Try.prog 5 #[.string a0] w fun e w' => e = .returned (.bool true) ∧ Below w.heap.size w w' := by
 obtain ⟨k, h⟩ := P a0 w0
 refine (laws_FnExactPatternConstant.calls k a0 true w h).mono ?_
 rintro e w' ⟨rfl, hd⟩
 exact ⟨rfl, hd⟩
end Go.Proofs.Ytabbpnkbhapibaa.PFnExactPatternConstant
