-- PRINTED by print.py (a twelfth state) out of the translation. Not trusted: Lean checks it.
import Derived.Test.YtcnganocdjcbdaaPFnExactGotoTextx0
import Derived.Test.YtcnganocdjcbdaaPFnExactGotoTextx2
import Derived.Test.YtcnganocdjcbdaaPFnExactGotoTextx3
namespace Go.Proofs.Ytcnganocdjcbdaa.PFnExactGotoText
open Go.RowKit Go.Proofs.YtcnganocdjcbdaaG Go.Proofs.YtcnganocdjcbdaaW.PrintWords Go.Proofs.YtcnganocdjcbdaaW.PrintLast Go.Proofs.YtcnganocdjcbdaaW.PrintMore
attribute [local go_sem] max2_int min2_int max_two min_two max_three min_three max_four min_four   -- for this text's walks alone
set_option linter.unusedVariables false
set_option linter.unusedSimpArgs false

/-! ### laws_FnExactGotoText: function 8 -/
def laws_FnExactGotoText.f (k : Nat) (a0_0 : ByteArray) (a0_1 : ByteArray) (a0_2 : ByteArray) : Option (Bool) := (laws_szGoto.f a0_0 a0_1 a0_2 1048576).bind fun t149 => (if t149 < 0 then (some true) else ((laws_toGoto.f a0_0 a0_1 a0_2).bind fun bt150 => ((spec_GotoText.f k bt150.1 bt150.2.1 bt150.2.2).bind fun t153 => ((laws_toGoto.f a0_0 a0_1 a0_2).bind fun bt154 => ((impl_GotoText.f k bt154.1 bt154.2.1 bt154.2.2).bind fun t157 => (if t157.toList = t153.toList then (some true) else (some false)))))))
set_option maxHeartbeats 8000000 in
set_option maxRecDepth 100000 in
theorem laws_FnExactGotoText.calls (k : Nat) (a0_0 : ByteArray) (a0_1 : ByteArray) (a0_2 : ByteArray) (w : World) (h : laws_FnExactGotoText.f k a0_0 a0_1 a0_2 = some true) :
    Calls Try.prog 8 #[.agg #[.string a0_0, .string a0_1, .string a0_2]] w fun e w' => e = .returned (.bool true) ∧ Below w.heap.size w w' := by
  have hu43 := Try.underlying43
  have HB := Aside0.mk (Below.refl w.heap.size w)
  have H : ((laws_szGoto.f a0_0 a0_1 a0_2 1048576).bind fun t149 => (if t149 < 0 then (some true) else ((laws_toGoto.f a0_0 a0_1 a0_2).bind fun bt150 => ((spec_GotoText.f k bt150.1 bt150.2.1 bt150.2.2).bind fun t153 => ((laws_toGoto.f a0_0 a0_1 a0_2).bind fun bt154 => ((impl_GotoText.f k bt154.1 bt154.2.1 bt154.2.2).bind fun t157 => (if t157.toList = t153.toList then (some true) else (some false)))))))) = some true := h
  clear h
  replace H := Option.bind_eq_some_iff.mp H
  obtain ⟨t149, A20, H⟩ := H
  replace H : (if t149 < 0 then (some true) else ((laws_toGoto.f a0_0 a0_1 a0_2).bind fun bt150 => ((spec_GotoText.f k bt150.1 bt150.2.1 bt150.2.2).bind fun t153 => ((laws_toGoto.f a0_0 a0_1 a0_2).bind fun bt154 => ((impl_GotoText.f k bt154.1 bt154.2.1 bt154.2.2).bind fun t157 => (if t157.toList = t153.toList then (some true) else (some false))))))) = some true := H
  have A2 := Aside0.mk A20
  clear A20
  by_cases c3 : t149 < 0
  · rw [if_pos c3] at H
    have c3b0 : decide (t149 < 0) = true := decide_eq_true c3
    clear c3
    clear H
    go_enter Try.func8, Try.ntmps8
    go_wp2_with (first | ((with_reducible refine gate_dst (N := 1) rfl ?_); refine sV (N := 1) (cs := #[.string a0_0, .string a0_1, .string a0_2]) (t := 43) ?_; intro gb148 hg w4 hbox hb; have n0_ := sB HB hb; have n1_ := Aside0.mk (hbox); have n2_ := sG HB hg; have n3_ := sG HB hg; clear HB; have HB := n0_; have BK148 := n1_; have GW148 := n2_; have GE148 := n3_; clear n0_ n1_ n2_ n3_; clear hb hbox hg; obtain ⟨hcz5_0, hcz5_1, hcz5_2, hfz5_0, hfz5_1, hfz5_2⟩ := cells3 BK148.out) | ((with_reducible refine gate_callee (f := 25) rfl ?_); refine sC (some 8) Try.func25 #[.agg #[.string a0_0, .string a0_1, .string a0_2], .int .i64 1048576] (laws_szGoto.calls a0_0 a0_1 a0_2 1048576 t149 _ A2.out) ?_; rintro e w6 ⟨rfl, hb⟩; refine ⟨_, rfl, ?_⟩; have n0_ := sK BK148 hb; have n1_ := sB HB hb; clear BK148; clear HB; have BK148 := n0_; have HB := n1_; clear n0_ n1_; (try clear hb); (try clear hb2); (try clear hk); (try clear hi)))
    go_ret
    exact ⟨by first | rfl | (simp [errW_none, errW_some] <;> rfl) | (simp [*, errW_none, errW_some] <;> rfl), by repeat (first | (with_reducible first | exact HB.out | apply below_alloc | apply pw_below_drewN | apply below_drew1 | refine below_set ?_ GE148.out) | exact HB.out)⟩
  · rw [if_neg c3] at H
    have c3b0 : decide (t149 < 0) = false := decide_eq_false c3
    clear c3
    replace H := Option.bind_eq_some_iff.mp H
    obtain ⟨⟨t150, t151, t152⟩, A70, H⟩ := H
    replace H : ((spec_GotoText.f k t150 t151 t152).bind fun t153 => ((laws_toGoto.f a0_0 a0_1 a0_2).bind fun bt154 => ((impl_GotoText.f k bt154.1 bt154.2.1 bt154.2.2).bind fun t157 => (if t157.toList = t153.toList then (some true) else (some false))))) = some true := H
    have A7 := Aside0.mk A70
    clear A70
    replace H := Option.bind_eq_some_iff.mp H
    obtain ⟨t153, A80, H⟩ := H
    replace H : ((laws_toGoto.f a0_0 a0_1 a0_2).bind fun bt154 => ((impl_GotoText.f k bt154.1 bt154.2.1 bt154.2.2).bind fun t157 => (if t157.toList = t153.toList then (some true) else (some false)))) = some true := H
    have A8 := Aside0.mk A80
    clear A80
    replace H := Option.bind_eq_some_iff.mp H
    obtain ⟨⟨t154, t155, t156⟩, A90, H⟩ := H
    replace H : ((impl_GotoText.f k t154 t155 t156).bind fun t157 => (if t157.toList = t153.toList then (some true) else (some false))) = some true := H
    have A9 := Aside0.mk A90
    clear A90
    replace H := Option.bind_eq_some_iff.mp H
    obtain ⟨t157, A100, H⟩ := H
    replace H : (if t157.toList = t153.toList then (some true) else (some false)) = some true := H
    have A10 := Aside0.mk A100
    clear A100
    by_cases c11 : t157.toList = t153.toList
    · rw [if_pos c11] at H
      have c11b0 : (t157.toList == t153.toList) = true := beq_iff_eq.mpr c11
      have c11b1 : (t157.toList != t153.toList) = false := bne_eq_false_iff_eq.mpr c11
      clear c11
      clear H
      go_enter Try.func8, Try.ntmps8
      go_wp2_with (first | ((with_reducible refine gate_dst (N := 1) rfl ?_); refine sV (N := 1) (cs := #[.string a0_0, .string a0_1, .string a0_2]) (t := 43) ?_; intro gb148 hg w12 hbox hb; have n0_ := sB HB hb; have n1_ := Aside0.mk (hbox); have n2_ := sG HB hg; have n3_ := sG HB hg; clear HB; have HB := n0_; have BK148 := n1_; have GW148 := n2_; have GE148 := n3_; clear n0_ n1_ n2_ n3_; clear hb hbox hg; obtain ⟨hcz13_0, hcz13_1, hcz13_2, hfz13_0, hfz13_1, hfz13_2⟩ := cells3 BK148.out) | ((with_reducible refine gate_callee (f := 25) rfl ?_); refine sC (some 8) Try.func25 #[.agg #[.string a0_0, .string a0_1, .string a0_2], .int .i64 1048576] (laws_szGoto.calls a0_0 a0_1 a0_2 1048576 t149 _ A2.out) ?_; rintro e w14 ⟨rfl, hb⟩; refine ⟨_, rfl, ?_⟩; have n0_ := sK BK148 hb; have n1_ := sB HB hb; clear BK148; clear HB; have BK148 := n0_; have HB := n1_; clear n0_ n1_; (try clear hb); (try clear hb2); (try clear hk); (try clear hi); obtain ⟨hcz15_0, hcz15_1, hcz15_2, hfz15_0, hfz15_1, hfz15_2⟩ := cells3 BK148.out) | ((with_reducible refine gate_callee (f := 27) rfl ?_); refine sC (some 12) Try.func27 #[.agg #[.string a0_0, .string a0_1, .string a0_2]] (laws_toGoto.calls a0_0 a0_1 a0_2 t150 t151 t152 _ A7.out) ?_; rintro e w16 ⟨rfl, hb⟩; refine ⟨_, rfl, ?_⟩; have n0_ := sK BK148 hb; have n1_ := sB HB hb; clear BK148; clear HB; have BK148 := n0_; have HB := n1_; clear n0_ n1_; (try clear hb); (try clear hb2); (try clear hk); (try clear hi)) | ((with_reducible refine gate_callee (f := 26) rfl ?_); refine sC (some 13) Try.func26 #[.agg #[.string t150, .string t151, .string t152]] (spec_GotoText.calls k t150 t151 t152 t153 _ A8.out) ?_; rintro e w17 ⟨rfl, hb⟩; refine ⟨_, rfl, ?_⟩; have n0_ := sK BK148 hb; have n1_ := sB HB hb; clear BK148; clear HB; have BK148 := n0_; have HB := n1_; clear n0_ n1_; (try clear hb); (try clear hb2); (try clear hk); (try clear hi); obtain ⟨hcz18_0, hcz18_1, hcz18_2, hfz18_0, hfz18_1, hfz18_2⟩ := cells3 BK148.out) | ((with_reducible refine gate_callee (f := 27) rfl ?_); refine sC (some 15) Try.func27 #[.agg #[.string a0_0, .string a0_1, .string a0_2]] (laws_toGoto.calls a0_0 a0_1 a0_2 t154 t155 t156 _ A9.out) ?_; rintro e w19 ⟨rfl, hb⟩; refine ⟨_, rfl, ?_⟩; have n0_ := sK BK148 hb; have n1_ := sB HB hb; clear BK148; clear HB; have BK148 := n0_; have HB := n1_; clear n0_ n1_; (try clear hb); (try clear hb2); (try clear hk); (try clear hi)) | ((with_reducible refine gate_callee (f := 28) rfl ?_); refine sC (some 16) Try.func28 #[.agg #[.string t154, .string t155, .string t156]] (impl_GotoText.calls k t154 t155 t156 t157 _ A10.out) ?_; rintro e w20 ⟨rfl, hb⟩; refine ⟨_, rfl, ?_⟩; have n0_ := sK BK148 hb; have n1_ := sB HB hb; clear BK148; clear HB; have BK148 := n0_; have HB := n1_; clear n0_ n1_; (try clear hb); (try clear hb2); (try clear hk); (try clear hi)))
      go_ret
      exact ⟨by first | rfl | (simp [errW_none, errW_some] <;> rfl) | (simp [*, errW_none, errW_some] <;> rfl), by repeat (first | (with_reducible first | exact HB.out | apply below_alloc | apply pw_below_drewN | apply below_drew1 | refine below_set ?_ GE148.out) | exact HB.out)⟩
    · rw [if_neg c11] at H
      have c11b0 : (t157.toList == t153.toList) = false := beq_eq_false_iff_ne.mpr c11
      have c11b1 : (t157.toList != t153.toList) = true := bne_iff_ne.mpr c11
      exact absurd H (by simp)

end Go.Proofs.Ytcnganocdjcbdaa.PFnExactGotoText
