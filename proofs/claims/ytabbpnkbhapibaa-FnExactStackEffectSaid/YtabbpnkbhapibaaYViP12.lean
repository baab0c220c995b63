/- Printed functions: impl_StackEffect, laws_FnExactStackEffect. -/
import Derived.Test.YtabbpnkbhapibaaYViP0
import Derived.Test.YtabbpnkbhapibaaYViP1
import Derived.Test.YtabbpnkbhapibaaYViP8
import Derived.Test.YtabbpnkbhapibaaYViP11
namespace Go.Proofs.Ytabbpnkbhapibaa.PFnExactValidInstr
open Go.RowKit Go.Proofs.YtabbpnkbhapibaaG Go.Proofs.YtabbpnkbhapibaaW.PrintWords Go.Proofs.YtabbpnkbhapibaaW.PrintLast Go.Proofs.YtabbpnkbhapibaaW.PrintMore
attribute [local go_sem] max2_int min2_int max_two min_two max_three min_three max_four min_four   -- for this text's walks alone
set_option linter.unusedVariables false
set_option linter.unusedSimpArgs false
/-! ### impl_StackEffect: function 51 -/
def impl_StackEffect.f (k : Nat) (a0_0 : Int) (a0_1 : Int) (a0_2 : ByteArray) : Option (Int × Int) := (impl_ValidInstr.f k a0_0 a0_1 a0_2).bind fun t195 => (if t195 = true then ((impl_Instr_effect.f a0_0 a0_1 a0_2).bind fun bt196 => (some (bt196.1, bt196.2))) else (some ((-1), (-1))))
set_option maxHeartbeats 8000000 in
set_option maxRecDepth 100000 in
theorem impl_StackEffect.calls (k : Nat) (a0_0 : Int) (a0_1 : Int) (a0_2 : ByteArray) (r1 : Int) (r2 : Int) (w : World) (h : impl_StackEffect.f k a0_0 a0_1 a0_2 = some (r1, r2)) :
  Calls Try.prog 51 #[.agg #[.int .i64 a0_0, .int .i64 a0_1, .string a0_2]] w fun e w' => e = .returned (.tuple #[.int .i64 r1, .int .i64 r2]) ∧ Below w.heap.size w w' := by
 have hu106 := Try.underlying106
 have HB := Aside0.mk (Below.refl w.heap.size w)
 have H : ((impl_ValidInstr.f k a0_0 a0_1 a0_2).bind fun t195 => (if t195 = true then ((impl_Instr_effect.f a0_0 a0_1 a0_2).bind fun bt196 => (some (bt196.1, bt196.2))) else (some ((-1), (-1))))) = some (r1, r2) := h
 clear h
 obtain ⟨t195, A2, H⟩ := sO H
 by_cases c3 : t195 = true
 ·subst c3
  rewrite [if_pos rfl] at H
  replace H := Option.bind_eq_some_iff.mp H
  obtain ⟨⟨t196, t197⟩, A40, H⟩ := H
  replace H : (some (t196, t197)) = some (r1, r2) := H
  have A4 := Aside0.mk A40
  clear A40
  simp only [Option.some.injEq, Prod.mk.injEq] at H
  obtain ⟨rfl, rfl⟩ := H
  go_enter Try.func51, Try.ntmps51
  go_wp2_with (first | ((with_reducible refine gate_dst (N := 1) rfl ?_); refine sV (N := 1) (cs := #[.int .i64 a0_0, .int .i64 a0_1, .string a0_2]) (t := 106) ?_; intro gb194 hg w5 hbox hb; have n0_ := sB HB hb; have n1_ := Aside0.mk (hbox); have n2_ := sG HB hg; have n3_ := sG HB hg; clear HB; have HB := n0_; have BK194 := n1_; have GW194 := n2_; have GE194 := n3_; clear n0_ n1_ n2_ n3_; clear hb hbox hg; obtain ⟨hcz6_0, hcz6_1, hcz6_2, hfz6_0, hfz6_1, hfz6_2⟩ := cells3 BK194.out) | ((with_reducible refine gate_callee (f := 49) rfl ?_); refine sC (some 5) Try.func49 #[.agg #[.int .i64 a0_0, .int .i64 a0_1, .string a0_2]] (impl_ValidInstr.calls k a0_0 a0_1 a0_2 true _ A2.out) ?_; rintro e w7 ⟨rfl, hb⟩; refine ⟨_, rfl, ?_⟩; have n0_ := sK BK194 hb; have n1_ := sB HB hb; clear BK194; clear HB; have BK194 := n0_; have HB := n1_; clear n0_ n1_; (try clear hb); (try clear hb2); (try clear hk); (try clear hi); obtain ⟨hcz8_0, hcz8_1, hcz8_2, hfz8_0, hfz8_1, hfz8_2⟩ := cells3 BK194.out) | ((with_reducible refine gate_callee (f := 119) rfl ?_); refine sC (some 8) Try.func119 #[.agg #[.int .i64 a0_0, .int .i64 a0_1, .string a0_2]] (impl_Instr_effect.calls a0_0 a0_1 a0_2 t196 t197 _ A4.out) ?_; rintro e w9 ⟨rfl, hb⟩; refine ⟨_, rfl, ?_⟩; have n0_ := sK BK194 hb; have n1_ := sB HB hb; clear BK194; clear HB; have BK194 := n0_; have HB := n1_; clear n0_ n1_; (try clear hb); (try clear hb2); (try clear hk); (try clear hi)))
  go_ret2
  exact ⟨sq, sb⟩
 replace c3 := Bool.eq_false_iff.mpr c3
 subst c3
 rewrite [if_neg (show ¬ (false = true) by decide)] at H
 simp only [Option.some.injEq, Prod.mk.injEq] at H
 obtain ⟨rfl, rfl⟩ := H
 go_enter Try.func51, Try.ntmps51
 go_wp2_with (first | ((with_reducible refine gate_dst (N := 1) rfl ?_); refine sV (N := 1) (cs := #[.int .i64 a0_0, .int .i64 a0_1, .string a0_2]) (t := 106) ?_; intro gb194 hg w10 hbox hb; have n0_ := sB HB hb; have n1_ := Aside0.mk (hbox); have n2_ := sG HB hg; have n3_ := sG HB hg; clear HB; have HB := n0_; have BK194 := n1_; have GW194 := n2_; have GE194 := n3_; clear n0_ n1_ n2_ n3_; clear hb hbox hg; obtain ⟨hcz11_0, hcz11_1, hcz11_2, hfz11_0, hfz11_1, hfz11_2⟩ := cells3 BK194.out) | ((with_reducible refine gate_callee (f := 49) rfl ?_); refine sC (some 5) Try.func49 #[.agg #[.int .i64 a0_0, .int .i64 a0_1, .string a0_2]] (impl_ValidInstr.calls k a0_0 a0_1 a0_2 false _ A2.out) ?_; rintro e w12 ⟨rfl, hb⟩; refine ⟨_, rfl, ?_⟩; have n0_ := sK BK194 hb; have n1_ := sB HB hb; clear BK194; clear HB; have BK194 := n0_; have HB := n1_; clear n0_ n1_; (try clear hb); (try clear hb2); (try clear hk); (try clear hi)))
 go_ret2
 exact ⟨sq, sb⟩

/-! ### laws_FnExactStackEffect: function 11 -/
def laws_FnExactStackEffect.f (k : Nat) (a0_0 : Int) (a0_1 : Int) (a0_2 : ByteArray) : Option (Bool) := (laws_szInstr.f a0_0 a0_1 a0_2 1048576).bind fun t199 => (if t199 < 0 then (some true) else ((laws_toInstr.f a0_0 a0_1 a0_2).bind fun bt200 => ((spec_StackEffect.f k bt200.1 bt200.2.1 bt200.2.2).bind fun bt203 => ((laws_toInstr.f a0_0 a0_1 a0_2).bind fun bt205 => ((impl_StackEffect.f k bt205.1 bt205.2.1 bt205.2.2).bind fun bt208 => (if bt208.1 = bt203.1 then (if bt208.2 = bt203.2 then (some true) else (some false)) else (some false)))))))
set_option maxHeartbeats 8000000 in
set_option maxRecDepth 100000 in
theorem laws_FnExactStackEffect.calls (k : Nat) (a0_0 : Int) (a0_1 : Int) (a0_2 : ByteArray) (w : World) (h : laws_FnExactStackEffect.f k a0_0 a0_1 a0_2 = some true) :
  Calls Try.prog 11 #[.agg #[.int .i64 a0_0, .int .i64 a0_1, .string a0_2]] w fun e w' => e = .returned (.bool true) ∧ Below w.heap.size w w' := by
 have hu103 := Try.underlying103
 have HB := Aside0.mk (Below.refl w.heap.size w)
 have H : ((laws_szInstr.f a0_0 a0_1 a0_2 1048576).bind fun t199 => (if t199 < 0 then (some true) else ((laws_toInstr.f a0_0 a0_1 a0_2).bind fun bt200 => ((spec_StackEffect.f k bt200.1 bt200.2.1 bt200.2.2).bind fun bt203 => ((laws_toInstr.f a0_0 a0_1 a0_2).bind fun bt205 => ((impl_StackEffect.f k bt205.1 bt205.2.1 bt205.2.2).bind fun bt208 => (if bt208.1 = bt203.1 then (if bt208.2 = bt203.2 then (some true) else (some false)) else (some false)))))))) = some true := h
 clear h
 obtain ⟨t199, A2, H⟩ := sO H
 by_cases c3 : t199 < 0
 ·rw [if_pos c3] at H
  have c3b0 := decide_eq_true c3
  clear c3
  clear H
  go_enter Try.func11, Try.ntmps11
  go_wp2_with (first | ((with_reducible refine gate_dst (N := 1) rfl ?_); refine sV (N := 1) (cs := #[.int .i64 a0_0, .int .i64 a0_1, .string a0_2]) (t := 103) ?_; intro gb198 hg w4 hbox hb; have n0_ := sB HB hb; have n1_ := Aside0.mk (hbox); have n2_ := sG HB hg; have n3_ := sG HB hg; clear HB; have HB := n0_; have BK198 := n1_; have GW198 := n2_; have GE198 := n3_; clear n0_ n1_ n2_ n3_; clear hb hbox hg; obtain ⟨hcz5_0, hcz5_1, hcz5_2, hfz5_0, hfz5_1, hfz5_2⟩ := cells3 BK198.out) | ((with_reducible refine gate_callee (f := 46) rfl ?_); refine sC (some 10) Try.func46 #[.agg #[.int .i64 a0_0, .int .i64 a0_1, .string a0_2], .int .i64 1048576] (laws_szInstr.calls a0_0 a0_1 a0_2 1048576 t199 _ A2.out) ?_; rintro e w6 ⟨rfl, hb⟩; refine ⟨_, rfl, ?_⟩; have n0_ := sK BK198 hb; have n1_ := sB HB hb; clear BK198; clear HB; have BK198 := n0_; have HB := n1_; clear n0_ n1_; (try clear hb); (try clear hb2); (try clear hk); (try clear hi)))
  go_ret
  exact ⟨sq, sb⟩
 rw [if_neg c3] at H
 have c3b0 := decide_eq_false c3
 clear c3
 replace H := Option.bind_eq_some_iff.mp H
 obtain ⟨⟨t200, t201, t202⟩, A70, H⟩ := H
 replace H : ((spec_StackEffect.f k t200 t201 t202).bind fun bt203 => ((laws_toInstr.f a0_0 a0_1 a0_2).bind fun bt205 => ((impl_StackEffect.f k bt205.1 bt205.2.1 bt205.2.2).bind fun bt208 => (if bt208.1 = bt203.1 then (if bt208.2 = bt203.2 then (some true) else (some false)) else (some false))))) = some true := H
 have A7 := Aside0.mk A70
 clear A70
 replace H := Option.bind_eq_some_iff.mp H
 obtain ⟨⟨t203, t204⟩, A80, H⟩ := H
 replace H : ((laws_toInstr.f a0_0 a0_1 a0_2).bind fun bt205 => ((impl_StackEffect.f k bt205.1 bt205.2.1 bt205.2.2).bind fun bt208 => (if bt208.1 = t203 then (if bt208.2 = t204 then (some true) else (some false)) else (some false)))) = some true := H
 have A8 := Aside0.mk A80
 clear A80
 replace H := Option.bind_eq_some_iff.mp H
 obtain ⟨⟨t205, t206, t207⟩, A90, H⟩ := H
 replace H : ((impl_StackEffect.f k t205 t206 t207).bind fun bt208 => (if bt208.1 = t203 then (if bt208.2 = t204 then (some true) else (some false)) else (some false))) = some true := H
 have A9 := Aside0.mk A90
 clear A90
 replace H := Option.bind_eq_some_iff.mp H
 obtain ⟨⟨t208, t209⟩, A100, H⟩ := H
 replace H : (if t208 = t203 then (if t209 = t204 then (some true) else (some false)) else (some false)) = some true := H
 have A10 := Aside0.mk A100
 clear A100
 by_cases c11 : t208 = t203
 ·rw [if_pos c11] at H
  have c11b0 : (t208 == t203) = true := beq_iff_eq.mpr c11
  have c11b1 : (t208 != t203) = false := bne_eq_false_iff_eq.mpr c11
  clear c11
  by_cases c12 : t209 = t204
  ·rw [if_pos c12] at H
   have c12b0 : (t209 == t204) = true := beq_iff_eq.mpr c12
   have c12b1 : (t209 != t204) = false := bne_eq_false_iff_eq.mpr c12
   clear c12
   clear H
   go_enter Try.func11, Try.ntmps11
   go_wp2_with (first | ((with_reducible refine gate_dst (N := 1) rfl ?_); refine sV (N := 1) (cs := #[.int .i64 a0_0, .int .i64 a0_1, .string a0_2]) (t := 103) ?_; intro gb198 hg w13 hbox hb; have n0_ := sB HB hb; have n1_ := Aside0.mk (hbox); have n2_ := sG HB hg; have n3_ := sG HB hg; clear HB; have HB := n0_; have BK198 := n1_; have GW198 := n2_; have GE198 := n3_; clear n0_ n1_ n2_ n3_; clear hb hbox hg; obtain ⟨hcz14_0, hcz14_1, hcz14_2, hfz14_0, hfz14_1, hfz14_2⟩ := cells3 BK198.out) | ((with_reducible refine gate_callee (f := 46) rfl ?_); refine sC (some 10) Try.func46 #[.agg #[.int .i64 a0_0, .int .i64 a0_1, .string a0_2], .int .i64 1048576] (laws_szInstr.calls a0_0 a0_1 a0_2 1048576 t199 _ A2.out) ?_; rintro e w15 ⟨rfl, hb⟩; refine ⟨_, rfl, ?_⟩; have n0_ := sK BK198 hb; have n1_ := sB HB hb; clear BK198; clear HB; have BK198 := n0_; have HB := n1_; clear n0_ n1_; (try clear hb); (try clear hb2); (try clear hk); (try clear hi); obtain ⟨hcz16_0, hcz16_1, hcz16_2, hfz16_0, hfz16_1, hfz16_2⟩ := cells3 BK198.out) | ((with_reducible refine gate_callee (f := 48) rfl ?_); refine sC (some 15) Try.func48 #[.agg #[.int .i64 a0_0, .int .i64 a0_1, .string a0_2]] (laws_toInstr.calls a0_0 a0_1 a0_2 t200 t201 t202 _ A7.out) ?_; rintro e w17 ⟨rfl, hb⟩; refine ⟨_, rfl, ?_⟩; have n0_ := sK BK198 hb; have n1_ := sB HB hb; clear BK198; clear HB; have BK198 := n0_; have HB := n1_; clear n0_ n1_; (try clear hb); (try clear hb2); (try clear hk); (try clear hi)) | ((with_reducible refine gate_callee (f := 50) rfl ?_); refine sC (some 16) Try.func50 #[.agg #[.int .i64 t200, .int .i64 t201, .string t202]] (spec_StackEffect.calls k t200 t201 t202 t203 t204 _ A8.out) ?_; rintro e w18 ⟨rfl, hb⟩; refine ⟨_, rfl, ?_⟩; have n0_ := sK BK198 hb; have n1_ := sB HB hb; clear BK198; clear HB; have BK198 := n0_; have HB := n1_; clear n0_ n1_; (try clear hb); (try clear hb2); (try clear hk); (try clear hi); obtain ⟨hcz19_0, hcz19_1, hcz19_2, hfz19_0, hfz19_1, hfz19_2⟩ := cells3 BK198.out) | ((with_reducible refine gate_callee (f := 48) rfl ?_); refine sC (some 21) Try.func48 #[.agg #[.int .i64 a0_0, .int .i64 a0_1, .string a0_2]] (laws_toInstr.calls a0_0 a0_1 a0_2 t205 t206 t207 _ A9.out) ?_; rintro e w20 ⟨rfl, hb⟩; refine ⟨_, rfl, ?_⟩; have n0_ := sK BK198 hb; have n1_ := sB HB hb; clear BK198; clear HB; have BK198 := n0_; have HB := n1_; clear n0_ n1_; (try clear hb); (try clear hb2); (try clear hk); (try clear hi)) | ((with_reducible refine gate_callee (f := 51) rfl ?_); refine sC (some 22) Try.func51 #[.agg #[.int .i64 t205, .int .i64 t206, .string t207]] (impl_StackEffect.calls k t205 t206 t207 t208 t209 _ A10.out) ?_; rintro e w21 ⟨rfl, hb⟩; refine ⟨_, rfl, ?_⟩; have n0_ := sK BK198 hb; have n1_ := sB HB hb; clear BK198; clear HB; have BK198 := n0_; have HB := n1_; clear n0_ n1_; (try clear hb); (try clear hb2); (try clear hk); (try clear hi)))
   go_ret
   exact ⟨sq, sb⟩
  rw [if_neg c12] at H
  have c12b0 : (t209 == t204) = false := beq_eq_false_iff_ne.mpr c12
  have c12b1 : (t209 != t204) = true := bne_iff_ne.mpr c12
  exact absurd H (by simp)
 rw [if_neg c11] at H
 have c11b0 : (t208 == t203) = false := beq_eq_false_iff_ne.mpr c11
 have c11b1 : (t208 != t203) = true := bne_iff_ne.mpr c11
 exact absurd H (by simp)
end Go.Proofs.Ytabbpnkbhapibaa.PFnExactValidInstr
