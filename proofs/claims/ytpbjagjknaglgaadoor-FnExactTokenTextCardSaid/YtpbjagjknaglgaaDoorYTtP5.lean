/- Printed functions: spec_TokenText, laws_FnExactTokenText. -/
import Derived.Test.YtpbjagjknaglgaaDoorYTtP0
import Derived.Test.YtpbjagjknaglgaaDoorYTtP1
import Derived.Test.YtpbjagjknaglgaaDoorYTtP3
import Derived.Test.YtpbjagjknaglgaaDoorYTtP4
import Derived.Test.YtpbjagjknaglgaaDoorYTtP9
namespace Go.Proofs.YtpbjagjknaglgaaDoor.PFnExactTokenText
open Go.RowKit Go.Proofs.YtpbjagjknaglgaaDoorG Go.Proofs.YtpbjagjknaglgaaDoorW.PrintWords Go.Proofs.YtpbjagjknaglgaaDoorW.PrintLast Go.Proofs.YtpbjagjknaglgaaDoorW.PrintMore
attribute [local go_sem] max2_int min2_int max_two min_two max_three min_three max_four min_four   -- for this text's walks alone
set_option linter.unusedVariables false
set_option linter.unusedSimpArgs false
/-! ### spec_TokenText: function 9 -/
def spec_TokenText.f (k : Nat) (a0_0 : Int) (a0_1 : Int) (a0_2 : ByteArray) (a0_3 : Bool) (a0_4 : Bool) : Option (ByteArray) := (spec_ValidToken.f k a0_0 a0_1 a0_2 a0_3 a0_4).bind fun t136 => (if t136 = true then ((spec_l02Text.f k a0_0 a0_1 a0_2 a0_3 a0_4).bind fun t137 => (some t137)) else (some (⟨#[]⟩ : ByteArray)))
set_option maxHeartbeats 8000000 in
set_option maxRecDepth 100000 in
theorem spec_TokenText.calls (k : Nat) (a0_0 : Int) (a0_1 : Int) (a0_2 : ByteArray) (a0_3 : Bool) (a0_4 : Bool) (r : ByteArray) (w : World) (h : spec_TokenText.f k a0_0 a0_1 a0_2 a0_3 a0_4 = some r) :
  Calls Tryd.prog 9 #[.agg #[.int .i64 a0_0, .int .i64 a0_1, .string a0_2, .bool a0_3, .bool a0_4]] w fun e w' => e = .returned (.string r) ∧ Below w.heap.size w w' := by
 have hu26 := Tryd.underlying26
 have HB := Aside0.mk (Below.refl w.heap.size w)
 have H : ((spec_ValidToken.f k a0_0 a0_1 a0_2 a0_3 a0_4).bind fun t136 => (if t136 = true then ((spec_l02Text.f k a0_0 a0_1 a0_2 a0_3 a0_4).bind fun t137 => (some t137)) else (some (⟨#[]⟩ : ByteArray)))) = some r := h
 clear h
 obtain ⟨t136, A2, H⟩ := sO H
 by_cases c3 : t136 = true
 ·subst c3
  rewrite [if_pos rfl] at H
  obtain ⟨t137, A4, H⟩ := sO H
  obtain rfl := Option.some.inj H
  go_enter Tryd.func9, Tryd.ntmps9
  go_wp2_with (first | ((with_reducible refine gate_dst (N := 1) rfl ?_); refine sV (N := 1) (cs := #[.int .i64 a0_0, .int .i64 a0_1, .string a0_2, .bool a0_3, .bool a0_4]) (t := 26) ?_; intro gb135 hg w5 hbox hb; have n0_ := sB HB hb; have n1_ := Aside0.mk (hbox); have n2_ := sG HB hg; have n3_ := sG HB hg; clear HB; have HB := n0_; have BK135 := n1_; have GW135 := n2_; have GE135 := n3_; clear n0_ n1_ n2_ n3_; clear hb hbox hg; obtain ⟨hcz6_0, hcz6_1, hcz6_2, hcz6_3, hcz6_4, hfz6_0, hfz6_1, hfz6_2, hfz6_3, hfz6_4⟩ := cells5 BK135.out) | ((with_reducible refine gate_callee (f := 32) rfl ?_); refine sC (some 4) Tryd.func32 #[.agg #[.int .i64 a0_0, .int .i64 a0_1, .string a0_2, .bool a0_3, .bool a0_4]] (spec_ValidToken.calls k a0_0 a0_1 a0_2 a0_3 a0_4 true _ A2.out) ?_; rintro e w7 ⟨rfl, hb⟩; refine ⟨_, rfl, ?_⟩; have n0_ := sK BK135 hb; have n1_ := sB HB hb; clear BK135; clear HB; have BK135 := n0_; have HB := n1_; clear n0_ n1_; (try clear hb); (try clear hb2); (try clear hk); (try clear hi); obtain ⟨hcz8_0, hcz8_1, hcz8_2, hcz8_3, hcz8_4, hfz8_0, hfz8_1, hfz8_2, hfz8_3, hfz8_4⟩ := cells5 BK135.out) | ((with_reducible refine gate_callee (f := 33) rfl ?_); refine sC (some 7) Tryd.func33 #[.agg #[.int .i64 a0_0, .int .i64 a0_1, .string a0_2, .bool a0_3, .bool a0_4]] (spec_l02Text.calls k a0_0 a0_1 a0_2 a0_3 a0_4 t137 _ A4.out) ?_; rintro e w9 ⟨rfl, hb⟩; refine ⟨_, rfl, ?_⟩; have n0_ := sK BK135 hb; have n1_ := sB HB hb; clear BK135; clear HB; have BK135 := n0_; have HB := n1_; clear n0_ n1_; (try clear hb); (try clear hb2); (try clear hk); (try clear hi)))
  go_ret
  exact ⟨sq, sb⟩
 replace c3 := Bool.eq_false_iff.mpr c3
 subst c3
 rewrite [if_neg (show ¬ (false = true) by decide)] at H
 obtain rfl := Option.some.inj H
 go_enter Tryd.func9, Tryd.ntmps9
 go_wp2_with (first | ((with_reducible refine gate_dst (N := 1) rfl ?_); refine sV (N := 1) (cs := #[.int .i64 a0_0, .int .i64 a0_1, .string a0_2, .bool a0_3, .bool a0_4]) (t := 26) ?_; intro gb135 hg w10 hbox hb; have n0_ := sB HB hb; have n1_ := Aside0.mk (hbox); have n2_ := sG HB hg; have n3_ := sG HB hg; clear HB; have HB := n0_; have BK135 := n1_; have GW135 := n2_; have GE135 := n3_; clear n0_ n1_ n2_ n3_; clear hb hbox hg; obtain ⟨hcz11_0, hcz11_1, hcz11_2, hcz11_3, hcz11_4, hfz11_0, hfz11_1, hfz11_2, hfz11_3, hfz11_4⟩ := cells5 BK135.out) | ((with_reducible refine gate_callee (f := 32) rfl ?_); refine sC (some 4) Tryd.func32 #[.agg #[.int .i64 a0_0, .int .i64 a0_1, .string a0_2, .bool a0_3, .bool a0_4]] (spec_ValidToken.calls k a0_0 a0_1 a0_2 a0_3 a0_4 false _ A2.out) ?_; rintro e w12 ⟨rfl, hb⟩; refine ⟨_, rfl, ?_⟩; have n0_ := sK BK135 hb; have n1_ := sB HB hb; clear BK135; clear HB; have BK135 := n0_; have HB := n1_; clear n0_ n1_; (try clear hb); (try clear hb2); (try clear hk); (try clear hi)))
 go_ret
 exact ⟨sq, sb⟩

/-! ### laws_FnExactTokenText: function 3 -/
def laws_FnExactTokenText.f (k : Nat) (a0_0 : Int) (a0_1 : Int) (a0_2 : ByteArray) (a0_3 : Bool) (a0_4 : Bool) : Option (Bool) := (laws_szToken.f a0_0 a0_1 a0_2 a0_3 a0_4 1048576).bind fun t197 => (if t197 < 0 then (some true) else ((laws_toToken.f a0_0 a0_1 a0_2 a0_3 a0_4).bind fun bt198 => ((spec_TokenText.f k bt198.1 bt198.2.1 bt198.2.2.1 bt198.2.2.2.1 bt198.2.2.2.2).bind fun t203 => ((laws_toToken.f a0_0 a0_1 a0_2 a0_3 a0_4).bind fun bt204 => ((impl_TokenText.f k bt204.1 bt204.2.1 bt204.2.2.1 bt204.2.2.2.1 bt204.2.2.2.2).bind fun t209 => (if t209.toList = t203.toList then (some true) else (some false)))))))
set_option maxHeartbeats 8000000 in
set_option maxRecDepth 100000 in
theorem laws_FnExactTokenText.calls (k : Nat) (a0_0 : Int) (a0_1 : Int) (a0_2 : ByteArray) (a0_3 : Bool) (a0_4 : Bool) (w : World) (h : laws_FnExactTokenText.f k a0_0 a0_1 a0_2 a0_3 a0_4 = some true) (HT : EnvT w) :
  Calls Tryd.prog 3 #[.agg #[.int .i64 a0_0, .int .i64 a0_1, .string a0_2, .bool a0_3, .bool a0_4]] w fun e w' => e = .returned (.bool true) ∧ Below w.heap.size w w' := by
 have hu23 := Tryd.underlying23
 have HB := Aside0.mk (Below.refl w.heap.size w)
 have H : ((laws_szToken.f a0_0 a0_1 a0_2 a0_3 a0_4 1048576).bind fun t197 => (if t197 < 0 then (some true) else ((laws_toToken.f a0_0 a0_1 a0_2 a0_3 a0_4).bind fun bt198 => ((spec_TokenText.f k bt198.1 bt198.2.1 bt198.2.2.1 bt198.2.2.2.1 bt198.2.2.2.2).bind fun t203 => ((laws_toToken.f a0_0 a0_1 a0_2 a0_3 a0_4).bind fun bt204 => ((impl_TokenText.f k bt204.1 bt204.2.1 bt204.2.2.1 bt204.2.2.2.1 bt204.2.2.2.2).bind fun t209 => (if t209.toList = t203.toList then (some true) else (some false)))))))) = some true := h
 clear h
 obtain ⟨t197, A2, H⟩ := sO H
 by_cases c3 : t197 < 0
 ·rw [if_pos c3] at H
  have c3b0 := decide_eq_true c3
  clear c3
  clear H
  go_enter Tryd.func3, Tryd.ntmps3
  go_wp2_with (first | ((with_reducible refine gate_dst (N := 1) rfl ?_); refine sV (N := 1) (cs := #[.int .i64 a0_0, .int .i64 a0_1, .string a0_2, .bool a0_3, .bool a0_4]) (t := 23) ?_; intro gb196 hg w4 hbox hb; have n0_ := sB HB hb; have n1_ := Aside0.mk (hbox); have n2_ := sG HB hg; have n3_ := sG HB hg; clear HB; have HB := n0_; have BK196 := n1_; have GW196 := n2_; have GE196 := n3_; clear n0_ n1_ n2_ n3_; clear hb hbox hg; obtain ⟨hcz5_0, hcz5_1, hcz5_2, hcz5_3, hcz5_4, hfz5_0, hfz5_1, hfz5_2, hfz5_3, hfz5_4⟩ := cells5 BK196.out) | ((with_reducible refine gate_callee (f := 8) rfl ?_); refine sC (some 8) Tryd.func8 #[.agg #[.int .i64 a0_0, .int .i64 a0_1, .string a0_2, .bool a0_3, .bool a0_4], .int .i64 1048576] (laws_szToken.calls a0_0 a0_1 a0_2 a0_3 a0_4 1048576 t197 _ A2.out) ?_; rintro e w6 ⟨rfl, hb⟩; refine ⟨_, rfl, ?_⟩; have n0_ := sK BK196 hb; have n1_ := sB HB hb; clear BK196; clear HB; have BK196 := n0_; have HB := n1_; clear n0_ n1_; (try clear hb); (try clear hb2); (try clear hk); (try clear hi)))
  go_ret
  exact ⟨sq, sb⟩
 rw [if_neg c3] at H
 have c3b0 := decide_eq_false c3
 clear c3
 replace H := Option.bind_eq_some_iff.mp H
 obtain ⟨⟨t198, t199, t200, t201, t202⟩, A70, H⟩ := H
 replace H : ((spec_TokenText.f k t198 t199 t200 t201 t202).bind fun t203 => ((laws_toToken.f a0_0 a0_1 a0_2 a0_3 a0_4).bind fun bt204 => ((impl_TokenText.f k bt204.1 bt204.2.1 bt204.2.2.1 bt204.2.2.2.1 bt204.2.2.2.2).bind fun t209 => (if t209.toList = t203.toList then (some true) else (some false))))) = some true := H
 have A7 := Aside0.mk A70
 clear A70
 obtain ⟨t203, A8, H⟩ := sO H
 replace H := Option.bind_eq_some_iff.mp H
 obtain ⟨⟨t204, t205, t206, t207, t208⟩, A90, H⟩ := H
 replace H : ((impl_TokenText.f k t204 t205 t206 t207 t208).bind fun t209 => (if t209.toList = t203.toList then (some true) else (some false))) = some true := H
 have A9 := Aside0.mk A90
 clear A90
 obtain ⟨t209, A10, H⟩ := sO H
 by_cases c11 : t209.toList = t203.toList
 ·rw [if_pos c11] at H
  have c11b0 : (t209.toList == t203.toList) = true := beq_iff_eq.mpr c11
  have c11b1 : (t209.toList != t203.toList) = false := bne_eq_false_iff_eq.mpr c11
  clear c11
  clear H
  go_enter Tryd.func3, Tryd.ntmps3
  go_wp2_with (first | ((with_reducible refine gate_dst (N := 1) rfl ?_); refine sV (N := 1) (cs := #[.int .i64 a0_0, .int .i64 a0_1, .string a0_2, .bool a0_3, .bool a0_4]) (t := 23) ?_; intro gb196 hg w12 hbox hb; have n0_ := sB HB hb; have n1_ := Aside0.mk (hbox); have n2_ := sG HB hg; have n3_ := sG HB hg; clear HB; have HB := n0_; have BK196 := n1_; have GW196 := n2_; have GE196 := n3_; clear n0_ n1_ n2_ n3_; clear hb hbox hg; obtain ⟨hcz13_0, hcz13_1, hcz13_2, hcz13_3, hcz13_4, hfz13_0, hfz13_1, hfz13_2, hfz13_3, hfz13_4⟩ := cells5 BK196.out) | ((with_reducible refine gate_callee (f := 8) rfl ?_); refine sC (some 8) Tryd.func8 #[.agg #[.int .i64 a0_0, .int .i64 a0_1, .string a0_2, .bool a0_3, .bool a0_4], .int .i64 1048576] (laws_szToken.calls a0_0 a0_1 a0_2 a0_3 a0_4 1048576 t197 _ A2.out) ?_; rintro e w14 ⟨rfl, hb⟩; refine ⟨_, rfl, ?_⟩; have n0_ := sK BK196 hb; have n1_ := sB HB hb; clear BK196; clear HB; have BK196 := n0_; have HB := n1_; clear n0_ n1_; (try clear hb); (try clear hb2); (try clear hk); (try clear hi); obtain ⟨hcz15_0, hcz15_1, hcz15_2, hcz15_3, hcz15_4, hfz15_0, hfz15_1, hfz15_2, hfz15_3, hfz15_4⟩ := cells5 BK196.out) | ((with_reducible refine gate_callee (f := 10) rfl ?_); refine sC (some 12) Tryd.func10 #[.agg #[.int .i64 a0_0, .int .i64 a0_1, .string a0_2, .bool a0_3, .bool a0_4]] (laws_toToken.calls a0_0 a0_1 a0_2 a0_3 a0_4 t198 t199 t200 t201 t202 _ A7.out) ?_; rintro e w16 ⟨rfl, hb⟩; refine ⟨_, rfl, ?_⟩; have n0_ := sK BK196 hb; have n1_ := sB HB hb; clear BK196; clear HB; have BK196 := n0_; have HB := n1_; clear n0_ n1_; (try clear hb); (try clear hb2); (try clear hk); (try clear hi)) | ((with_reducible refine gate_callee (f := 9) rfl ?_); refine sC (some 13) Tryd.func9 #[.agg #[.int .i64 t198, .int .i64 t199, .string t200, .bool t201, .bool t202]] (spec_TokenText.calls k t198 t199 t200 t201 t202 t203 _ A8.out) ?_; rintro e w17 ⟨rfl, hb⟩; refine ⟨_, rfl, ?_⟩; have n0_ := sK BK196 hb; have n1_ := sB HB hb; clear BK196; clear HB; have BK196 := n0_; have HB := n1_; clear n0_ n1_; (try clear hb); (try clear hb2); (try clear hk); (try clear hi); obtain ⟨hcz18_0, hcz18_1, hcz18_2, hcz18_3, hcz18_4, hfz18_0, hfz18_1, hfz18_2, hfz18_3, hfz18_4⟩ := cells5 BK196.out) | ((with_reducible refine gate_callee (f := 10) rfl ?_); refine sC (some 15) Tryd.func10 #[.agg #[.int .i64 a0_0, .int .i64 a0_1, .string a0_2, .bool a0_3, .bool a0_4]] (laws_toToken.calls a0_0 a0_1 a0_2 a0_3 a0_4 t204 t205 t206 t207 t208 _ A9.out) ?_; rintro e w19 ⟨rfl, hb⟩; refine ⟨_, rfl, ?_⟩; have n0_ := sK BK196 hb; have n1_ := sB HB hb; clear BK196; clear HB; have BK196 := n0_; have HB := n1_; clear n0_ n1_; (try clear hb); (try clear hb2); (try clear hk); (try clear hi)) | ((with_reducible refine gate_callee (f := 11) rfl ?_); refine sC (some 16) Tryd.func11 #[.agg #[.int .i64 t204, .int .i64 t205, .string t206, .bool t207, .bool t208]] (impl_TokenText.calls k t204 t205 t206 t207 t208 t209 _ A10.out (by first | exact HT | exact EnvT.below HT (sH HB.out))) ?_; rintro e w20 ⟨rfl, hb⟩; refine ⟨_, rfl, ?_⟩; have n0_ := sK BK196 hb; have n1_ := sB HB hb; clear BK196; clear HB; have BK196 := n0_; have HB := n1_; clear n0_ n1_; (try clear hb); (try clear hb2); (try clear hk); (try clear hi)))
  go_ret
  exact ⟨sq, sb⟩
 rw [if_neg c11] at H
 have c11b0 : (t209.toList == t203.toList) = false := beq_eq_false_iff_ne.mpr c11
 have c11b1 : (t209.toList != t203.toList) = true := bne_iff_ne.mpr c11
 exact absurd H (by simp)
end Go.Proofs.YtpbjagjknaglgaaDoor.PFnExactTokenText
