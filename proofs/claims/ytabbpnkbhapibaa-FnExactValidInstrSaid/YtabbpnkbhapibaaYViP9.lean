/- Printed functions: laws_FnExactValidInstr. -/
import Derived.Test.YtabbpnkbhapibaaYViP0
import Derived.Test.YtabbpnkbhapibaaYViP1
import Derived.Test.YtabbpnkbhapibaaYViP4
import Derived.Test.YtabbpnkbhapibaaYViP8
namespace Go.Proofs.Ytabbpnkbhapibaa.PFnExactValidInstr
open Go.RowKit Go.Proofs.YtabbpnkbhapibaaG Go.Proofs.YtabbpnkbhapibaaW.PrintWords Go.Proofs.YtabbpnkbhapibaaW.PrintLast Go.Proofs.YtabbpnkbhapibaaW.PrintMore
attribute [local go_sem] max2_int min2_int max_two min_two max_three min_three max_four min_four   -- for this text's walks alone
set_option linter.unusedVariables false
set_option linter.unusedSimpArgs false
/-! ### laws_FnExactValidInstr: function 10 -/
def laws_FnExactValidInstr.f (k : Nat) (a0_0 : Int) (a0_1 : Int) (a0_2 : ByteArray) : Option (Bool) := (laws_szInstr.f a0_0 a0_1 a0_2 1048576).bind fun t171 => (if t171 < 0 then (some true) else ((laws_toInstr.f a0_0 a0_1 a0_2).bind fun bt172 => ((spec_ValidInstr.f k bt172.1 bt172.2.1 bt172.2.2).bind fun t175 => ((laws_toInstr.f a0_0 a0_1 a0_2).bind fun bt176 => ((impl_ValidInstr.f k bt176.1 bt176.2.1 bt176.2.2).bind fun t179 => (if (t179 != t175) = true then (some false) else (some true)))))))
set_option maxHeartbeats 8000000 in
set_option maxRecDepth 100000 in
theorem laws_FnExactValidInstr.calls (k : Nat) (a0_0 : Int) (a0_1 : Int) (a0_2 : ByteArray) (w : World) (h : laws_FnExactValidInstr.f k a0_0 a0_1 a0_2 = some true) :
  Calls Try.prog 10 #[.agg #[.int .i64 a0_0, .int .i64 a0_1, .string a0_2]] w fun e w' => e = .returned (.bool true) ∧ Below w.heap.size w w' := by
 have hu103 := Try.underlying103
 have HB := Aside0.mk (Below.refl w.heap.size w)
 have H : ((laws_szInstr.f a0_0 a0_1 a0_2 1048576).bind fun t171 => (if t171 < 0 then (some true) else ((laws_toInstr.f a0_0 a0_1 a0_2).bind fun bt172 => ((spec_ValidInstr.f k bt172.1 bt172.2.1 bt172.2.2).bind fun t175 => ((laws_toInstr.f a0_0 a0_1 a0_2).bind fun bt176 => ((impl_ValidInstr.f k bt176.1 bt176.2.1 bt176.2.2).bind fun t179 => (if (t179 != t175) = true then (some false) else (some true)))))))) = some true := h
 clear h
 obtain ⟨t171, A2, H⟩ := sO H
 by_cases c3 : t171 < 0
 ·rw [if_pos c3] at H
  have c3b0 := decide_eq_true c3
  clear c3
  clear H
  go_enter Try.func10, Try.ntmps10
  go_wp2_with (first | ((with_reducible refine gate_dst (N := 1) rfl ?_); refine sV (N := 1) (cs := #[.int .i64 a0_0, .int .i64 a0_1, .string a0_2]) (t := 103) ?_; intro gb170 hg w4 hbox hb; have n0_ := sB HB hb; have n1_ := Aside0.mk (hbox); have n2_ := sG HB hg; have n3_ := sG HB hg; clear HB; have HB := n0_; have BK170 := n1_; have GW170 := n2_; have GE170 := n3_; clear n0_ n1_ n2_ n3_; clear hb hbox hg; obtain ⟨hcz5_0, hcz5_1, hcz5_2, hfz5_0, hfz5_1, hfz5_2⟩ := cells3 BK170.out) | ((with_reducible refine gate_callee (f := 46) rfl ?_); refine sC (some 8) Try.func46 #[.agg #[.int .i64 a0_0, .int .i64 a0_1, .string a0_2], .int .i64 1048576] (laws_szInstr.calls a0_0 a0_1 a0_2 1048576 t171 _ A2.out) ?_; rintro e w6 ⟨rfl, hb⟩; refine ⟨_, rfl, ?_⟩; have n0_ := sK BK170 hb; have n1_ := sB HB hb; clear BK170; clear HB; have BK170 := n0_; have HB := n1_; clear n0_ n1_; (try clear hb); (try clear hb2); (try clear hk); (try clear hi)))
  go_ret
  exact ⟨sq, sb⟩
 rw [if_neg c3] at H
 have c3b0 := decide_eq_false c3
 clear c3
 replace H := Option.bind_eq_some_iff.mp H
 obtain ⟨⟨t172, t173, t174⟩, A70, H⟩ := H
 replace H : ((spec_ValidInstr.f k t172 t173 t174).bind fun t175 => ((laws_toInstr.f a0_0 a0_1 a0_2).bind fun bt176 => ((impl_ValidInstr.f k bt176.1 bt176.2.1 bt176.2.2).bind fun t179 => (if (t179 != t175) = true then (some false) else (some true))))) = some true := H
 have A7 := Aside0.mk A70
 clear A70
 obtain ⟨t175, A8, H⟩ := sO H
 replace H := Option.bind_eq_some_iff.mp H
 obtain ⟨⟨t176, t177, t178⟩, A90, H⟩ := H
 replace H : ((impl_ValidInstr.f k t176 t177 t178).bind fun t179 => (if (t179 != t175) = true then (some false) else (some true))) = some true := H
 have A9 := Aside0.mk A90
 clear A90
 obtain ⟨t179, A10, H⟩ := sO H
 by_cases c11 : (t179 != t175) = true
 ·rw [if_pos c11] at H
  have c11b0 : (t179 != t175) = true := c11
  (try (have c11b1 : decide (t179 = t175) = false := by simpa using c11))
  (try (have c11b2 : (t179 == t175) = false := by simpa using c11))
  (try (have c11b3 : ¬ (t179 = t175) := by simpa using c11))
  clear c11
  exact absurd H (by simp)
 rw [if_neg c11] at H
 have c11b0 : (t179 != t175) = false := by simpa using c11
 (try (have c11b1 : decide (t179 = t175) = true := by simpa using c11))
 (try (have c11b2 : (t179 == t175) = true := by simpa using c11))
 clear c11
 clear H
 go_enter Try.func10, Try.ntmps10
 go_wp2_with (first | ((with_reducible refine gate_dst (N := 1) rfl ?_); refine sV (N := 1) (cs := #[.int .i64 a0_0, .int .i64 a0_1, .string a0_2]) (t := 103) ?_; intro gb170 hg w12 hbox hb; have n0_ := sB HB hb; have n1_ := Aside0.mk (hbox); have n2_ := sG HB hg; have n3_ := sG HB hg; clear HB; have HB := n0_; have BK170 := n1_; have GW170 := n2_; have GE170 := n3_; clear n0_ n1_ n2_ n3_; clear hb hbox hg; obtain ⟨hcz13_0, hcz13_1, hcz13_2, hfz13_0, hfz13_1, hfz13_2⟩ := cells3 BK170.out) | ((with_reducible refine gate_callee (f := 46) rfl ?_); refine sC (some 8) Try.func46 #[.agg #[.int .i64 a0_0, .int .i64 a0_1, .string a0_2], .int .i64 1048576] (laws_szInstr.calls a0_0 a0_1 a0_2 1048576 t171 _ A2.out) ?_; rintro e w14 ⟨rfl, hb⟩; refine ⟨_, rfl, ?_⟩; have n0_ := sK BK170 hb; have n1_ := sB HB hb; clear BK170; clear HB; have BK170 := n0_; have HB := n1_; clear n0_ n1_; (try clear hb); (try clear hb2); (try clear hk); (try clear hi); obtain ⟨hcz15_0, hcz15_1, hcz15_2, hfz15_0, hfz15_1, hfz15_2⟩ := cells3 BK170.out) | ((with_reducible refine gate_callee (f := 48) rfl ?_); refine sC (some 12) Try.func48 #[.agg #[.int .i64 a0_0, .int .i64 a0_1, .string a0_2]] (laws_toInstr.calls a0_0 a0_1 a0_2 t172 t173 t174 _ A7.out) ?_; rintro e w16 ⟨rfl, hb⟩; refine ⟨_, rfl, ?_⟩; have n0_ := sK BK170 hb; have n1_ := sB HB hb; clear BK170; clear HB; have BK170 := n0_; have HB := n1_; clear n0_ n1_; (try clear hb); (try clear hb2); (try clear hk); (try clear hi)) | ((with_reducible refine gate_callee (f := 47) rfl ?_); refine sC (some 13) Try.func47 #[.agg #[.int .i64 t172, .int .i64 t173, .string t174]] (spec_ValidInstr.calls k t172 t173 t174 t175 _ A8.out) ?_; rintro e w17 ⟨rfl, hb⟩; refine ⟨_, rfl, ?_⟩; have n0_ := sK BK170 hb; have n1_ := sB HB hb; clear BK170; clear HB; have BK170 := n0_; have HB := n1_; clear n0_ n1_; (try clear hb); (try clear hb2); (try clear hk); (try clear hi); obtain ⟨hcz18_0, hcz18_1, hcz18_2, hfz18_0, hfz18_1, hfz18_2⟩ := cells3 BK170.out) | ((with_reducible refine gate_callee (f := 48) rfl ?_); refine sC (some 15) Try.func48 #[.agg #[.int .i64 a0_0, .int .i64 a0_1, .string a0_2]] (laws_toInstr.calls a0_0 a0_1 a0_2 t176 t177 t178 _ A9.out) ?_; rintro e w19 ⟨rfl, hb⟩; refine ⟨_, rfl, ?_⟩; have n0_ := sK BK170 hb; have n1_ := sB HB hb; clear BK170; clear HB; have BK170 := n0_; have HB := n1_; clear n0_ n1_; (try clear hb); (try clear hb2); (try clear hk); (try clear hi)) | ((with_reducible refine gate_callee (f := 49) rfl ?_); refine sC (some 16) Try.func49 #[.agg #[.int .i64 t176, .int .i64 t177, .string t178]] (impl_ValidInstr.calls k t176 t177 t178 t179 _ A10.out) ?_; rintro e w20 ⟨rfl, hb⟩; refine ⟨_, rfl, ?_⟩; have n0_ := sK BK170 hb; have n1_ := sB HB hb; clear BK170; clear HB; have BK170 := n0_; have HB := n1_; clear n0_ n1_; (try clear hb); (try clear hb2); (try clear hk); (try clear hi)))
 go_ret
 exact ⟨sq, sb⟩
end Go.Proofs.Ytabbpnkbhapibaa.PFnExactValidInstr
