/- Printed functions: strings_ReplaceAll, impl_QuoteText, strconv_FormatInt_110, impl_decimal, impl_typeName, impl_Value_text. -/
import Derived.Test.YtpbjagjknaglgaaDoorYVtP0
import Derived.Test.YtpbjagjknaglgaaDoorYVtPE
namespace Go.Proofs.YtpbjagjknaglgaaDoor.PFnExactValueText
open Go.RowKit Go.Proofs.YtpbjagjknaglgaaDoorG Go.Proofs.YtpbjagjknaglgaaDoorW.PrintWords Go.Proofs.YtpbjagjknaglgaaDoorW.PrintLast Go.Proofs.YtpbjagjknaglgaaDoorW.PrintMore
attribute [local go_sem] max2_int min2_int max_two min_two max_three min_three max_four min_four   -- for this text's walks alone
set_option linter.unusedVariables false
set_option linter.unusedSimpArgs false
section
attribute [local go_sem high] eqA54
/-! ### strings_ReplaceAll: function 94 -/
def strings_ReplaceAll.f (a0 : ByteArray) (a1 : ByteArray) (a2 : ByteArray) : Option (ByteArray) := if a0.size < 4294967281 then (if 1 ≤ a1.size then (if a0.size + Lib.countB a0 a1 * a2.size ≤ 140737488355328 then (some ⟨(Lib.replaceAll a0.data.toList a1.data.toList a2.data.toList).toArray⟩) else (none)) else (none)) else (none)
theorem strings_ReplaceAll.calls (a0 : ByteArray) (a1 : ByteArray) (a2 : ByteArray) (r : ByteArray) (w : World) (h : strings_ReplaceAll.f a0 a1 a2 = some r) (HT : EnvT w) :
  Calls Tryd.prog 94 #[.string a0, .string a1, .string a2] w fun e w' => e = .returned (.string r) ∧ Below w.heap.size w w' := by
 unfold strings_ReplaceAll.f at h
 split at h
 · rename_i h1
   split at h
   · rename_i h2
     split at h
     · rename_i h3
       obtain rfl := Option.some.inj h
       exact replace_calls a0 a1 a2 w HT h1 h2 h3
     · cases h
   · cases h
 · cases h
end

/-! ### impl_QuoteText: function 101 -/
def impl_QuoteText.f (a0 : ByteArray) : Option (ByteArray) := (strings_ReplaceAll.f a0 (⟨#[34]⟩ : ByteArray) (⟨#[34, 34]⟩ : ByteArray)).bind fun t156 => (if 1 + t156.size ≤ 9223372036854775807 then (if 1 + t156.size + 1 ≤ 9223372036854775807 then (some (((⟨#[34]⟩ : ByteArray) ++ t156) ++ (⟨#[34]⟩ : ByteArray))) else (none)) else (none))
set_option maxHeartbeats 8000000 in
set_option maxRecDepth 100000 in
theorem impl_QuoteText.calls (a0 : ByteArray) (r : ByteArray) (w : World) (h : impl_QuoteText.f a0 = some r) (HT : EnvT w) :
  Calls Tryd.prog 101 #[.string a0] w fun e w' => e = .returned (.string r) ∧ Below w.heap.size w w' := by
 have HB := Aside0.mk (Below.refl w.heap.size w)
 have H : ((strings_ReplaceAll.f a0 (⟨#[34]⟩ : ByteArray) (⟨#[34, 34]⟩ : ByteArray)).bind fun t156 => (if 1 + t156.size ≤ 9223372036854775807 then (if 1 + t156.size + 1 ≤ 9223372036854775807 then (some (((⟨#[34]⟩ : ByteArray) ++ t156) ++ (⟨#[34]⟩ : ByteArray))) else (none)) else (none))) = some r := h
 clear h
 obtain ⟨t156, A2, H⟩ := sO H
 by_cases c3 : 1 + t156.size ≤ 9223372036854775807
 ·rw [if_pos c3] at H
  have c3b0 := eq_true c3
  have c3b1 := decide_eq_true c3
  try have c3b2 : (9223372036854775807 < 1 + t156.size) = False := eq_false (Nat.not_lt.2 c3)
  by_cases c4 : 1 + t156.size + 1 ≤ 9223372036854775807
  ·rw [if_pos c4] at H
   have c4b0 := eq_true c4
   have c4b1 := decide_eq_true c4
   try have c4b2 : (9223372036854775807 < 1 + t156.size + 1) = False := eq_false (Nat.not_lt.2 c4)
   obtain rfl := Option.some.inj H
   go_enter Tryd.func101, Tryd.ntmps101
   go_wp2_with (first | ((with_reducible refine gate_callee (f := 94) rfl ?_); refine sC (some 4) Tryd.func94 #[.string a0, .string (⟨#[34]⟩ : ByteArray), .string (⟨#[34, 34]⟩ : ByteArray)] (strings_ReplaceAll.calls a0 (⟨#[34]⟩ : ByteArray) (⟨#[34, 34]⟩ : ByteArray) t156 _ A2.out (by first | with_reducible exact HT | exact EnvT.below HT sb)) ?_; rintro e w5 ⟨rfl, hb⟩; refine ⟨_, rfl, ?_⟩; have n0_ := sB HB hb; clear HB; have HB := n0_; clear n0_; (try clear hb); (try clear hb2); (try clear hk); (try clear hi)))
   go_ret
   exact ⟨sq, sb⟩
  rw [if_neg c4] at H
  exact absurd H (by simp)
 rw [if_neg c3] at H
 exact absurd H (by simp)

/-! ### strconv_FormatInt_110: function 110 -/
def strconv_FormatInt_110.f (a0 : Int) (a1 : Int) : Option (ByteArray) := if a1 = 10 then (if -9223372036854775808 ≤ a0 then (if a0 ≤ 9223372036854775807 then (some ⟨(Lib.itoa a0).toArray⟩) else (none)) else (none)) else (none)
theorem strconv_FormatInt_110.calls (a0 : Int) (a1 : Int) (r : ByteArray) (w : World) (h : strconv_FormatInt_110.f a0 a1 = some r) (HT : EnvT w) :
  Calls Tryd.prog 110 #[.int .i64 a0, .int .i64 a1] w fun e w' => e = .returned (.string r) ∧ Below w.heap.size w w' := by
 unfold strconv_FormatInt_110.f at h
 split at h
 · rename_i h1
   subst h1
   split at h
   · split at h
     · rename_i h0 h2
       obtain rfl := Option.some.inj h
       exact format_calls a0 h0 h2 w HT
     · cases h
   · cases h
 · cases h

/-! ### impl_decimal: function 78 -/
def impl_decimal.f (a0 : Int) : Option (ByteArray) := (strconv_FormatInt_110.f a0 10).bind fun t176 => (some t176)
set_option maxHeartbeats 8000000 in
set_option maxRecDepth 100000 in
theorem impl_decimal.calls (a0 : Int) (r : ByteArray) (w : World) (h : impl_decimal.f a0 = some r) (HT : EnvT w) :
  Calls Tryd.prog 78 #[.int .i64 a0] w fun e w' => e = .returned (.string r) ∧ Below w.heap.size w w' := by
 have HB := Aside0.mk (Below.refl w.heap.size w)
 have H : ((strconv_FormatInt_110.f a0 10).bind fun t176 => (some t176)) = some r := h
 clear h
 obtain ⟨t176, A2, H⟩ := sO H
 obtain rfl := Option.some.inj H
 go_enter Tryd.func78, Tryd.ntmps78
 go_wp2_with (first | ((with_reducible refine gate_callee (f := 110) rfl ?_); refine sC (some 4) Tryd.func110 #[.int .i64 a0, .int .i64 10] (strconv_FormatInt_110.calls a0 10 t176 _ A2.out (by first | with_reducible exact HT | exact EnvT.below HT sb)) ?_; rintro e w3 ⟨rfl, hb⟩; refine ⟨_, rfl, ?_⟩; have n0_ := sB HB hb; clear HB; have HB := n0_; clear n0_; (try clear hb); (try clear hb2); (try clear hk); (try clear hi)))
 go_ret
 exact ⟨sq, sb⟩

/-! ### impl_typeName: function 102 -/
def impl_typeName.names : List ByteArray := [(⟨#[]⟩ : ByteArray), (⟨#[115, 116, 114, 105, 110, 103]⟩ : ByteArray), (⟨#[105, 110, 116, 101, 103, 101, 114]⟩ : ByteArray), (⟨#[112, 97, 116, 116, 101, 114, 110]⟩ : ByteArray), (⟨#[97, 114, 114, 97, 121]⟩ : ByteArray), (⟨#[116, 97, 98, 108, 101]⟩ : ByteArray), (⟨#[114, 101, 99, 111, 114, 100]⟩ : ByteArray), (⟨#[110, 97, 109, 101]⟩ : ByteArray), (⟨#[101, 120, 112, 114, 101, 115, 115, 105, 111, 110]⟩ : ByteArray)]
def impl_typeName.f (a0 : Int) : Option (ByteArray) := if 0 ≤ a0 then (if a0 < 9 then (some (rdOf ByteArray.empty impl_typeName.names a0)) else none) else none
set_option maxHeartbeats 4000000 in
set_option maxRecDepth 100000 in
theorem impl_typeName.calls (a0 : Int) (r : ByteArray) (w : World) (h : impl_typeName.f a0 = some r) :
  Calls Tryd.prog 102 #[.int .i64 a0] w fun e w' => e = .returned (.string r) ∧ Below w.heap.size w w' := by
 unfold impl_typeName.f at h
 split at h
 · rename_i h0
   split at h
   · rename_i h1
     obtain rfl := Option.some.inj h
     clear h
     have HB := Aside0.mk (Below.refl w.heap.size w)
     have hn : ∃ n : Nat, a0 = n ∧ n < 9 := ⟨a0.toNat, by omega, by omega⟩
     obtain ⟨n, rfl, hn⟩ := hn
     have : n = 0 ∨ n = 1 ∨ n = 2 ∨ n = 3 ∨ n = 4 ∨ n = 5 ∨ n = 6 ∨ n = 7 ∨ n = 8 := by omega
     go_enter Tryd.func102, Tryd.ntmps102
     rcases this with rfl | rfl | rfl | rfl | rfl | rfl | rfl | rfl | rfl <;> (go_wp2; go_ret; exact ⟨rfl, sb⟩)
   · cases h
 · cases h

/-! ### impl_Value_text: function 67 -/
def impl_Value_text.f (a0_0 : Int) (a0_1 : Int) (a0_2 : ByteArray) (a0_3 : Int) : Option (ByteArray) := if a0_0 = 1 then ((impl_QuoteText.f a0_2).bind fun t178 => (some t178)) else (if a0_0 = 2 then ((impl_decimal.f a0_1).bind fun t179 => (some t179)) else (if a0_0 = 3 then (if 1 + a0_2.size ≤ 9223372036854775807 then (if 1 + a0_2.size + 1 ≤ 9223372036854775807 then (some (((⟨#[60]⟩ : ByteArray) ++ a0_2) ++ (⟨#[62]⟩ : ByteArray))) else (none)) else (none)) else (if a0_0 = 7 then (if 1 + a0_2.size ≤ 9223372036854775807 then (some ((⟨#[46]⟩ : ByteArray) ++ a0_2)) else (none)) else (if a0_0 = 8 then (if 1 + a0_2.size ≤ 9223372036854775807 then (some ((⟨#[42]⟩ : ByteArray) ++ a0_2)) else (none)) else ((impl_typeName.f a0_0).bind fun t180 => (if t180.size + 1 ≤ 9223372036854775807 then ((impl_decimal.f a0_3).bind fun t181 => (if t180.size + 1 + t181.size ≤ 9223372036854775807 then (some ((t180 ++ (⟨#[35]⟩ : ByteArray)) ++ t181)) else (none))) else (none)))))))
def impl_Value_text.T12 : Bool × List (List Nat × List Nat) := (true, [([], []), ([0], [0]), ([1], [1]), ([2], [2]), ([], []), ([4], [4]), ([5, 2], [5]), ([3, 6], [3, 6]), ([7, 6, 0, 1, 2, 3, 4, 5, 6, 7], [7])])
def impl_Value_text.B12 : List Nat := [0, 1, 3, 7, 0, 16, 55, 127, 255]
theorem impl_Value_text.tab12 : rtab .any (opsOf Tryd.f67 12) = impl_Value_text.T12 := by kernel_rfl
theorem impl_Value_text.bits12 : waitsOk impl_Value_text.T12.2 impl_Value_text.B12 = true := by kernel_rfl
set_option maxHeartbeats 8000000 in
set_option maxRecDepth 100000 in
theorem impl_Value_text.calls (a0_0 : Int) (a0_1 : Int) (a0_2 : ByteArray) (a0_3 : Int) (r : ByteArray) (w : World) (h : impl_Value_text.f a0_0 a0_1 a0_2 a0_3 = some r) (HT : EnvT w) :
  Calls Tryd.prog 67 #[.agg #[.int .i64 a0_0, .int .i64 a0_1, .string a0_2, .int .i64 a0_3]] w fun e w' => e = .returned (.string r) ∧ Below w.heap.size w w' := by
 have hu54 := Tryd.underlying54
 have HB := Aside0.mk (Below.refl w.heap.size w)
 have H : (if a0_0 = 1 then ((impl_QuoteText.f a0_2).bind fun t178 => (some t178)) else (if a0_0 = 2 then ((impl_decimal.f a0_1).bind fun t179 => (some t179)) else (if a0_0 = 3 then (if 1 + a0_2.size ≤ 9223372036854775807 then (if 1 + a0_2.size + 1 ≤ 9223372036854775807 then (some (((⟨#[60]⟩ : ByteArray) ++ a0_2) ++ (⟨#[62]⟩ : ByteArray))) else (none)) else (none)) else (if a0_0 = 7 then (if 1 + a0_2.size ≤ 9223372036854775807 then (some ((⟨#[46]⟩ : ByteArray) ++ a0_2)) else (none)) else (if a0_0 = 8 then (if 1 + a0_2.size ≤ 9223372036854775807 then (some ((⟨#[42]⟩ : ByteArray) ++ a0_2)) else (none)) else ((impl_typeName.f a0_0).bind fun t180 => (if t180.size + 1 ≤ 9223372036854775807 then ((impl_decimal.f a0_3).bind fun t181 => (if t180.size + 1 + t181.size ≤ 9223372036854775807 then (some ((t180 ++ (⟨#[35]⟩ : ByteArray)) ++ t181)) else (none))) else (none)))))))) = some r := h
 clear h
 by_cases c2 : a0_0 = 1
 ·rw [if_pos c2] at H
  have c2b0 : (a0_0 == 1) = true := beq_iff_eq.mpr c2
  have c2b1 : (a0_0 != 1) = false := bne_eq_false_iff_eq.mpr c2
  clear c2
  obtain ⟨t178, A3, H⟩ := sO H
  obtain rfl := Option.some.inj H
  go_enter Tryd.func67, Tryd.ntmps67
  go_wp2_with (first | ((with_reducible refine gate_dst (N := 1) rfl ?_); refine sV (N := 1) (cs := #[.int .i64 a0_0, .int .i64 a0_1, .string a0_2, .int .i64 a0_3]) (t := 54) ?_; intro gb177 hg w4 hbox hb; have n0_ := sB HB hb; have n1_ := Aside0.mk (hbox); have n2_ := sG HB hg; have n3_ := sG HB hg; clear HB; have HB := n0_; have BK177 := n1_; have GW177 := n2_; have GE177 := n3_; clear n0_ n1_ n2_ n3_; clear hb hbox hg; obtain ⟨hcz5_0, hcz5_1, hcz5_2, hcz5_3, hfz5_0, hfz5_1, hfz5_2, hfz5_3⟩ := cells4 BK177.out) | ((with_reducible refine gate_callee (f := 101) rfl ?_); refine sC (some 9) Tryd.func101 #[.string a0_2] (impl_QuoteText.calls a0_2 t178 _ A3.out (by first | with_reducible exact HT | exact EnvT.below HT sb)) ?_; rintro e w6 ⟨rfl, hb⟩; refine ⟨_, rfl, ?_⟩; have n0_ := sK BK177 hb; have n1_ := sB HB hb; clear BK177; clear HB; have BK177 := n0_; have HB := n1_; clear n0_ n1_; (try clear hb); (try clear hb2); (try clear hk); (try clear hi)))
  go_ret
  exact ⟨sq, sb⟩
 rw [if_neg c2] at H
 have c2b0 : (a0_0 == 1) = false := beq_eq_false_iff_ne.mpr c2
 have c2b1 : (a0_0 != 1) = true := bne_iff_ne.mpr c2
 by_cases c7 : a0_0 = 2
 ·rw [if_pos c7] at H
  have c7b0 : (a0_0 == 2) = true := beq_iff_eq.mpr c7
  have c7b1 : (a0_0 != 2) = false := bne_eq_false_iff_eq.mpr c7
  clear c7
  obtain ⟨t179, A8, H⟩ := sO H
  obtain rfl := Option.some.inj H
  go_enter Tryd.func67, Tryd.ntmps67
  go_wp2_with (first | ((with_reducible refine gate_dst (N := 1) rfl ?_); refine sV (N := 1) (cs := #[.int .i64 a0_0, .int .i64 a0_1, .string a0_2, .int .i64 a0_3]) (t := 54) ?_; intro gb177 hg w9 hbox hb; have n0_ := sB HB hb; have n1_ := Aside0.mk (hbox); have n2_ := sG HB hg; have n3_ := sG HB hg; clear HB; have HB := n0_; have BK177 := n1_; have GW177 := n2_; have GE177 := n3_; clear n0_ n1_ n2_ n3_; clear hb hbox hg; obtain ⟨hcz10_0, hcz10_1, hcz10_2, hcz10_3, hfz10_0, hfz10_1, hfz10_2, hfz10_3⟩ := cells4 BK177.out) | ((with_reducible refine gate_callee (f := 78) rfl ?_); refine sC (some 14) Tryd.func78 #[.int .i64 a0_1] (impl_decimal.calls a0_1 t179 _ A8.out (by first | with_reducible exact HT | exact EnvT.below HT sb)) ?_; rintro e w11 ⟨rfl, hb⟩; refine ⟨_, rfl, ?_⟩; have n0_ := sK BK177 hb; have n1_ := sB HB hb; clear BK177; clear HB; have BK177 := n0_; have HB := n1_; clear n0_ n1_; (try clear hb); (try clear hb2); (try clear hk); (try clear hi)))
  go_ret
  exact ⟨sq, sb⟩
 rw [if_neg c7] at H
 have c7b0 : (a0_0 == 2) = false := beq_eq_false_iff_ne.mpr c7
 have c7b1 : (a0_0 != 2) = true := bne_iff_ne.mpr c7
 by_cases c12 : a0_0 = 3
 ·rw [if_pos c12] at H
  have c12b0 : (a0_0 == 3) = true := beq_iff_eq.mpr c12
  have c12b1 : (a0_0 != 3) = false := bne_eq_false_iff_eq.mpr c12
  clear c12
  by_cases c13 : 1 + a0_2.size ≤ 9223372036854775807
  ·rw [if_pos c13] at H
   have c13b0 := eq_true c13
   have c13b1 := decide_eq_true c13
   try have c13b2 : (9223372036854775807 < 1 + a0_2.size) = False := eq_false (Nat.not_lt.2 c13)
   by_cases c14 : 1 + a0_2.size + 1 ≤ 9223372036854775807
   ·rw [if_pos c14] at H
    have c14b0 := eq_true c14
    have c14b1 := decide_eq_true c14
    try have c14b2 : (9223372036854775807 < 1 + a0_2.size + 1) = False := eq_false (Nat.not_lt.2 c14)
    obtain rfl := Option.some.inj H
    go_enter Tryd.func67, Tryd.ntmps67
    go_wp2_with (first | ((with_reducible refine gate_dst (N := 1) rfl ?_); refine sV (N := 1) (cs := #[.int .i64 a0_0, .int .i64 a0_1, .string a0_2, .int .i64 a0_3]) (t := 54) ?_; intro gb177 hg w15 hbox hb; have n0_ := sB HB hb; have n1_ := Aside0.mk (hbox); have n2_ := sG HB hg; have n3_ := sG HB hg; clear HB; have HB := n0_; have BK177 := n1_; have GW177 := n2_; have GE177 := n3_; clear n0_ n1_ n2_ n3_; clear hb hbox hg; obtain ⟨hcz16_0, hcz16_1, hcz16_2, hcz16_3, hfz16_0, hfz16_1, hfz16_2, hfz16_3⟩ := cells4 BK177.out))
    go_ret
    exact ⟨sq, sb⟩
   rw [if_neg c14] at H
   exact absurd H (by simp)
  rw [if_neg c13] at H
  exact absurd H (by simp)
 rw [if_neg c12] at H
 have c12b0 : (a0_0 == 3) = false := beq_eq_false_iff_ne.mpr c12
 have c12b1 : (a0_0 != 3) = true := bne_iff_ne.mpr c12
 by_cases c17 : a0_0 = 7
 ·rw [if_pos c17] at H
  have c17b0 : (a0_0 == 7) = true := beq_iff_eq.mpr c17
  have c17b1 : (a0_0 != 7) = false := bne_eq_false_iff_eq.mpr c17
  clear c17
  by_cases c18 : 1 + a0_2.size ≤ 9223372036854775807
  ·rw [if_pos c18] at H
   have c18b0 := eq_true c18
   have c18b1 := decide_eq_true c18
   try have c18b2 : (9223372036854775807 < 1 + a0_2.size) = False := eq_false (Nat.not_lt.2 c18)
   obtain rfl := Option.some.inj H
   go_enter Tryd.func67, Tryd.ntmps67
   go_wp2_with (first | ((with_reducible refine gate_dst (N := 1) rfl ?_); refine sV (N := 1) (cs := #[.int .i64 a0_0, .int .i64 a0_1, .string a0_2, .int .i64 a0_3]) (t := 54) ?_; intro gb177 hg w19 hbox hb; have n0_ := sB HB hb; have n1_ := Aside0.mk (hbox); have n2_ := sG HB hg; have n3_ := sG HB hg; clear HB; have HB := n0_; have BK177 := n1_; have GW177 := n2_; have GE177 := n3_; clear n0_ n1_ n2_ n3_; clear hb hbox hg; obtain ⟨hcz20_0, hcz20_1, hcz20_2, hcz20_3, hfz20_0, hfz20_1, hfz20_2, hfz20_3⟩ := cells4 BK177.out))
   go_ret
   exact ⟨sq, sb⟩
  rw [if_neg c18] at H
  exact absurd H (by simp)
 rw [if_neg c17] at H
 have c17b0 : (a0_0 == 7) = false := beq_eq_false_iff_ne.mpr c17
 have c17b1 : (a0_0 != 7) = true := bne_iff_ne.mpr c17
 by_cases c21 : a0_0 = 8
 ·rw [if_pos c21] at H
  have c21b0 : (a0_0 == 8) = true := beq_iff_eq.mpr c21
  have c21b1 : (a0_0 != 8) = false := bne_eq_false_iff_eq.mpr c21
  clear c21
  by_cases c22 : 1 + a0_2.size ≤ 9223372036854775807
  ·rw [if_pos c22] at H
   have c22b0 := eq_true c22
   have c22b1 := decide_eq_true c22
   try have c22b2 : (9223372036854775807 < 1 + a0_2.size) = False := eq_false (Nat.not_lt.2 c22)
   obtain rfl := Option.some.inj H
   go_enter Tryd.func67, Tryd.ntmps67
   go_wp2_with (first | ((with_reducible refine gate_dst (N := 1) rfl ?_); refine sV (N := 1) (cs := #[.int .i64 a0_0, .int .i64 a0_1, .string a0_2, .int .i64 a0_3]) (t := 54) ?_; intro gb177 hg w23 hbox hb; have n0_ := sB HB hb; have n1_ := Aside0.mk (hbox); have n2_ := sG HB hg; have n3_ := sG HB hg; clear HB; have HB := n0_; have BK177 := n1_; have GW177 := n2_; have GE177 := n3_; clear n0_ n1_ n2_ n3_; clear hb hbox hg; obtain ⟨hcz24_0, hcz24_1, hcz24_2, hcz24_3, hfz24_0, hfz24_1, hfz24_2, hfz24_3⟩ := cells4 BK177.out))
   go_ret
   exact ⟨sq, sb⟩
  rw [if_neg c22] at H
  exact absurd H (by simp)
 rw [if_neg c21] at H
 have c21b0 : (a0_0 == 8) = false := beq_eq_false_iff_ne.mpr c21
 have c21b1 : (a0_0 != 8) = true := bne_iff_ne.mpr c21
 obtain ⟨t180, A25, H⟩ := sO H
 by_cases c26 : t180.size + 1 ≤ 9223372036854775807
 ·rw [if_pos c26] at H
  have c26b0 := eq_true c26
  have c26b1 := decide_eq_true c26
  try have c26b2 : (9223372036854775807 < t180.size + 1) = False := eq_false (Nat.not_lt.2 c26)
  obtain ⟨t181, A27, H⟩ := sO H
  by_cases c28 : t180.size + 1 + t181.size ≤ 9223372036854775807
  ·rw [if_pos c28] at H
   have c28b0 := eq_true c28
   have c28b1 := decide_eq_true c28
   try have c28b2 : (9223372036854775807 < t180.size + 1 + t181.size) = False := eq_false (Nat.not_lt.2 c28)
   obtain rfl := Option.some.inj H
   go_enter Tryd.func67, Tryd.ntmps67
   try go_wp2_with (first | ((with_reducible refine gate_dst (N := 1) rfl ?_); refine sV (N := 1) (cs := #[.int .i64 a0_0, .int .i64 a0_1, .string a0_2, .int .i64 a0_3]) (t := 54) ?_; intro gb177 hg w29 hbox hb; have n0_ := sB HB hb; have n1_ := Aside0.mk (hbox); have n2_ := sG HB hg; have n3_ := sG HB hg; clear HB; have HB := n0_; have BK177 := n1_; have GW177 := n2_; have GE177 := n3_; clear n0_ n1_ n2_ n3_; clear hb hbox hg; obtain ⟨hcz30_0, hcz30_1, hcz30_2, hcz30_3, hfz30_0, hfz30_1, hfz30_2, hfz30_3⟩ := cells4 BK177.out))
   have n0_ := Aside0.mk (blk_drew BK177.out)
   have n1_ := Aside0.mk (below_drew1 HB.out)
   clear BK177
   clear HB
   have BK177 := n0_
   have HB := n1_
   clear n0_ n1_
   refine start_ (n := 9) (S := fun w' => w'.cell? ⟨gb177, 0, none⟩ = some (.int .i64 a0_0) ∧ w'.cell? ⟨gb177, 1, none⟩ = some (.int .i64 a0_1) ∧ w'.cell? ⟨gb177, 2, none⟩ = some (.string a0_2) ∧ w'.cell? ⟨gb177, 3, none⟩ = some (.int .i64 a0_3)) (ds := []) #[false, false, false, false, false, false, false, false, false] (by kernel_rfl) rfl rfl ⟨(blk_cell BK177.out 0).trans rfl, (blk_cell BK177.out 1).trans rfl, (blk_cell BK177.out 2).trans rfl, (blk_cell BK177.out 3).trans rfl⟩ (fun hHeld => ?_); refine with_tabW impl_Value_text.tab12 impl_Value_text.bits12 (fun HT_ HW_ => ?_)
   generalize w29.drew = w31 at BK177 HB hHeld ⊢
   refine pure_ (i := 0) (N := some 31) (v := ?_) (a' := ?_) (bN 9 1) rfl rfl (any_of HT_.out (by kernel_rfl)) (fun _ _ _ h => h) (Or.inl ⟨by rfl, ?_⟩) ?_ ?_
   rotate_left
   ·intro w'
    go_simp
    with_reducible rfl
   rotate_left
   ·simp only [Act.put, List.setIfInBounds_toArray, List.set_cons_zero, List.set_cons_succ, i64_w, i32_w]
    rfl
   refine pure_ (i := 4) (N := some 35) (v := ?_) (a' := ?_) (bN 9 17) rfl rfl (any_of HT_.out (by kernel_rfl)) (fun _ _ _ h => h) (Or.inl ⟨by rfl, ?_⟩) ?_ ?_
   rotate_left
   ·intro w'
    go_simp
    with_reducible rfl
   rotate_left
   ·simp only [Act.put, List.setIfInBounds_toArray, List.set_cons_zero, List.set_cons_succ, i64_w, i32_w]
    rfl
   refine take_ (i := 1) (N := some 32) (v := ?_) (a' := ?_) (bN 9 19) rfl rfl (take_ofW HT_.out HW_.out (by kernel_rfl)) (fun _ _ _ h => h) (Or.inl ⟨by rfl, ?_⟩) hHeld ?_ ?_
   rotate_left
   ·rintro w' ⟨s0, s1, s2, s3⟩
    go_simp
    with_reducible rfl
   rotate_left
   ·simp only [Act.put, List.setIfInBounds_toArray, List.set_cons_zero, List.set_cons_succ, i64_w, i32_w]
    rfl
   refine take_ (i := 5) (N := some 36) (v := ?_) (a' := ?_) (bN 9 51) rfl rfl (take_ofW HT_.out HW_.out (by kernel_rfl)) (fun _ _ _ h => h) (Or.inl ⟨by rfl, ?_⟩) hHeld ?_ ?_
   rotate_left
   ·rintro w' ⟨s0, s1, s2, s3⟩
    go_simp
    with_reducible rfl
   rotate_left
   ·simp only [Act.put, List.setIfInBounds_toArray, List.set_cons_zero, List.set_cons_succ, i64_w, i32_w]
    rfl
   refine one_ (i := 2) (N := some 33) (bN 9 55) rfl rfl (one_of HT_.out (by kernel_rfl)) (by decide) (fun K hK => ?_)
   refine goes_ Tryd.func102 (by kernel_rfl) rfl #[.int .i64 a0_0] (by rfl) rfl rfl (by (try simp only [List.map_toArray, List.map_cons, List.map_nil]); first | done | rfl | (simp only [List.length_drop, List.length_take]; rfl)) ?_
   with_reducible refine (impl_typeName.calls a0_0 t180 _ A25.out).mono ?_
   rintro e w32 ⟨rfl, hb⟩
   refine ⟨_, rfl, ?_⟩
   have n0_ := sK BK177 hb
   have n1_ := sB HB hb
   clear BK177
   clear HB
   have BK177 := n0_
   have HB := n1_
   clear n0_ n1_
   (try clear hb)
   (try clear hb2)
   (try clear hk)
   (try clear hi)
   refine hK.out _ _ ⟨(blk_cell BK177.out 0).trans rfl, (blk_cell BK177.out 1).trans rfl, (blk_cell BK177.out 2).trans rfl, (blk_cell BK177.out 3).trans rfl⟩ (fun hHeld => ?_)
   clear hK K
   refine norm_ (a' := ?_) ?_ ?_
   rotate_left
   ·show Act.put _ (some 33) _ = _
    simp only [Act.put, List.setIfInBounds_toArray, List.set_cons_zero, List.set_cons_succ, i64_w, i32_w]
    rfl
   refine pure_ (i := 3) (N := some 34) (v := ?_) (a' := ?_) (bN 9 63) rfl rfl (any_of HT_.out (by kernel_rfl)) (fun _ _ _ h => h) (Or.inl ⟨by rfl, ?_⟩) ?_ ?_
   rotate_left
   ·intro w'
    go_simp
    with_reducible rfl
   rotate_left
   ·simp only [Act.put, List.setIfInBounds_toArray, List.set_cons_zero, List.set_cons_succ, i64_w, i32_w]
    rfl
   refine one_ (i := 6) (N := some 37) (bN 9 127) rfl rfl (one_of HT_.out (by kernel_rfl)) (by decide) (fun K hK => ?_)
   refine goes_ Tryd.func78 (by kernel_rfl) rfl #[.int .i64 a0_3] (by rfl) rfl rfl (by (try simp only [List.map_toArray, List.map_cons, List.map_nil]); first | done | rfl | (simp only [List.length_drop, List.length_take]; rfl)) ?_
   with_reducible refine (impl_decimal.calls a0_3 t181 _ A27.out (by first | with_reducible exact HT | exact EnvT.below HT sb)).mono ?_
   rintro e w33 ⟨rfl, hb⟩
   refine ⟨_, rfl, ?_⟩
   have n0_ := sK BK177 hb
   have n1_ := sB HB hb
   clear BK177
   clear HB
   have BK177 := n0_
   have HB := n1_
   clear n0_ n1_
   (try clear hb)
   (try clear hb2)
   (try clear hk)
   (try clear hi)
   refine hK.out _ _ ⟨(blk_cell BK177.out 0).trans rfl, (blk_cell BK177.out 1).trans rfl, (blk_cell BK177.out 2).trans rfl, (blk_cell BK177.out 3).trans rfl⟩ (fun hHeld => ?_)
   clear hK K
   refine norm_ (a' := ?_) ?_ ?_
   rotate_left
   ·show Act.put _ (some 37) _ = _
    simp only [Act.put, List.setIfInBounds_toArray, List.set_cons_zero, List.set_cons_succ, i64_w, i32_w]
    rfl
   refine pure_ (i := 7) (N := some 38) (v := ?_) (a' := ?_) (bN 9 255) rfl rfl (any_of HT_.out (by kernel_rfl)) (fun _ _ _ h => h) (Or.inl ⟨by rfl, ?_⟩) ?_ ?_
   rotate_left
   ·intro w'
    go_simp
    with_reducible rfl
   rotate_left
   ·simp only [Act.put, List.setIfInBounds_toArray, List.set_cons_zero, List.set_cons_succ, i64_w, i32_w]
    rfl
   refine pure_ (i := 8) (N := some 2) (v := ?_) (a' := ?_) (bN 9 511) rfl rfl (any_of HT_.out (by kernel_rfl)) (fun _ _ _ h => h) (Or.inl ⟨by rfl, ?_⟩) ?_ ?_
   rotate_left
   ·intro w'
    go_simp
    with_reducible rfl
   rotate_left
   ·simp only [Act.put, List.setIfInBounds_toArray, List.set_cons_zero, List.set_cons_succ, i64_w, i32_w]
    rfl
   refine done_ (done_of HT_.out (by kernel_rfl)) ?_
   try go_wp2
   go_ret
   exact ⟨sq, sb⟩
  rw [if_neg c28] at H
  exact absurd H (by simp)
 rw [if_neg c26] at H
 exact absurd H (by simp)
end Go.Proofs.YtpbjagjknaglgaaDoor.PFnExactValueText
