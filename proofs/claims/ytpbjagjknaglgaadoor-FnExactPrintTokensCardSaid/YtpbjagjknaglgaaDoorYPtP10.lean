/- Printed functions: strconv_FormatInt_110, impl_decimal, impl_Token_text, impl_PrintTokens. -/
import Derived.Test.YtpbjagjknaglgaaDoorYPtP0
import Derived.Test.YtpbjagjknaglgaaDoorYPtP8
import Derived.Test.YtpbjagjknaglgaaDoorYPtP9
namespace Go.Proofs.YtpbjagjknaglgaaDoor.PFnExactPrintTokens
open Go.RowKit Go.Proofs.YtpbjagjknaglgaaDoorG Go.Proofs.YtpbjagjknaglgaaDoorW.PrintWords Go.Proofs.YtpbjagjknaglgaaDoorW.PrintLast Go.Proofs.YtpbjagjknaglgaaDoorW.PrintMore
attribute [local go_sem] max2_int min2_int max_two min_two max_three min_three max_four min_four   -- for this text's walks alone
set_option linter.unusedVariables false
set_option linter.unusedSimpArgs false
/-! ### strconv_FormatInt_110: function 110 -/
def strconv_FormatInt_110.f (a0 : Int) (a1 : Int) : Option (ByteArray) := if a1 = 10 then (if -9223372036854775808 ≤ a0 then (if a0 ≤ 9223372036854775807 then (some ⟨(Lib.itoa a0).toArray⟩) else (none)) else (none)) else (none)
theorem strconv_FormatInt_110.calls (a0 : Int) (a1 : Int) (r : ByteArray) (w : World) (h : strconv_FormatInt_110.f a0 a1 = some r) (HT : EnvT w) :
  Calls Tryd.prog 110 #[.int .i64 a0, .int .i64 a1] w fun e w' => e = .returned (.string r) ∧ Below w.heap.size w w' := by
 unfold strconv_FormatInt_110.f at h
 split at h
 · rename_i h1
   subst h1
   split at h
   · split at h
     · rename_i h0 h2
       obtain rfl := Option.some.inj h
       exact format_calls a0 h0 h2 w HT
     · cases h
   · cases h
 · cases h

/-! ### impl_decimal: function 78 -/
def impl_decimal.f (a0 : Int) : Option (ByteArray) := (strconv_FormatInt_110.f a0 10).bind fun t211 => (some t211)
set_option maxHeartbeats 8000000 in
set_option maxRecDepth 100000 in
theorem impl_decimal.calls (a0 : Int) (r : ByteArray) (w : World) (h : impl_decimal.f a0 = some r) (HT : EnvT w) :
  Calls Tryd.prog 78 #[.int .i64 a0] w fun e w' => e = .returned (.string r) ∧ Below w.heap.size w w' := by
 have HB := Aside0.mk (Below.refl w.heap.size w)
 have H : ((strconv_FormatInt_110.f a0 10).bind fun t211 => (some t211)) = some r := h
 clear h
 obtain ⟨t211, A2, H⟩ := sO H
 obtain rfl := Option.some.inj H
 go_enter Tryd.func78, Tryd.ntmps78
 go_wp2_with (first | ((with_reducible refine gate_callee (f := 110) rfl ?_); refine sC (some 4) Tryd.func110 #[.int .i64 a0, .int .i64 10] (strconv_FormatInt_110.calls a0 10 t211 _ A2.out (by first | with_reducible exact HT | exact EnvT.below HT sb)) ?_; rintro e w3 ⟨rfl, hb⟩; refine ⟨_, rfl, ?_⟩; have n0_ := sB HB hb; clear HB; have HB := n0_; clear n0_; (try clear hb); (try clear hb2); (try clear hk); (try clear hi)))
 go_ret
 exact ⟨sq, sb⟩

/-! ### impl_Token_text: function 35 -/
def impl_Token_text.j0 : Nat → Int → Bool → Int → Int → ByteArray → Bool → Bool → Option (ByteArray)
 | 0, _, _, _, _, _, _, _ => none
 | k + 1, x4, x5, x215000, x215001, x215002, x215003, x215004 => if x5 = true then (some x215002) else (if x4 = 2 then ((impl_decimal.f x215001).bind fun t215 => (some t215)) else (if x4 = 3 then ((impl_QuoteString.f k x215002).bind fun t216 => (some t216)) else (if 0 ≤ (wrap64 (x215000 - 5)) then (if (wrap64 (x215000 - 5)) ≤ (wrap64 ((wrap64 (x215000 - 5)) + 1)) then (if (wrap64 ((wrap64 (x215000 - 5)) + 1)) ≤ 6 then (some ((⟨#[40, 41, 60, 62, 44, 58]⟩ : ByteArray).extract ((wrap64 (x215000 - 5)) : Int).toNat ((wrap64 ((wrap64 (x215000 - 5)) + 1)) : Int).toNat)) else (none)) else (none)) else (none))))
def impl_Token_text.f (k : Nat) (a0_0 : Int) (a0_1 : Int) (a0_2 : ByteArray) (a0_3 : Bool) (a0_4 : Bool) : Option (ByteArray) := if a0_0 = 1 then (impl_Token_text.j0 k a0_0 (a0_0 == 1) a0_0 a0_1 a0_2 a0_3 a0_4) else (impl_Token_text.j0 k a0_0 (a0_0 == 4) a0_0 a0_1 a0_2 a0_3 a0_4)
set_option maxHeartbeats 8000000 in
set_option maxRecDepth 100000 in
theorem impl_Token_text.calls (k : Nat) (a0_0 : Int) (a0_1 : Int) (a0_2 : ByteArray) (a0_3 : Bool) (a0_4 : Bool) (r : ByteArray) (w : World) (h : impl_Token_text.f k a0_0 a0_1 a0_2 a0_3 a0_4 = some r) (HT : EnvT w) :
  Calls Tryd.prog 35 #[.agg #[.int .i64 a0_0, .int .i64 a0_1, .string a0_2, .bool a0_3, .bool a0_4]] w fun e w' => e = .returned (.string r) ∧ Below w.heap.size w w' := by
 have hu26 := Tryd.underlying26
 have HB := Aside0.mk (Below.refl w.heap.size w)
 have H : (if a0_0 = 1 then (impl_Token_text.j0 k a0_0 (a0_0 == 1) a0_0 a0_1 a0_2 a0_3 a0_4) else (impl_Token_text.j0 k a0_0 (a0_0 == 4) a0_0 a0_1 a0_2 a0_3 a0_4)) = some r := h
 clear h
 have HC2 := Aside0.mk H
 clear H
 go_enter Tryd.func35, Tryd.ntmps35
 go_upto_if 5 with (first | ((with_reducible refine gate_dst (N := 1) rfl ?_); refine sV (N := 1) (cs := #[.int .i64 a0_0, .int .i64 a0_1, .string a0_2, .bool a0_3, .bool a0_4]) (t := 26) ?_; intro gb214 hg w3 hbox hb; have n0_ := sB HB hb; have n1_ := Aside0.mk (hbox); have n2_ := sG HB hg; have n3_ := sG HB hg; clear HB; have HB := n0_; have BK214 := n1_; have GW214 := n2_; have GE214 := n3_; clear n0_ n1_ n2_ n3_; clear hb hbox hg; obtain ⟨hcz4_0, hcz4_1, hcz4_2, hcz4_3, hcz4_4, hfz4_0, hfz4_1, hfz4_2, hfz4_3, hfz4_4⟩ := cells5 BK214.out))
 (try simp only [Act.put, List.setIfInBounds_toArray, List.set_cons_zero, List.set_cons_succ])
 go_cut [5] (fun v5 wc => ∃ (kq : Nat) (x5_1 : Bool), v5 = .bool x5_1 ∧ Aside0 (impl_Token_text.j0 kq a0_0 x5_1 a0_0 a0_1 a0_2 a0_3 a0_4 = some r) ∧ Aside0 (kq ≤ k) ∧ Aside0 (wc.heap[gb214]? = some (.cells #[.int .i64 a0_0, .int .i64 a0_1, .string a0_2, .bool a0_3, .bool a0_4] 26 (0, 0))) ∧ Aside0 (Below w.heap.size w wc))
 case first =>
  have H := HC2.out
  clear HC2
  by_cases c5 : a0_0 = 1
  ·rw [if_pos c5] at H
   have c5b0 : (a0_0 == 1) = true := beq_iff_eq.mpr c5
   have c5b1 : (a0_0 != 1) = false := bne_eq_false_iff_eq.mpr c5
   clear c5
   (first | rw [c5b0] | (simp only [i64_w, i32_w]; rw [c5b0]) | rw [c5b2] | skip)
   have H' := Aside0.mk H
   clear H
   go_wp2
   go_meet
   case rel => exact ⟨_, ((a0_0 == 1)), sr, H', ⟨by first | omega | exact Nat.le_refl _⟩, ⟨by exact sT BK214.out⟩, ⟨sb⟩⟩
  rw [if_neg c5] at H
  have c5b0 : (a0_0 == 1) = false := beq_eq_false_iff_ne.mpr c5
  have c5b1 : (a0_0 != 1) = true := bne_iff_ne.mpr c5
  (first | rw [c5b0] | (simp only [i64_w, i32_w]; rw [c5b0]) | rw [c5b2] | skip)
  have H' := Aside0.mk H
  clear H
  go_wp2
  go_meet
  case rel => exact ⟨_, ((a0_0 == 4)), sr, H', ⟨by first | omega | exact Nat.le_refl _⟩, ⟨by exact sT BK214.out⟩, ⟨sb⟩⟩
 case rest =>
  clear HC2
  try clear p2
  try clear c3
  try clear c5
  try clear c5b0
  try clear c5b1
  try clear c5b2
  try clear hcz4_0
  try clear hcz4_1
  try clear hcz4_2
  try clear hcz4_3
  try clear hcz4_4
  try clear hfz4_0
  try clear hfz4_1
  try clear hfz4_2
  try clear hfz4_3
  try clear hfz4_4
  obtain ⟨kq, x5_1, rfl, HA, HJ1, BK214, HB⟩ := hcut
  cases kq with
  | zero => exact absurd HA.out (by simp [impl_Token_text.j0])
  | succ kj1 =>
   have H := HA.out
   clear HA
   simp only [impl_Token_text.j0] at H
   by_cases c6 : x5_1 = true
   ·subst c6
    rewrite [if_pos rfl] at H
    obtain rfl := Option.some.inj H
    obtain ⟨hcz7_0, hcz7_1, hcz7_2, hcz7_3, hcz7_4, hfz7_0, hfz7_1, hfz7_2, hfz7_3, hfz7_4⟩ := cells5 BK214.out
    go_wp2
    go_ret
    exact ⟨sq, sb⟩
   replace c6 := Bool.eq_false_iff.mpr c6
   subst c6
   rewrite [if_neg (show ¬ (false = true) by decide)] at H
   by_cases c8 : a0_0 = 2
   ·rw [if_pos c8] at H
    have c8b0 : (a0_0 == 2) = true := beq_iff_eq.mpr c8
    have c8b1 : (a0_0 != 2) = false := bne_eq_false_iff_eq.mpr c8
    clear c8
    obtain ⟨t215, A9, H⟩ := sO H
    obtain rfl := Option.some.inj H
    obtain ⟨hcz10_0, hcz10_1, hcz10_2, hcz10_3, hcz10_4, hfz10_0, hfz10_1, hfz10_2, hfz10_3, hfz10_4⟩ := cells5 BK214.out
    go_wp2_with (first | ((with_reducible refine gate_callee (f := 78) rfl ?_); refine sC (some 14) Tryd.func78 #[.int .i64 a0_1] (impl_decimal.calls a0_1 t215 _ A9.out (by first | with_reducible exact HT | exact EnvT.below HT sb)) ?_; rintro e w11 ⟨rfl, hb⟩; refine ⟨_, rfl, ?_⟩; have n0_ := sK BK214 hb; have n1_ := sB HB hb; clear BK214; clear HB; have BK214 := n0_; have HB := n1_; clear n0_ n1_; (try clear hb); (try clear hb2); (try clear hk); (try clear hi)))
    go_ret
    exact ⟨sq, sb⟩
   rw [if_neg c8] at H
   have c8b0 : (a0_0 == 2) = false := beq_eq_false_iff_ne.mpr c8
   have c8b1 : (a0_0 != 2) = true := bne_iff_ne.mpr c8
   by_cases c12 : a0_0 = 3
   ·rw [if_pos c12] at H
    have c12b0 : (a0_0 == 3) = true := beq_iff_eq.mpr c12
    have c12b1 : (a0_0 != 3) = false := bne_eq_false_iff_eq.mpr c12
    clear c12
    obtain ⟨t216, A13, H⟩ := sO H
    obtain rfl := Option.some.inj H
    obtain ⟨hcz14_0, hcz14_1, hcz14_2, hcz14_3, hcz14_4, hfz14_0, hfz14_1, hfz14_2, hfz14_3, hfz14_4⟩ := cells5 BK214.out
    go_wp2_with (first | ((with_reducible refine gate_callee (f := 79) rfl ?_); refine sC (some 19) Tryd.func79 #[.string a0_2] (impl_QuoteString.calls kj1 a0_2 t216 _ A13.out) ?_; rintro e w15 ⟨rfl, hb⟩; refine ⟨_, rfl, ?_⟩; have n0_ := sK BK214 hb; have n1_ := sB HB hb; clear BK214; clear HB; have BK214 := n0_; have HB := n1_; clear n0_ n1_; (try clear hb); (try clear hb2); (try clear hk); (try clear hi)))
    go_ret
    exact ⟨sq, sb⟩
   rw [if_neg c12] at H
   have c12b0 : (a0_0 == 3) = false := beq_eq_false_iff_ne.mpr c12
   have c12b1 : (a0_0 != 3) = true := bne_iff_ne.mpr c12
   obtain ⟨ji16, hji16⟩ : ∃ j_ : Int, (wrap64 (a0_0 - 5)) = j_ := ⟨_, rfl⟩
   replace H : (if 0 ≤ (ji16) then (if (ji16) ≤ (wrap64 ((ji16) + 1)) then (if (wrap64 ((ji16) + 1)) ≤ 6 then (some ((⟨#[40, 41, 60, 62, 44, 58]⟩ : ByteArray).extract ((ji16) : Int).toNat ((wrap64 ((ji16) + 1)) : Int).toNat)) else (none)) else (none)) else (none)) = some r := by first | (rw [hji16] at H; exact H) | (simp only [hji16] at H ⊢; exact H)
   have hji16w : (IntKind.i64.wrap (a0_0 - 5)) = ji16 := (i64_w _).trans hji16
   by_cases c17 : 0 ≤ (ji16)
   ·rw [if_pos c17] at H
    have c17b0 := eq_true c17
    have c17b1 := decide_eq_true c17
    clear c17
    by_cases c18 : (ji16) ≤ (wrap64 ((ji16) + 1))
    ·rw [if_pos c18] at H
     have c18b0 := eq_true c18
     have c18b1 := decide_eq_true c18
     by_cases c19 : (wrap64 ((ji16) + 1)) ≤ 6
     ·rw [if_pos c19] at H
      have c19b0 := eq_true c19
      have c19b1 := decide_eq_true c19
      obtain rfl := Option.some.inj H
      obtain ⟨hcz20_0, hcz20_1, hcz20_2, hcz20_3, hcz20_4, hfz20_0, hfz20_1, hfz20_2, hfz20_3, hfz20_4⟩ := cells5 BK214.out
      go_wp2
      go_ret
      exact ⟨by first | rfl | (simp [errW_none, errW_some] <;> rfl) | (simp only [← hji16]; first | rfl | (simp [errW_none, errW_some] <;> rfl)) | (simp [*, errW_none, errW_some] <;> rfl), sb⟩
     rw [if_neg c19] at H
     exact absurd H (by simp)
    rw [if_neg c18] at H
    exact absurd H (by simp)
   rw [if_neg c17] at H
   exact absurd H (by simp)

-- NOT PRINTED: function 38 (strings_Builder_String)

/-! ### impl_PrintTokens: function 15 -/
theorem impl_PrintTokens.kept {T e : TypeId} {B b : Nat} {bs : List Value} {w w' : World} (h : Lib.IsBuilderF T e B b bs w) (hb : Below w.heap.size w w') : Lib.IsBuilderF T e B b bs w' := by
 have key : ∀ p, Lib.BuilderAtF T e B b p bs w → Lib.BuilderAtF T e B b p bs w' := by
  rintro p ⟨hB, v, hbk, hown, hne⟩
  refine ⟨hB, v, (hb.block b (blk_lt hbk)).trans hbk, ⟨hown.1, ?_⟩, hne⟩
  rcases hown.2 with h0 | ⟨g, cap, cur, fz, hv, hg, hbg, r⟩
  · exact .inl h0
  · exact .inr ⟨g, cap, cur, fz, hv, hg, (hb.block g (blk_lt hbg)).trans hbg, r⟩
 rcases h with h | h
 · exact .inl (key _ h)
 · exact .inr (key _ h)
theorem impl_PrintTokens.lt {T e : TypeId} {B b : Nat} {bs : List Value} {w : World} (h : Lib.IsBuilderF T e B b bs w) : b ≤ w.heap.size := Nat.le_of_lt (h.elim (fun h => h.lt) (fun h => h.lt))
theorem impl_PrintTokens.only {T e t gb : Nat} {B b : Nat} {bs : List Value} {cs : Array Value} {fz : Nat × Nat} {w w' : World} (h : Lib.IsBuilderF T e B b bs w) (hk : w.heap[gb]? = some (.cells cs t fz)) (hT : t ≠ T) (he : t ≠ e) (ho : ∀ k, k ≠ gb → w'.heap[k]? = w.heap[k]?) : Lib.IsBuilderF T e B b bs w' := by
 have key : ∀ p, Lib.BuilderAtF T e B b p bs w → Lib.BuilderAtF T e B b p bs w' := by
  rintro p ⟨hB, v, hbk, hown, hne⟩
  have nb : b ≠ gb := by
   rintro rfl
   rw [hbk] at hk
   injection hk with hk
   injection hk with _ hk _
   exact hT hk.symm
  refine ⟨hB, v, (ho b nb).trans hbk, ⟨hown.1, ?_⟩, hne⟩
  rcases hown.2 with h0 | ⟨g, cap, cur, fz', hv, hg, hbg, r⟩
  · exact .inl h0
  · have ng : g ≠ gb := by
     rintro rfl
     rw [hbg] at hk
     injection hk with hk
     injection hk with _ hk _
     exact he hk.symm
    exact .inr ⟨g, cap, cur, fz', hv, hg, (ho g ng).trans hbg, r⟩
 rcases h with h | h
 · exact .inl (key _ h)
 · exact .inr (key _ h)
theorem impl_PrintTokens.set5 (w : World) (g : Nat) (v0 v1 v2 v3 v4 : Value) : ∀ k, k ≠ g → (((((w.setCell ⟨g, 0, none⟩ v0).setCell ⟨g, 1, none⟩ v1).setCell ⟨g, 2, none⟩ v2).setCell ⟨g, 3, none⟩ v3).setCell ⟨g, 4, none⟩ v4).heap[k]? = w.heap[k]? := by
 intro k hk
 rw [Below.heap_setCell _ _ _ k hk, Below.heap_setCell _ _ _ k hk, Below.heap_setCell _ _ _ k hk, Below.heap_setCell _ _ _ k hk, Below.heap_setCell _ _ _ k hk]
theorem impl_PrintTokens.set5_cell (w : World) (g : Nat) (v0 v1 v2 v3 v4 : Value) (p : Addr) (u : Value) (h : w.cell? p = some u) (hne : p.block ≠ g) : (((((w.setCell ⟨g, 0, none⟩ v0).setCell ⟨g, 1, none⟩ v1).setCell ⟨g, 2, none⟩ v2).setCell ⟨g, 3, none⟩ v3).setCell ⟨g, 4, none⟩ v4).cell? p = some u := (World.cell?_of_block (w := w) (impl_PrintTokens.set5 w g v0 v1 v2 v3 v4 p.block hne)).trans h
def impl_PrintTokens.l0 : Nat → List (S26) → ByteArray → Int → Option (ByteArray)
 | 0, _, _, _ => none
 | k + 1, x0, s, i => if i < (x0.length : Int) then (if 0 ≤ i then ((impl_Token_text.f k ((rd_T26 x0 i).f0) ((rd_T26 x0 i).f1) ((rd_T26 x0 i).f2) ((rd_T26 x0 i).f3) ((rd_T26 x0 i).f4)).bind fun t => (if 0 < i ∧ ((rd_T26 x0 i).f3 = true ∨ (rd_T26 x0 (wrap64 (i - 1))).f4 = true) then (if s.size + 1 + t.size ≤ 140737488355328 then (impl_PrintTokens.l0 k x0 ((s ++ (⟨#[32]⟩ : ByteArray)) ++ t) (wrap64 (i + 1))) else none) else (if s.size + t.size ≤ 140737488355328 then (impl_PrintTokens.l0 k x0 (s ++ t) (wrap64 (i + 1))) else none))) else none) else (some s)
def impl_PrintTokens.f (k : Nat) (l0 : List (S26)) : Option (ByteArray) := if (l0.length : Int) ≤ 9223372036854775807 then ((impl_Token__impl_ValidToken.f k l0).bind fun b => (if b = true then (impl_PrintTokens.l0 k l0 (⟨#[]⟩ : ByteArray) 0) else (some (⟨#[]⟩ : ByteArray)))) else none
set_option maxHeartbeats 8000000 in
set_option maxRecDepth 100000 in
theorem impl_PrintTokens.calls (k : Nat) (A0 : Option Addr) (c0 : Nat) (l0 : List (S26)) (r : ByteArray) (w : World) (hr0 : Kd.C k26 w A0 l0.length l0) (hc0 : l0.length ≤ c0) (h : impl_PrintTokens.f k l0 = some r) (HT : EnvT w) :
  Calls Tryd.prog 15 #[.slice A0 l0.length c0] w fun e w' => e = .returned (.string r) ∧ Below w.heap.size w w' := by
 have hu26 := Tryd.underlying26
 have HR0 := Aside0.mk hr0
 have HC0 := Aside0.mk hc0
 clear hr0 hc0
 have HB := Aside0.mk (Below.refl w.heap.size w)
 obtain ⟨b0, A1, H⟩ := sO (show (impl_Token__impl_ValidToken.f k l0).bind _ = some r from (by
  have h2 := h
  unfold impl_PrintTokens.f at h2
  split at h2
  · exact h2
  · cases h2))
 have hlen : (l0.length : Int) ≤ 9223372036854775807 := by
  unfold impl_PrintTokens.f at h
  split at h
  · assumption
  · cases h
 clear h
 by_cases c1 : b0 = true
 · subst c1
   rewrite [if_pos rfl] at H
   have H' := Aside0.mk H
   clear H
   go_enter Tryd.func15, Tryd.ntmps15
   go_wp2_with (go_at_call 36; (with_reducible refine (impl_Token__impl_ValidToken.calls k A0 c0 l0 true _ HR0.out HC0.out A1.out).mono ?_); rintro e w1 ⟨rfl, hb⟩; have n0_ := sB HB hb; clear HB; have HB := n0_; clear n0_)
   have hbld : Lib.IsBuilderF 62 5 w1.heap.size w1.heap.size (Lib.byteCells (⟨#[]⟩ : ByteArray).data.toList) (w1.alloc (.cells #[.pointer none, .slice none 0 0] 62)) := Lib.IsBuilderF.of (Lib.fresh_isBuilder 62 5 w1)
   have HB2 : Aside0 (Below w.heap.size w (w1.alloc (.cells #[.pointer none, .slice none 0 0] 62))) := ⟨HB.out.alloc hb.size _⟩
   have hsz1 : w.heap.size ≤ w1.heap.size := hb.size
   have hsz2 : w1.heap.size < (w1.alloc (.cells #[.pointer none, .slice none 0 0] 62)).heap.size := by simp
   clear HB hb A1
   generalize hW : w1.alloc (.cells #[.pointer none, .slice none 0 0] 62) = W1 at *
   generalize hgb : w1.heap.size = g at *
   clear hW hgb
   go_loopg [12] k (fun kq v12 w' => ∃ (s : ByteArray) (i : Int), v12 = .int .i64 i ∧ Aside0 (impl_PrintTokens.l0 kq l0 s i = some r) ∧ Aside0 (kq ≤ k) ∧ Aside0 (Below w.heap.size w w') ∧ Aside0 (Lib.IsBuilderF 62 5 g g (Lib.byteCells s.data.toList) w'))
   case atStart => exact ⟨_, 0, rfl, H', ⟨Nat.le_refl _⟩, HB2, ⟨hbld⟩⟩
   case round =>
    clear H' hbld HB2
    obtain ⟨s, i, rfl, HA, HK1, HB, HI⟩ := hrel
    cases gk with
    | zero => exact absurd HA.out (by simp [impl_PrintTokens.l0])
    | succ k1 =>
     have H := HA.out
     clear HA
     have hgW : g < wr.heap.size := HI.out.elim (fun h => h.lt) (fun h => h.lt)
     simp only [impl_PrintTokens.l0] at H
     by_cases c3 : i < (l0.length : Int)
     · rw [if_pos c3] at H
       have c3b0 := decide_eq_true c3
       clear c3
       by_cases c4 : 0 ≤ i
       · rw [if_pos c4] at H
         have c4b0 := decide_eq_true c4
         have p189 : 0 ≤ (i : Int) := c4
         have q189 : i < (l0.length : Int) := of_decide_eq_true c3b0
         obtain ⟨ad189, e189, hx189_0, hx189_1, hx189_2, hx189_3, hx189_4⟩ := at_T26 HR0.out i p189 q189
         cases e189
         replace hx189_0 := sX HB hx189_0
         replace hx189_1 := sX HB hx189_1
         replace hx189_2 := sX HB hx189_2
         replace hx189_3 := sX HB hx189_3
         replace hx189_4 := sX HB hx189_4
         replace p189 := eq_true p189
         replace q189 := eq_true q189
         obtain ⟨t, AT, H⟩ := sO H
         by_cases c6 : 0 < i
         · have c6b0 : decide (0 < i) = true := decide_eq_true c6
           have hw1 : wrap64 (i - 1) = i - 1 := by have := of_decide_eq_true c3b0; unfold wrap64; omega
           obtain ⟨j, hj⟩ : ∃ j_ : Int, wrap64 (i - 1) = j_ := ⟨_, rfl⟩
           have hjw : IntKind.i64.wrap (i - 1) = j := (i64_w _).trans hj
           rw [hj] at H hw1
           by_cases c7 : (rd_T26 l0 i).f3 = true
           · rw [if_pos ⟨c6, Or.inl c7⟩] at H
             rw [c7] at hx189_3 AT
             by_cases c8 : s.size + 1 + t.size ≤ 140737488355328
             · rw [if_pos c8] at H
               have hw2 : wrap64 (i + 1) = i + 1 := by have := of_decide_eq_true c3b0; unfold wrap64; omega
               rw [hw2] at H
               have H' := Aside0.mk H
               clear H
               clear c6
               go_wp2_with (first | ((with_reducible refine gate_dst (N := 5) rfl ?_); refine sV (N := 5) (cs := #[.int .i64 0, .int .i64 0, .string (⟨#[]⟩ : ByteArray), .bool false, .bool false]) (t := 26) ?_; intro gb190 hg w8 hbox hb; have NG190 : gb190 ≠ g := (by have h1 : gb190 = wr.heap.size := hg; omega); have n4_ := Aside0.mk (impl_PrintTokens.kept HI.out hb); have n0_ := sB HB hb; have n1_ := Aside0.mk (hbox); have n2_ := sG HB hg; clear HB HI; have HI := n4_; have HB := n0_; have BK190 := n1_; have GW190 := n2_; clear n0_ n1_ n2_ n4_; clear hb hbox hg; obtain ⟨hcz9_0, hcz9_1, hcz9_2, hcz9_3, hcz9_4, hfz9_0, hfz9_1, hfz9_2, hfz9_3, hfz9_4⟩ := cells5 BK190.out) | (go_at_call 37; (refine (writeString_k g g (Lib.byteCells s.data.toList) (⟨#[32]⟩ : ByteArray) _ (impl_PrintTokens.only HI.out BK190.out (by decide) (by decide) (impl_PrintTokens.set5 _ _ _ _ _ _ _)) (by rw [Lib.byteCells_length]; have h1 : s.data.toList.length = s.size := (by simp); have h2 : (⟨#[32]⟩ : ByteArray).size = 1 := rfl; omega) (impl_PrintTokens.lt (impl_PrintTokens.only HI.out BK190.out (by decide) (by decide) (impl_PrintTokens.set5 _ _ _ _ _ _ _)))).mono ?_); rintro e w9 ⟨rfl, h1, hb1, hk1⟩; have n0_ : Aside0 (Below w.heap.size w w9) := ⟨Below.trans (by exact sb) (hb1.mono hsz1)⟩; have n1_ := Aside0.mk (hk1 gb190 (.cells #[.int .i64 ((rd_T26 l0 i).f0), .int .i64 ((rd_T26 l0 i).f1), .string ((rd_T26 l0 i).f2), .bool true, .bool ((rd_T26 l0 i).f4)] 26 (0, 0)) (by exact sP5 (sT BK190.out)) (by intro h; injection h with h; exact NG190 h) (by intro c fz h; injection h with _ h _; exact absurd h (by decide))); rw [Lib.strCells_eq, ← Lib.byteCells_append] at h1; have n2_ : Aside0 (Lib.IsBuilderF 62 5 g g _ w9) := ⟨.inr h1⟩; clear HB HI BK190 hk1 hb1 h1; have HB := n0_; have BK190 := n1_; have HI := n2_; clear n0_ n1_ n2_; obtain ⟨hcy9_0, hcy9_1, hcy9_2, hcy9_3, hcy9_4, _⟩ := cells5 BK190.out) | (go_at_call 35; (refine (impl_Token_text.calls k1 _ _ _ _ _ t _ AT.out (by first | with_reducible exact HT | exact EnvT.below HT sb)).mono ?_); rintro e w10 ⟨rfl, hb⟩; have n1_ := Aside0.mk (impl_PrintTokens.kept HI.out hb); have n0_ := sB HB hb; clear HB HI; have HB := n0_; have HI := n1_; clear n0_ n1_ hb) | (go_at_call 37; (refine (writeString_k g g _ t _ HI.out (by rw [Lib.byteCells_length, List.length_append]; have h1 : s.data.toList.length = s.size := (by simp); have h2 : ([32] : List UInt8).length = 1 := rfl; have h3 : (⟨#[32]⟩ : ByteArray).data.toList.length = 1 := rfl; omega) (impl_PrintTokens.lt HI.out)).mono ?_); rintro e w11 ⟨rfl, h1, hb1, hk1⟩; have n0_ : Aside0 (Below w.heap.size w w11) := ⟨Below.trans (by exact sb) (hb1.mono hsz1)⟩; rw [Lib.strCells_eq, ← Lib.byteCells_append] at h1; have n2_ : Aside0 (Lib.IsBuilderF 62 5 g g _ w11) := ⟨.inr h1⟩; clear HB HI hk1 hb1 h1; have HB := n0_; have HI := n2_; clear n0_ n2_))
               go_roundg k1
               case measure => have := HK1.out; omega
               case rel => exact ⟨_, (i + 1), sr, H', ⟨by have := HK1.out; omega⟩, HB, ⟨by have h := HI.out; simpa using h⟩⟩
             · rw [if_neg c8] at H
               cases H
           · replace c7 := Bool.eq_false_iff.mpr c7
             rw [c7] at hx189_3 AT
             have p152 : 0 ≤ j := by omega
             have q152 : j < (l0.length : Int) := by have := of_decide_eq_true c3b0; omega
             clear hw1
             obtain ⟨ad152, e152, hx152_0, hx152_1, hx152_2, hx152_3, hx152_4'⟩ := at_T26 HR0.out j p152 q152
             obtain rfl : ad189 = ad152 := (by injection e152)
             have hx152_4 := hx152_4'
             replace p152 := eq_true p152
             replace q152 := eq_true q152
             by_cases c9 : (rd_T26 l0 j).f4 = true
             · rw [if_pos ⟨c6, Or.inr c9⟩] at H
               rw [c9] at hx152_4 hx152_4'
               by_cases c8 : s.size + 1 + t.size ≤ 140737488355328
               · rw [if_pos c8] at H
                 have hw2 : wrap64 (i + 1) = i + 1 := by have := of_decide_eq_true c3b0; unfold wrap64; omega
                 rw [hw2] at H
                 have H' := Aside0.mk H
                 clear H
                 clear c6
                 go_wp2_with (first | ((with_reducible refine gate_dst (N := 5) rfl ?_); refine sV (N := 5) (cs := #[.int .i64 0, .int .i64 0, .string (⟨#[]⟩ : ByteArray), .bool false, .bool false]) (t := 26) ?_; intro gb190 hg w8 hbox hb; have NG190 : gb190 ≠ g := (by have h1 : gb190 = wr.heap.size := hg; omega); have n4_ := Aside0.mk (impl_PrintTokens.kept HI.out hb); have n0_ := sB HB hb; have n1_ := Aside0.mk (hbox); have n2_ := sG HB hg; clear HB HI; have HI := n4_; have HB := n0_; have BK190 := n1_; have GW190 := n2_; clear n0_ n1_ n2_ n4_; clear hb hbox hg; obtain ⟨hcz9_0, hcz9_1, hcz9_2, hcz9_3, hcz9_4, hfz9_0, hfz9_1, hfz9_2, hfz9_3, hfz9_4⟩ := cells5 BK190.out; have hx152_s := impl_PrintTokens.set5_cell w8 gb190 (.int .i64 ((rd_T26 l0 i).f0)) (.int .i64 ((rd_T26 l0 i).f1)) (.string ((rd_T26 l0 i).f2)) (.bool false) (.bool ((rd_T26 l0 i).f4)) _ _ (sX HB hx152_4') (Nat.ne_of_lt (Nat.lt_of_lt_of_le (World.block_lt_of_cell? w _ hx152_4') GW190.out)); clear hx152_4 hx152_0 hx152_1 hx152_2 hx152_3 hx152_4') | (go_at_call 37; (refine (writeString_k g g (Lib.byteCells s.data.toList) (⟨#[32]⟩ : ByteArray) _ (impl_PrintTokens.only HI.out BK190.out (by decide) (by decide) (impl_PrintTokens.set5 _ _ _ _ _ _ _)) (by rw [Lib.byteCells_length]; have h1 : s.data.toList.length = s.size := (by simp); have h2 : (⟨#[32]⟩ : ByteArray).size = 1 := rfl; omega) (impl_PrintTokens.lt (impl_PrintTokens.only HI.out BK190.out (by decide) (by decide) (impl_PrintTokens.set5 _ _ _ _ _ _ _)))).mono ?_); rintro e w9 ⟨rfl, h1, hb1, hk1⟩; have n0_ : Aside0 (Below w.heap.size w w9) := ⟨Below.trans (by exact sb) (hb1.mono hsz1)⟩; have n1_ := Aside0.mk (hk1 gb190 (.cells #[.int .i64 ((rd_T26 l0 i).f0), .int .i64 ((rd_T26 l0 i).f1), .string ((rd_T26 l0 i).f2), .bool false, .bool ((rd_T26 l0 i).f4)] 26 (0, 0)) (by exact sP5 (sT BK190.out)) (by intro h; injection h with h; exact NG190 h) (by intro c fz h; injection h with _ h _; exact absurd h (by decide))); rw [Lib.strCells_eq, ← Lib.byteCells_append] at h1; have n2_ : Aside0 (Lib.IsBuilderF 62 5 g g _ w9) := ⟨.inr h1⟩; clear HB HI BK190 hk1 hb1 h1; have HB := n0_; have BK190 := n1_; have HI := n2_; clear n0_ n1_ n2_; obtain ⟨hcy9_0, hcy9_1, hcy9_2, hcy9_3, hcy9_4, _⟩ := cells5 BK190.out) | (go_at_call 35; (refine (impl_Token_text.calls k1 _ _ _ _ _ t _ AT.out (by first | with_reducible exact HT | exact EnvT.below HT sb)).mono ?_); rintro e w10 ⟨rfl, hb⟩; have n1_ := Aside0.mk (impl_PrintTokens.kept HI.out hb); have n0_ := sB HB hb; clear HB HI; have HB := n0_; have HI := n1_; clear n0_ n1_ hb) | (go_at_call 37; (refine (writeString_k g g _ t _ HI.out (by rw [Lib.byteCells_length, List.length_append]; have h1 : s.data.toList.length = s.size := (by simp); have h2 : ([32] : List UInt8).length = 1 := rfl; have h3 : (⟨#[32]⟩ : ByteArray).data.toList.length = 1 := rfl; omega) (impl_PrintTokens.lt HI.out)).mono ?_); rintro e w11 ⟨rfl, h1, hb1, hk1⟩; have n0_ : Aside0 (Below w.heap.size w w11) := ⟨Below.trans (by exact sb) (hb1.mono hsz1)⟩; rw [Lib.strCells_eq, ← Lib.byteCells_append] at h1; have n2_ : Aside0 (Lib.IsBuilderF 62 5 g g _ w11) := ⟨.inr h1⟩; clear HB HI hk1 hb1 h1; have HB := n0_; have HI := n2_; clear n0_ n2_))
                 go_roundg k1
                 case measure => have := HK1.out; omega
                 case rel => exact ⟨_, (i + 1), sr, H', ⟨by have := HK1.out; omega⟩, HB, ⟨by have h := HI.out; simpa using h⟩⟩
               · rw [if_neg c8] at H
                 cases H
             · rw [if_neg (by rintro ⟨_, h | h⟩; · { rw [c7] at h; cases h }; · exact c9 h)] at H
               replace c9 := Bool.eq_false_iff.mpr c9
               rw [c9] at hx152_4 hx152_4'
               by_cases c8 : s.size + t.size ≤ 140737488355328
               · rw [if_pos c8] at H
                 have hw2 : wrap64 (i + 1) = i + 1 := by have := of_decide_eq_true c3b0; unfold wrap64; omega
                 rw [hw2] at H
                 have H' := Aside0.mk H
                 clear H
                 clear c6
                 go_wp2_with (first | ((with_reducible refine gate_dst (N := 5) rfl ?_); refine sV (N := 5) (cs := #[.int .i64 0, .int .i64 0, .string (⟨#[]⟩ : ByteArray), .bool false, .bool false]) (t := 26) ?_; intro gb190 hg w8 hbox hb; have NG190 : gb190 ≠ g := (by have h1 : gb190 = wr.heap.size := hg; omega); have n4_ := Aside0.mk (impl_PrintTokens.kept HI.out hb); have n0_ := sB HB hb; have n1_ := Aside0.mk (hbox); have n2_ := sG HB hg; clear HB HI; have HI := n4_; have HB := n0_; have BK190 := n1_; have GW190 := n2_; clear n0_ n1_ n2_ n4_; clear hb hbox hg; obtain ⟨hcz9_0, hcz9_1, hcz9_2, hcz9_3, hcz9_4, hfz9_0, hfz9_1, hfz9_2, hfz9_3, hfz9_4⟩ := cells5 BK190.out; have hx152_s := impl_PrintTokens.set5_cell w8 gb190 (.int .i64 ((rd_T26 l0 i).f0)) (.int .i64 ((rd_T26 l0 i).f1)) (.string ((rd_T26 l0 i).f2)) (.bool false) (.bool ((rd_T26 l0 i).f4)) _ _ (sX HB hx152_4') (Nat.ne_of_lt (Nat.lt_of_lt_of_le (World.block_lt_of_cell? w _ hx152_4') GW190.out)); clear hx152_4 hx152_0 hx152_1 hx152_2 hx152_3 hx152_4') | (go_at_call 35; (refine (impl_Token_text.calls k1 _ _ _ _ _ t _ AT.out (by first | with_reducible exact HT | exact EnvT.below HT sb)).mono ?_); rintro e w10 ⟨rfl, hb⟩; have n1_ := Aside0.mk (impl_PrintTokens.kept (impl_PrintTokens.only HI.out BK190.out (by decide) (by decide) (impl_PrintTokens.set5 _ _ _ _ _ _ _)) hb); have n0_ := sB HB hb; clear HB HI; have HB := n0_; have HI := n1_; clear n0_ n1_ hb) | (go_at_call 37; (refine (writeString_k g g _ t _ HI.out (by rw [Lib.byteCells_length]; have h1 : s.data.toList.length = s.size := (by simp); omega) (impl_PrintTokens.lt HI.out)).mono ?_); rintro e w11 ⟨rfl, h1, hb1, hk1⟩; have n0_ : Aside0 (Below w.heap.size w w11) := ⟨Below.trans (by exact sb) (hb1.mono hsz1)⟩; rw [Lib.strCells_eq, ← Lib.byteCells_append] at h1; have n2_ : Aside0 (Lib.IsBuilderF 62 5 g g _ w11) := ⟨.inr h1⟩; clear HB HI hk1 hb1 h1; have HB := n0_; have HI := n2_; clear n0_ n2_))
                 go_roundg k1
                 case measure => have := HK1.out; omega
                 case rel => exact ⟨_, (i + 1), sr, H', ⟨by have := HK1.out; omega⟩, HB, ⟨by have h := HI.out; simpa using h⟩⟩
               · rw [if_neg c8] at H
                 cases H
         · have c6b0 : decide (0 < i) = false := decide_eq_false c6
           rw [if_neg (fun h => c6 h.1)] at H
           by_cases c8 : s.size + t.size ≤ 140737488355328
           · rw [if_pos c8] at H
             have hw2 : wrap64 (i + 1) = i + 1 := by have := of_decide_eq_true c3b0; unfold wrap64; omega
             rw [hw2] at H
             have H' := Aside0.mk H
             clear H
             clear c6
             go_wp2_with (first | ((with_reducible refine gate_dst (N := 5) rfl ?_); refine sV (N := 5) (cs := #[.int .i64 0, .int .i64 0, .string (⟨#[]⟩ : ByteArray), .bool false, .bool false]) (t := 26) ?_; intro gb190 hg w8 hbox hb; have NG190 : gb190 ≠ g := (by have h1 : gb190 = wr.heap.size := hg; omega); have n4_ := Aside0.mk (impl_PrintTokens.kept HI.out hb); have n0_ := sB HB hb; have n1_ := Aside0.mk (hbox); have n2_ := sG HB hg; clear HB HI; have HI := n4_; have HB := n0_; have BK190 := n1_; have GW190 := n2_; clear n0_ n1_ n2_ n4_; clear hb hbox hg; obtain ⟨hcz9_0, hcz9_1, hcz9_2, hcz9_3, hcz9_4, hfz9_0, hfz9_1, hfz9_2, hfz9_3, hfz9_4⟩ := cells5 BK190.out) | (go_at_call 35; (refine (impl_Token_text.calls k1 _ _ _ _ _ t _ AT.out (by first | with_reducible exact HT | exact EnvT.below HT sb)).mono ?_); rintro e w10 ⟨rfl, hb⟩; have n1_ := Aside0.mk (impl_PrintTokens.kept (impl_PrintTokens.only HI.out BK190.out (by decide) (by decide) (impl_PrintTokens.set5 _ _ _ _ _ _ _)) hb); have n0_ := sB HB hb; clear HB HI; have HB := n0_; have HI := n1_; clear n0_ n1_ hb) | (go_at_call 37; (refine (writeString_k g g _ t _ HI.out (by rw [Lib.byteCells_length]; have h1 : s.data.toList.length = s.size := (by simp); omega) (impl_PrintTokens.lt HI.out)).mono ?_); rintro e w11 ⟨rfl, h1, hb1, hk1⟩; have n0_ : Aside0 (Below w.heap.size w w11) := ⟨Below.trans (by exact sb) (hb1.mono hsz1)⟩; rw [Lib.strCells_eq, ← Lib.byteCells_append] at h1; have n2_ : Aside0 (Lib.IsBuilderF 62 5 g g _ w11) := ⟨.inr h1⟩; clear HB HI hk1 hb1 h1; have HB := n0_; have HI := n2_; clear n0_ n2_))
             go_roundg k1
             case measure => have := HK1.out; omega
             case rel => exact ⟨_, (i + 1), sr, H', ⟨by have := HK1.out; omega⟩, HB, ⟨by have h := HI.out; simpa using h⟩⟩
           · rw [if_neg c8] at H
             cases H
       · rw [if_neg c4] at H
         exact absurd H (by simp)
     · rw [if_neg c3] at H
       have c3b0 := decide_eq_false c3
       clear c3
       obtain rfl := Option.some.inj H
       go_wp2_with (go_at_call 38; (refine (Tryd.Builder_String_any_k g g s.data.toList _ HI.out (Nat.le_of_lt hgW)).mono ?_); rintro e w10 ⟨rfl, h1, hb1, hk1⟩; have n0_ : Aside0 (Below w.heap.size w w10) := ⟨Below.trans (by exact sb) (hb1.mono hsz1)⟩; clear HB HI; have HB := n0_; clear n0_)
       go_ret
       exact ⟨sq, sb⟩
 · replace c1 := Bool.eq_false_iff.mpr c1
   subst c1
   rewrite [if_neg (show ¬ (false = true) by decide)] at H
   obtain rfl := Option.some.inj H
   go_enter Tryd.func15, Tryd.ntmps15
   go_wp2_with (go_at_call 36; (with_reducible refine (impl_Token__impl_ValidToken.calls k A0 c0 l0 false _ HR0.out HC0.out A1.out).mono ?_); rintro e w1 ⟨rfl, hb⟩; have n0_ := sB HB hb; clear HB; have HB := n0_; clear n0_)
   go_ret
   exact ⟨sq, sb⟩
end Go.Proofs.YtpbjagjknaglgaaDoor.PFnExactPrintTokens
