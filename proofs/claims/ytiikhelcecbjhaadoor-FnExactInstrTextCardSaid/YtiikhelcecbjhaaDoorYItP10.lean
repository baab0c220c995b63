/- Printed functions: strconv_FormatInt_46, impl_decimal, impl_InstrText, laws_FnExactInstrText. -/
import Derived.Test.YtiikhelcecbjhaaDoorYItP0
import Derived.Test.YtiikhelcecbjhaaDoorYItP1
import Derived.Test.YtiikhelcecbjhaaDoorYItP4
import Derived.Test.YtiikhelcecbjhaaDoorYItP7
import Derived.Test.YtiikhelcecbjhaaDoorYItP8
namespace Go.Proofs.YtiikhelcecbjhaaDoor.PFnExactInstrText
open Go.RowKit Go.Proofs.YtiikhelcecbjhaaDoorG Go.Proofs.YtiikhelcecbjhaaDoorW.PrintWords Go.Proofs.YtiikhelcecbjhaaDoorW.PrintLast Go.Proofs.YtiikhelcecbjhaaDoorW.PrintMore
attribute [local go_sem] max2_int min2_int max_two min_two max_three min_three max_four min_four   -- for this text's walks alone
set_option linter.unusedVariables false
set_option linter.unusedSimpArgs false
/-! ### strconv_FormatInt_46: function 46 -/
def strconv_FormatInt_46.f (a0 : Int) (a1 : Int) : Option (ByteArray) := if a1 = 10 then (if -9223372036854775808 ≤ a0 then (if a0 ≤ 9223372036854775807 then (some ⟨(Lib.itoa a0).toArray⟩) else (none)) else (none)) else (none)
theorem strconv_FormatInt_46.calls (a0 : Int) (a1 : Int) (r : ByteArray) (w : World) (h : strconv_FormatInt_46.f a0 a1 = some r) (HT : EnvT w) :
  Calls Tryd.prog 46 #[.int .i64 a0, .int .i64 a1] w fun e w' => e = .returned (.string r) ∧ Below w.heap.size w w' := by
 unfold strconv_FormatInt_46.f at h
 split at h
 · rename_i h1
   subst h1
   split at h
   · split at h
     · rename_i h0 h2
       obtain rfl := Option.some.inj h
       exact format_calls a0 h0 h2 w HT
     · cases h
   · cases h
 · cases h

/-! ### impl_decimal: function 24 -/
def impl_decimal.f (a0 : Int) : Option (ByteArray) := (strconv_FormatInt_46.f a0 10).bind fun t210 => (some t210)
set_option maxHeartbeats 8000000 in
set_option maxRecDepth 100000 in
theorem impl_decimal.calls (a0 : Int) (r : ByteArray) (w : World) (h : impl_decimal.f a0 = some r) (HT : EnvT w) :
  Calls Tryd.prog 24 #[.int .i64 a0] w fun e w' => e = .returned (.string r) ∧ Below w.heap.size w w' := by
 have HB := Aside0.mk (Below.refl w.heap.size w)
 have H : ((strconv_FormatInt_46.f a0 10).bind fun t210 => (some t210)) = some r := h
 clear h
 obtain ⟨t210, A2, H⟩ := sO H
 obtain rfl := Option.some.inj H
 go_enter Tryd.func24, Tryd.ntmps24
 go_wp2_with (first | ((with_reducible refine gate_callee (f := 46) rfl ?_); refine sC (some 4) Tryd.func46 #[.int .i64 a0, .int .i64 10] (strconv_FormatInt_46.calls a0 10 t210 _ A2.out (by first | with_reducible exact HT | exact EnvT.below HT sb)) ?_; rintro e w3 ⟨rfl, hb⟩; refine ⟨_, rfl, ?_⟩; have n0_ := sB HB hb; clear HB; have HB := n0_; clear n0_; (try clear hb); (try clear hb2); (try clear hk); (try clear hi)))
 go_ret
 exact ⟨sq, sb⟩

/-! ### impl_InstrText: function 9 -/
def impl_InstrText.j0 : Nat → ByteArray → Int → Int → ByteArray → ByteArray → Bool → Int → Int → Bool → Int → Int → Option (ByteArray)
 | 0, _, _, _, _, _, _, _, _, _, _, _ => none
 | k + 1, x4, x214000, x214001, x214002, x223000, x223001, x223002, x223003, x223004, x223005, x223006 => if x214000 = 2 then ((impl_QuoteString.f k x214002).bind fun t224 => (if 1 + t224.size ≤ 9223372036854775807 then (if x4.size + (1 + t224.size) ≤ 9223372036854775807 then (some (x4 ++ ((⟨#[32]⟩ : ByteArray) ++ t224))) else (none)) else (none))) else (if x223004 = true then (if 1 + x214002.size ≤ 9223372036854775807 then (if x4.size + (1 + x214002.size) ≤ 9223372036854775807 then (some (x4 ++ ((⟨#[32]⟩ : ByteArray) ++ x214002))) else (none)) else (none)) else (some x4))
def impl_InstrText.f (k : Nat) (a0_0 : Int) (a0_1 : Int) (a0_2 : ByteArray) : Option (ByteArray) := (impl_ValidInstr.f k a0_0 a0_1 a0_2).bind fun t214 => (if t214 = true then ((impl_Instr_form.f a0_0 a0_1 a0_2).bind fun bt215 => (if bt215.2.1 = true then ((impl_decimal.f a0_1).bind fun t223 => (if 1 + t223.size ≤ 9223372036854775807 then (if bt215.1.size + (1 + t223.size) ≤ 9223372036854775807 then (impl_InstrText.j0 k (bt215.1 ++ ((⟨#[32]⟩ : ByteArray) ++ t223)) a0_0 a0_1 a0_2 bt215.1 bt215.2.1 bt215.2.2.1 bt215.2.2.2.1 bt215.2.2.2.2.1 bt215.2.2.2.2.2.1 bt215.2.2.2.2.2.2) else (none)) else (none))) else (impl_InstrText.j0 k bt215.1 a0_0 a0_1 a0_2 bt215.1 bt215.2.1 bt215.2.2.1 bt215.2.2.2.1 bt215.2.2.2.2.1 bt215.2.2.2.2.2.1 bt215.2.2.2.2.2.2))) else (some (⟨#[]⟩ : ByteArray)))
set_option maxHeartbeats 8000000 in
set_option maxRecDepth 100000 in
theorem impl_InstrText.calls (k : Nat) (a0_0 : Int) (a0_1 : Int) (a0_2 : ByteArray) (r : ByteArray) (w : World) (h : impl_InstrText.f k a0_0 a0_1 a0_2 = some r) (HT : EnvT w) :
  Calls Tryd.prog 9 #[.agg #[.int .i64 a0_0, .int .i64 a0_1, .string a0_2]] w fun e w' => e = .returned (.string r) ∧ Below w.heap.size w w' := by
 have hu26 := Tryd.underlying26
 have hu48 := Tryd.underlying48
 have HB := Aside0.mk (Below.refl w.heap.size w)
 have H : ((impl_ValidInstr.f k a0_0 a0_1 a0_2).bind fun t214 => (if t214 = true then ((impl_Instr_form.f a0_0 a0_1 a0_2).bind fun bt215 => (if bt215.2.1 = true then ((impl_decimal.f a0_1).bind fun t223 => (if 1 + t223.size ≤ 9223372036854775807 then (if bt215.1.size + (1 + t223.size) ≤ 9223372036854775807 then (impl_InstrText.j0 k (bt215.1 ++ ((⟨#[32]⟩ : ByteArray) ++ t223)) a0_0 a0_1 a0_2 bt215.1 bt215.2.1 bt215.2.2.1 bt215.2.2.2.1 bt215.2.2.2.2.1 bt215.2.2.2.2.2.1 bt215.2.2.2.2.2.2) else (none)) else (none))) else (impl_InstrText.j0 k bt215.1 a0_0 a0_1 a0_2 bt215.1 bt215.2.1 bt215.2.2.1 bt215.2.2.2.1 bt215.2.2.2.2.1 bt215.2.2.2.2.2.1 bt215.2.2.2.2.2.2))) else (some (⟨#[]⟩ : ByteArray)))) = some r := h
 clear h
 obtain ⟨t214, A2, H⟩ := sO H
 by_cases c3 : t214 = true
 ·subst c3
  rewrite [if_pos rfl] at H
  replace H := Option.bind_eq_some_iff.mp H
  obtain ⟨⟨t215, t216, t217, t218, t219, t220, t221⟩, A40, H⟩ := H
  replace H : (if t216 = true then ((impl_decimal.f a0_1).bind fun t223 => (if 1 + t223.size ≤ 9223372036854775807 then (if t215.size + (1 + t223.size) ≤ 9223372036854775807 then (impl_InstrText.j0 k (t215 ++ ((⟨#[32]⟩ : ByteArray) ++ t223)) a0_0 a0_1 a0_2 t215 t216 t217 t218 t219 t220 t221) else (none)) else (none))) else (impl_InstrText.j0 k t215 a0_0 a0_1 a0_2 t215 t216 t217 t218 t219 t220 t221)) = some r := H
  have A4 := Aside0.mk A40
  clear A40
  have HC5 := Aside0.mk H
  clear H
  go_enter Tryd.func9, Tryd.ntmps9
  go_upto_if 13 with (first | ((with_reducible refine gate_dst (N := 1) rfl ?_); refine sV (N := 1) (cs := #[.int .i64 a0_0, .int .i64 a0_1, .string a0_2]) (t := 26) ?_; intro gb213 hg w6 hbox hb; have n0_ := sB HB hb; have n1_ := Aside0.mk (hbox); have n2_ := sG HB hg; have n3_ := sG HB hg; clear HB; have HB := n0_; have BK213 := n1_; have GW213 := n2_; have GE213 := n3_; clear n0_ n1_ n2_ n3_; clear hb hbox hg; obtain ⟨hcz7_0, hcz7_1, hcz7_2, hfz7_0, hfz7_1, hfz7_2⟩ := cells3 BK213.out) | ((with_reducible refine gate_callee (f := 22) rfl ?_); refine sC (some 6) Tryd.func22 #[.agg #[.int .i64 a0_0, .int .i64 a0_1, .string a0_2]] (impl_ValidInstr.calls k a0_0 a0_1 a0_2 true _ A2.out) ?_; rintro e w8 ⟨rfl, hb⟩; refine ⟨_, rfl, ?_⟩; have n0_ := sK BK213 hb; have n1_ := sB HB hb; clear BK213; clear HB; have BK213 := n0_; have HB := n1_; clear n0_ n1_; (try clear hb); (try clear hb2); (try clear hk); (try clear hi); obtain ⟨hcz9_0, hcz9_1, hcz9_2, hfz9_0, hfz9_1, hfz9_2⟩ := cells3 BK213.out) | ((with_reducible refine gate_callee (f := 23) rfl ?_); refine sC (some 9) Tryd.func23 #[.agg #[.int .i64 a0_0, .int .i64 a0_1, .string a0_2]] (impl_Instr_form.calls a0_0 a0_1 a0_2 t215 t216 t217 t218 t219 t220 t221 _ A4.out) ?_; rintro e w10 ⟨rfl, hb⟩; refine ⟨_, rfl, ?_⟩; have n0_ := sK BK213 hb; have n1_ := sB HB hb; clear BK213; clear HB; have BK213 := n0_; have HB := n1_; clear n0_ n1_; (try clear hb); (try clear hb2); (try clear hk); (try clear hi)) | ((with_reducible refine gate_dst (N := 3) rfl ?_); refine sV (N := 3) (cs := #[.string (⟨#[]⟩ : ByteArray), .bool false, .int .i64 0, .int .i64 0, .bool false, .int .i64 0, .int .i64 0]) (t := 48) ?_; intro gb222 hg w11 hbox hb; have n0_ := sK BK213 hb; have n1_ := sB HB hb; have n2_ := Aside0.mk (hbox); have n3_ := sG HB hg; have n4_ := sG HB hg; have n5_ := sN BK213 hg; have n6_ := sM BK213 hg; clear BK213; clear HB; have BK213 := n0_; have HB := n1_; have BK222 := n2_; have GW222 := n3_; have GE222 := n4_; have NB213_222 := n5_; have NB222_213 := n6_; clear n0_ n1_ n2_ n3_ n4_ n5_ n6_; clear hb hbox hg; have hnb12 := NB222_213.out; have hnc12 := NB213_222.out; obtain ⟨hcz13_0, hcz13_1, hcz13_2, hcz13_3, hcz13_4, hcz13_5, hcz13_6, hfz13_0, hfz13_1, hfz13_2, hfz13_3, hfz13_4, hfz13_5, hfz13_6⟩ := cells7 BK222.out))
  (try simp only [Act.put, List.setIfInBounds_toArray, List.set_cons_zero, List.set_cons_succ])
  go_cut [4] (fun v4 wc => ∃ (kq : Nat) (x4_4 : ByteArray), v4 = .string x4_4 ∧ Aside0 (impl_InstrText.j0 kq x4_4 a0_0 a0_1 a0_2 t215 t216 t217 t218 t219 t220 t221 = some r) ∧ Aside0 (kq ≤ k) ∧ Aside0 (wc.heap[gb213]? = some (.cells #[.int .i64 a0_0, .int .i64 a0_1, .string a0_2] 26 (0, 0))) ∧ Aside0 (wc.heap[gb222]? = some (.cells #[.string t215, .bool t216, .int .i64 t217, .int .i64 t218, .bool t219, .int .i64 t220, .int .i64 t221] 48 (0, 0))) ∧ Aside0 (Below w.heap.size w wc))
  case first =>
   have H := HC5.out
   clear HC5
   by_cases c14 : t216 = true
   ·subst c14
    rewrite [if_pos rfl] at H
    obtain ⟨t223, A15, H⟩ := sO H
    by_cases c16 : 1 + t223.size ≤ 9223372036854775807
    ·rw [if_pos c16] at H
     have c16b0 := eq_true c16
     have c16b1 := decide_eq_true c16
     try have c16b2 : (9223372036854775807 < 1 + t223.size) = False := eq_false (Nat.not_lt.2 c16)
     by_cases c17 : t215.size + (1 + t223.size) ≤ 9223372036854775807
     ·rw [if_pos c17] at H
      have c17b0 := eq_true c17
      have c17b1 := decide_eq_true c17
      try have c17b2 : (9223372036854775807 < t215.size + (1 + t223.size)) = False := eq_false (Nat.not_lt.2 c17)
      have H' := Aside0.mk H
      clear H
      have hnb18 := NB213_222.out
      have hnc18 := NB222_213.out
      obtain ⟨hcz19_0, hcz19_1, hcz19_2, hfz19_0, hfz19_1, hfz19_2⟩ := cells3 BK213.out
      go_wp2_with (first | ((with_reducible refine gate_callee (f := 24) rfl ?_); refine sC (some 17) Tryd.func24 #[.int .i64 a0_1] (impl_decimal.calls a0_1 t223 _ A15.out (by first | with_reducible exact HT | exact EnvT.below HT sb)) ?_; rintro e w20 ⟨rfl, hb⟩; refine ⟨_, rfl, ?_⟩; have n0_ := Aside0.mk (blk_below (g := gb213) (o := .cells #[.int .i64 a0_0, .int .i64 a0_1, .string a0_2] 26 (0, 0)) (by (with_reducible repeat (first | refine blk_drewN ?_ _ | refine blk_drew ?_ | refine blk_alloc ?_ _)); refine blk_far ?_ NB213_222.out _; (with_reducible repeat (first | refine blk_drewN ?_ _ | refine blk_drew ?_ | refine blk_alloc ?_ _)); refine blk_far ?_ NB213_222.out _; (with_reducible repeat (first | refine blk_drewN ?_ _ | refine blk_drew ?_ | refine blk_alloc ?_ _)); refine blk_far ?_ NB213_222.out _; (with_reducible repeat (first | refine blk_drewN ?_ _ | refine blk_drew ?_ | refine blk_alloc ?_ _)); refine blk_far ?_ NB213_222.out _; (with_reducible repeat (first | refine blk_drewN ?_ _ | refine blk_drew ?_ | refine blk_alloc ?_ _)); refine blk_far ?_ NB213_222.out _; (with_reducible repeat (first | refine blk_drewN ?_ _ | refine blk_drew ?_ | refine blk_alloc ?_ _)); refine blk_far ?_ NB213_222.out _; (with_reducible repeat (first | refine blk_drewN ?_ _ | refine blk_drew ?_ | refine blk_alloc ?_ _)); refine blk_far ?_ NB213_222.out _; exact sT BK213.out) hb); have n1_ := Aside0.mk (blk_below (g := gb222) (o := .cells #[.string t215, .bool true, .int .i64 t217, .int .i64 t218, .bool t219, .int .i64 t220, .int .i64 t221] 48 (0, 0)) (by exact sP7 (sT BK222.out)) hb); have n2_ := sB HB hb; clear BK213; clear BK222; clear HB; have BK213 := n0_; have BK222 := n1_; have HB := n2_; clear n0_ n1_ n2_; (try clear hb); (try clear hb2); (try clear hk); (try clear hi)))
      go_meet
      case rel => exact ⟨_, (t215 ++ ((⟨#[32]⟩ : ByteArray) ++ t223)), sr, H', ⟨by first | omega | exact Nat.le_refl _⟩, ⟨by exact sT BK213.out⟩, ⟨by exact sT BK222.out⟩, ⟨sb⟩⟩
     rw [if_neg c17] at H
     exact absurd H (by simp)
    rw [if_neg c16] at H
    exact absurd H (by simp)
   replace c14 := Bool.eq_false_iff.mpr c14
   subst c14
   rewrite [if_neg (show ¬ (false = true) by decide)] at H
   have H' := Aside0.mk H
   clear H
   go_wp2
   go_meet
   case rel => exact ⟨_, (t215), sr, H', ⟨by first | omega | exact Nat.le_refl _⟩, ⟨by (with_reducible repeat (first | refine blk_drewN ?_ _ | refine blk_drew ?_ | refine blk_alloc ?_ _)); refine blk_far ?_ NB213_222.out _; (with_reducible repeat (first | refine blk_drewN ?_ _ | refine blk_drew ?_ | refine blk_alloc ?_ _)); refine blk_far ?_ NB213_222.out _; (with_reducible repeat (first | refine blk_drewN ?_ _ | refine blk_drew ?_ | refine blk_alloc ?_ _)); refine blk_far ?_ NB213_222.out _; (with_reducible repeat (first | refine blk_drewN ?_ _ | refine blk_drew ?_ | refine blk_alloc ?_ _)); refine blk_far ?_ NB213_222.out _; (with_reducible repeat (first | refine blk_drewN ?_ _ | refine blk_drew ?_ | refine blk_alloc ?_ _)); refine blk_far ?_ NB213_222.out _; (with_reducible repeat (first | refine blk_drewN ?_ _ | refine blk_drew ?_ | refine blk_alloc ?_ _)); refine blk_far ?_ NB213_222.out _; (with_reducible repeat (first | refine blk_drewN ?_ _ | refine blk_drew ?_ | refine blk_alloc ?_ _)); refine blk_far ?_ NB213_222.out _; exact sT BK213.out⟩, ⟨by exact sP7 (sT BK222.out)⟩, ⟨sb⟩⟩
  case rest =>
   clear HC5
   try clear c1
   try clear c2
   try clear p2
   try clear c3
   try clear c9
   try clear c12
   try clear c14
   try clear c16
   try clear c16b0
   try clear c16b1
   try clear c16b2
   try clear c17
   try clear c17b0
   try clear c17b1
   try clear c17b2
   try clear c18
   try clear hcz13_0
   try clear hcz13_1
   try clear hcz13_2
   try clear hcz13_3
   try clear hcz13_4
   try clear hcz13_5
   try clear hcz13_6
   try clear hcz19_0
   try clear hcz19_1
   try clear hcz19_2
   try clear hcz7_0
   try clear hcz7_1
   try clear hcz7_2
   try clear hcz9_0
   try clear hcz9_1
   try clear hcz9_2
   try clear hfz13_0
   try clear hfz13_1
   try clear hfz13_2
   try clear hfz13_3
   try clear hfz13_4
   try clear hfz13_5
   try clear hfz13_6
   try clear hfz19_0
   try clear hfz19_1
   try clear hfz19_2
   try clear hfz7_0
   try clear hfz7_1
   try clear hfz7_2
   try clear hfz9_0
   try clear hfz9_1
   try clear hfz9_2
   obtain ⟨kq, x4_4, rfl, HA, HJ4, BK213, BK222, HB⟩ := hcut
   cases kq with
   | zero => exact absurd HA.out (by simp [impl_InstrText.j0])
   | succ kj4 =>
    have H := HA.out
    clear HA
    simp only [impl_InstrText.j0] at H
    by_cases c21 : a0_0 = 2
    ·rw [if_pos c21] at H
     have c21b0 : (a0_0 == 2) = true := beq_iff_eq.mpr c21
     have c21b1 : (a0_0 != 2) = false := bne_eq_false_iff_eq.mpr c21
     clear c21
     obtain ⟨t224, A22, H⟩ := sO H
     by_cases c23 : 1 + t224.size ≤ 9223372036854775807
     ·rw [if_pos c23] at H
      have c23b0 := eq_true c23
      have c23b1 := decide_eq_true c23
      try have c23b2 : (9223372036854775807 < 1 + t224.size) = False := eq_false (Nat.not_lt.2 c23)
      by_cases c24 : x4_4.size + (1 + t224.size) ≤ 9223372036854775807
      ·rw [if_pos c24] at H
       have c24b0 := eq_true c24
       have c24b1 := decide_eq_true c24
       try have c24b2 : (9223372036854775807 < x4_4.size + (1 + t224.size)) = False := eq_false (Nat.not_lt.2 c24)
       obtain rfl := Option.some.inj H
       have hnb25 := NB213_222.out
       have hnc25 := NB222_213.out
       obtain ⟨hcz26_0, hcz26_1, hcz26_2, hfz26_0, hfz26_1, hfz26_2⟩ := cells3 BK213.out
       go_wp2_with (first | ((with_reducible refine gate_callee (f := 25) rfl ?_); refine sC (some 27) Tryd.func25 #[.string a0_2] (impl_QuoteString.calls kj4 a0_2 t224 _ A22.out) ?_; rintro e w27 ⟨rfl, hb⟩; refine ⟨_, rfl, ?_⟩; have n0_ := sK BK213 hb; have n1_ := sK BK222 hb; have n2_ := sB HB hb; clear BK213; clear BK222; clear HB; have BK213 := n0_; have BK222 := n1_; have HB := n2_; clear n0_ n1_ n2_; (try clear hb); (try clear hb2); (try clear hk); (try clear hi)))
       go_ret
       exact ⟨sq, sb⟩
      rw [if_neg c24] at H
      exact absurd H (by simp)
     rw [if_neg c23] at H
     exact absurd H (by simp)
    rw [if_neg c21] at H
    have c21b0 : (a0_0 == 2) = false := beq_eq_false_iff_ne.mpr c21
    have c21b1 : (a0_0 != 2) = true := bne_iff_ne.mpr c21
    by_cases c28 : t219 = true
    ·subst c28
     rewrite [if_pos rfl] at H
     by_cases c29 : 1 + a0_2.size ≤ 9223372036854775807
     ·rw [if_pos c29] at H
      have c29b0 := eq_true c29
      have c29b1 := decide_eq_true c29
      try have c29b2 : (9223372036854775807 < 1 + a0_2.size) = False := eq_false (Nat.not_lt.2 c29)
      by_cases c30 : x4_4.size + (1 + a0_2.size) ≤ 9223372036854775807
      ·rw [if_pos c30] at H
       have c30b0 := eq_true c30
       have c30b1 := decide_eq_true c30
       try have c30b2 : (9223372036854775807 < x4_4.size + (1 + a0_2.size)) = False := eq_false (Nat.not_lt.2 c30)
       obtain rfl := Option.some.inj H
       have hnb31 := NB213_222.out
       have hnc31 := NB222_213.out
       obtain ⟨hcz32_0, hcz32_1, hcz32_2, hfz32_0, hfz32_1, hfz32_2⟩ := cells3 BK213.out
       obtain ⟨hcz33_0, hcz33_1, hcz33_2, hcz33_3, hcz33_4, hcz33_5, hcz33_6, hfz33_0, hfz33_1, hfz33_2, hfz33_3, hfz33_4, hfz33_5, hfz33_6⟩ := cells7 BK222.out
       go_wp2
       go_ret
       exact ⟨sq, sb⟩
      rw [if_neg c30] at H
      exact absurd H (by simp)
     rw [if_neg c29] at H
     exact absurd H (by simp)
    replace c28 := Bool.eq_false_iff.mpr c28
    subst c28
    rewrite [if_neg (show ¬ (false = true) by decide)] at H
    obtain rfl := Option.some.inj H
    have hnb34 := NB213_222.out
    have hnc34 := NB222_213.out
    obtain ⟨hcz35_0, hcz35_1, hcz35_2, hfz35_0, hfz35_1, hfz35_2⟩ := cells3 BK213.out
    obtain ⟨hcz36_0, hcz36_1, hcz36_2, hcz36_3, hcz36_4, hcz36_5, hcz36_6, hfz36_0, hfz36_1, hfz36_2, hfz36_3, hfz36_4, hfz36_5, hfz36_6⟩ := cells7 BK222.out
    go_wp2
    go_ret
    exact ⟨sq, sb⟩
 replace c3 := Bool.eq_false_iff.mpr c3
 subst c3
 rewrite [if_neg (show ¬ (false = true) by decide)] at H
 obtain rfl := Option.some.inj H
 go_enter Tryd.func9, Tryd.ntmps9
 go_wp2_with (first | ((with_reducible refine gate_dst (N := 1) rfl ?_); refine sV (N := 1) (cs := #[.int .i64 a0_0, .int .i64 a0_1, .string a0_2]) (t := 26) ?_; intro gb213 hg w37 hbox hb; have n0_ := sB HB hb; have n1_ := Aside0.mk (hbox); have n2_ := sG HB hg; have n3_ := sG HB hg; clear HB; have HB := n0_; have BK213 := n1_; have GW213 := n2_; have GE213 := n3_; clear n0_ n1_ n2_ n3_; clear hb hbox hg; obtain ⟨hcz38_0, hcz38_1, hcz38_2, hfz38_0, hfz38_1, hfz38_2⟩ := cells3 BK213.out) | ((with_reducible refine gate_callee (f := 22) rfl ?_); refine sC (some 6) Tryd.func22 #[.agg #[.int .i64 a0_0, .int .i64 a0_1, .string a0_2]] (impl_ValidInstr.calls k a0_0 a0_1 a0_2 false _ A2.out) ?_; rintro e w39 ⟨rfl, hb⟩; refine ⟨_, rfl, ?_⟩; have n0_ := sK BK213 hb; have n1_ := sB HB hb; clear BK213; clear HB; have BK213 := n0_; have HB := n1_; clear n0_ n1_; (try clear hb); (try clear hb2); (try clear hk); (try clear hi)))
 go_ret
 exact ⟨sq, sb⟩

/-! ### laws_FnExactInstrText: function 3 -/
def laws_FnExactInstrText.f (k : Nat) (a0_0 : Int) (a0_1 : Int) (a0_2 : ByteArray) : Option (Bool) := (laws_szInstr.f a0_0 a0_1 a0_2 1048576).bind fun t226 => (if t226 < 0 then (some true) else ((laws_toInstr.f a0_0 a0_1 a0_2).bind fun bt227 => ((spec_InstrText.f k bt227.1 bt227.2.1 bt227.2.2).bind fun t230 => ((laws_toInstr.f a0_0 a0_1 a0_2).bind fun bt231 => ((impl_InstrText.f k bt231.1 bt231.2.1 bt231.2.2).bind fun t234 => (if t234.toList = t230.toList then (some true) else (some false)))))))
set_option maxHeartbeats 8000000 in
set_option maxRecDepth 100000 in
theorem laws_FnExactInstrText.calls (k : Nat) (a0_0 : Int) (a0_1 : Int) (a0_2 : ByteArray) (w : World) (h : laws_FnExactInstrText.f k a0_0 a0_1 a0_2 = some true) (HT : EnvT w) :
  Calls Tryd.prog 3 #[.agg #[.int .i64 a0_0, .int .i64 a0_1, .string a0_2]] w fun e w' => e = .returned (.bool true) ∧ Below w.heap.size w w' := by
 have hu23 := Tryd.underlying23
 have HB := Aside0.mk (Below.refl w.heap.size w)
 have H : ((laws_szInstr.f a0_0 a0_1 a0_2 1048576).bind fun t226 => (if t226 < 0 then (some true) else ((laws_toInstr.f a0_0 a0_1 a0_2).bind fun bt227 => ((spec_InstrText.f k bt227.1 bt227.2.1 bt227.2.2).bind fun t230 => ((laws_toInstr.f a0_0 a0_1 a0_2).bind fun bt231 => ((impl_InstrText.f k bt231.1 bt231.2.1 bt231.2.2).bind fun t234 => (if t234.toList = t230.toList then (some true) else (some false)))))))) = some true := h
 clear h
 obtain ⟨t226, A2, H⟩ := sO H
 by_cases c3 : t226 < 0
 ·rw [if_pos c3] at H
  have c3b0 := decide_eq_true c3
  clear c3
  clear H
  go_enter Tryd.func3, Tryd.ntmps3
  go_wp2_with (first | ((with_reducible refine gate_dst (N := 1) rfl ?_); refine sV (N := 1) (cs := #[.int .i64 a0_0, .int .i64 a0_1, .string a0_2]) (t := 23) ?_; intro gb225 hg w4 hbox hb; have n0_ := sB HB hb; have n1_ := Aside0.mk (hbox); have n2_ := sG HB hg; have n3_ := sG HB hg; clear HB; have HB := n0_; have BK225 := n1_; have GW225 := n2_; have GE225 := n3_; clear n0_ n1_ n2_ n3_; clear hb hbox hg; obtain ⟨hcz5_0, hcz5_1, hcz5_2, hfz5_0, hfz5_1, hfz5_2⟩ := cells3 BK225.out) | ((with_reducible refine gate_callee (f := 6) rfl ?_); refine sC (some 8) Tryd.func6 #[.agg #[.int .i64 a0_0, .int .i64 a0_1, .string a0_2], .int .i64 1048576] (laws_szInstr.calls a0_0 a0_1 a0_2 1048576 t226 _ A2.out) ?_; rintro e w6 ⟨rfl, hb⟩; refine ⟨_, rfl, ?_⟩; have n0_ := sK BK225 hb; have n1_ := sB HB hb; clear BK225; clear HB; have BK225 := n0_; have HB := n1_; clear n0_ n1_; (try clear hb); (try clear hb2); (try clear hk); (try clear hi)))
  go_ret
  exact ⟨sq, sb⟩
 rw [if_neg c3] at H
 have c3b0 := decide_eq_false c3
 clear c3
 replace H := Option.bind_eq_some_iff.mp H
 obtain ⟨⟨t227, t228, t229⟩, A70, H⟩ := H
 replace H : ((spec_InstrText.f k t227 t228 t229).bind fun t230 => ((laws_toInstr.f a0_0 a0_1 a0_2).bind fun bt231 => ((impl_InstrText.f k bt231.1 bt231.2.1 bt231.2.2).bind fun t234 => (if t234.toList = t230.toList then (some true) else (some false))))) = some true := H
 have A7 := Aside0.mk A70
 clear A70
 obtain ⟨t230, A8, H⟩ := sO H
 replace H := Option.bind_eq_some_iff.mp H
 obtain ⟨⟨t231, t232, t233⟩, A90, H⟩ := H
 replace H : ((impl_InstrText.f k t231 t232 t233).bind fun t234 => (if t234.toList = t230.toList then (some true) else (some false))) = some true := H
 have A9 := Aside0.mk A90
 clear A90
 obtain ⟨t234, A10, H⟩ := sO H
 by_cases c11 : t234.toList = t230.toList
 ·rw [if_pos c11] at H
  have c11b0 : (t234.toList == t230.toList) = true := beq_iff_eq.mpr c11
  have c11b1 : (t234.toList != t230.toList) = false := bne_eq_false_iff_eq.mpr c11
  clear c11
  clear H
  go_enter Tryd.func3, Tryd.ntmps3
  go_wp2_with (first | ((with_reducible refine gate_dst (N := 1) rfl ?_); refine sV (N := 1) (cs := #[.int .i64 a0_0, .int .i64 a0_1, .string a0_2]) (t := 23) ?_; intro gb225 hg w12 hbox hb; have n0_ := sB HB hb; have n1_ := Aside0.mk (hbox); have n2_ := sG HB hg; have n3_ := sG HB hg; clear HB; have HB := n0_; have BK225 := n1_; have GW225 := n2_; have GE225 := n3_; clear n0_ n1_ n2_ n3_; clear hb hbox hg; obtain ⟨hcz13_0, hcz13_1, hcz13_2, hfz13_0, hfz13_1, hfz13_2⟩ := cells3 BK225.out) | ((with_reducible refine gate_callee (f := 6) rfl ?_); refine sC (some 8) Tryd.func6 #[.agg #[.int .i64 a0_0, .int .i64 a0_1, .string a0_2], .int .i64 1048576] (laws_szInstr.calls a0_0 a0_1 a0_2 1048576 t226 _ A2.out) ?_; rintro e w14 ⟨rfl, hb⟩; refine ⟨_, rfl, ?_⟩; have n0_ := sK BK225 hb; have n1_ := sB HB hb; clear BK225; clear HB; have BK225 := n0_; have HB := n1_; clear n0_ n1_; (try clear hb); (try clear hb2); (try clear hk); (try clear hi); obtain ⟨hcz15_0, hcz15_1, hcz15_2, hfz15_0, hfz15_1, hfz15_2⟩ := cells3 BK225.out) | ((with_reducible refine gate_callee (f := 8) rfl ?_); refine sC (some 12) Tryd.func8 #[.agg #[.int .i64 a0_0, .int .i64 a0_1, .string a0_2]] (laws_toInstr.calls a0_0 a0_1 a0_2 t227 t228 t229 _ A7.out) ?_; rintro e w16 ⟨rfl, hb⟩; refine ⟨_, rfl, ?_⟩; have n0_ := sK BK225 hb; have n1_ := sB HB hb; clear BK225; clear HB; have BK225 := n0_; have HB := n1_; clear n0_ n1_; (try clear hb); (try clear hb2); (try clear hk); (try clear hi)) | ((with_reducible refine gate_callee (f := 7) rfl ?_); refine sC (some 13) Tryd.func7 #[.agg #[.int .i64 t227, .int .i64 t228, .string t229]] (spec_InstrText.calls k t227 t228 t229 t230 _ A8.out) ?_; rintro e w17 ⟨rfl, hb⟩; refine ⟨_, rfl, ?_⟩; have n0_ := sK BK225 hb; have n1_ := sB HB hb; clear BK225; clear HB; have BK225 := n0_; have HB := n1_; clear n0_ n1_; (try clear hb); (try clear hb2); (try clear hk); (try clear hi); obtain ⟨hcz18_0, hcz18_1, hcz18_2, hfz18_0, hfz18_1, hfz18_2⟩ := cells3 BK225.out) | ((with_reducible refine gate_callee (f := 8) rfl ?_); refine sC (some 15) Tryd.func8 #[.agg #[.int .i64 a0_0, .int .i64 a0_1, .string a0_2]] (laws_toInstr.calls a0_0 a0_1 a0_2 t231 t232 t233 _ A9.out) ?_; rintro e w19 ⟨rfl, hb⟩; refine ⟨_, rfl, ?_⟩; have n0_ := sK BK225 hb; have n1_ := sB HB hb; clear BK225; clear HB; have BK225 := n0_; have HB := n1_; clear n0_ n1_; (try clear hb); (try clear hb2); (try clear hk); (try clear hi)) | ((with_reducible refine gate_callee (f := 9) rfl ?_); refine sC (some 16) Tryd.func9 #[.agg #[.int .i64 t231, .int .i64 t232, .string t233]] (impl_InstrText.calls k t231 t232 t233 t234 _ A10.out (by first | with_reducible exact HT | exact EnvT.below HT sb)) ?_; rintro e w20 ⟨rfl, hb⟩; refine ⟨_, rfl, ?_⟩; have n0_ := sK BK225 hb; have n1_ := sB HB hb; clear BK225; clear HB; have BK225 := n0_; have HB := n1_; clear n0_ n1_; (try clear hb); (try clear hb2); (try clear hk); (try clear hi)))
  go_ret
  exact ⟨sq, sb⟩
 rw [if_neg c11] at H
 have c11b0 : (t234.toList == t230.toList) = false := beq_eq_false_iff_ne.mpr c11
 have c11b1 : (t234.toList != t230.toList) = true := bne_iff_ne.mpr c11
 exact absurd H (by simp)
end Go.Proofs.YtiikhelcecbjhaaDoor.PFnExactInstrText
