/- Printed functions: spec_PrintTokens. -/
import Derived.Test.YtpbjagjknaglgaaDoorYPtP0
import Derived.Test.YtpbjagjknaglgaaDoorYPtP4
import Derived.Test.YtpbjagjknaglgaaDoorYPtP5
namespace Go.Proofs.YtpbjagjknaglgaaDoor.PFnExactPrintTokens
open Go.RowKit Go.Proofs.YtpbjagjknaglgaaDoorG Go.Proofs.YtpbjagjknaglgaaDoorW.PrintWords Go.Proofs.YtpbjagjknaglgaaDoorW.PrintLast Go.Proofs.YtpbjagjknaglgaaDoorW.PrintMore
attribute [local go_sem] max2_int min2_int max_two min_two max_three min_three max_four min_four   -- for this text's walks alone
set_option linter.unusedVariables false
set_option linter.unusedSimpArgs false
/-! ### spec_PrintTokens: function 13 -/
def spec_PrintTokens.l0 : Nat → List (S26) → ByteArray → Int → Option (ByteArray)
 | 0, _, _, _ => none
 | k + 1, x0, x3, x4 => if x4 < (x0.length : Int) then (if 0 ≤ x4 then ((spec_ValidToken.f k ((rd_T26 x0 x4).f0) ((rd_T26 x0 x4).f1) ((rd_T26 x0 x4).f2) ((rd_T26 x0 x4).f3) ((rd_T26 x0 x4).f4)).bind fun t148 => (if t148 = true then (if x4 > 0 then (if (rd_T26 x0 x4).f3 = true then (if x3.size + 1 ≤ 9223372036854775807 then ((spec_l02Text.f k ((rd_T26 x0 x4).f0) ((rd_T26 x0 x4).f1) ((rd_T26 x0 x4).f2) ((rd_T26 x0 x4).f3) ((rd_T26 x0 x4).f4)).bind fun t151 => (if x3.size + 1 + t151.size ≤ 9223372036854775807 then (spec_PrintTokens.l0 k x0 ((x3 ++ (⟨#[32]⟩ : ByteArray)) ++ t151) (wrap64 (x4 + 1))) else (none))) else (none)) else (if 0 ≤ (wrap64 (x4 - 1)) then (if (wrap64 (x4 - 1)) < (x0.length : Int) then (if (rd_T26 x0 (wrap64 (x4 - 1))).f4 = true then (if x3.size + 1 ≤ 9223372036854775807 then ((spec_l02Text.f k ((rd_T26 x0 x4).f0) ((rd_T26 x0 x4).f1) ((rd_T26 x0 x4).f2) ((rd_T26 x0 x4).f3) ((rd_T26 x0 x4).f4)).bind fun t154 => (if x3.size + 1 + t154.size ≤ 9223372036854775807 then (spec_PrintTokens.l0 k x0 ((x3 ++ (⟨#[32]⟩ : ByteArray)) ++ t154) (wrap64 (x4 + 1))) else (none))) else (none)) else ((spec_l02Text.f k ((rd_T26 x0 x4).f0) ((rd_T26 x0 x4).f1) ((rd_T26 x0 x4).f2) ((rd_T26 x0 x4).f3) ((rd_T26 x0 x4).f4)).bind fun t156 => (if x3.size + t156.size ≤ 9223372036854775807 then (spec_PrintTokens.l0 k x0 (x3 ++ t156) (wrap64 (x4 + 1))) else (none)))) else (none)) else (none))) else ((spec_l02Text.f k ((rd_T26 x0 x4).f0) ((rd_T26 x0 x4).f1) ((rd_T26 x0 x4).f2) ((rd_T26 x0 x4).f3) ((rd_T26 x0 x4).f4)).bind fun t158 => (if x3.size + t158.size ≤ 9223372036854775807 then (spec_PrintTokens.l0 k x0 (x3 ++ t158) (wrap64 (x4 + 1))) else (none)))) else (some (⟨#[]⟩ : ByteArray)))) else (none)) else (some x3)
def spec_PrintTokens.f (k : Nat) (l0 : List (S26)) : Option (ByteArray) := spec_PrintTokens.l0 k l0 (⟨#[]⟩ : ByteArray) 0
set_option maxHeartbeats 8000000 in
set_option maxRecDepth 100000 in
theorem spec_PrintTokens.calls (k : Nat) (A0 : Option Addr) (c0 : Nat) (l0 : List (S26)) (r : ByteArray) (w : World) (hr0 : Kd.C k26 w A0 l0.length l0) (hc0 : l0.length ≤ c0) (h : spec_PrintTokens.f k l0 = some r) :
  Calls Tryd.prog 13 #[.slice A0 l0.length c0] w fun e w' => e = .returned (.string r) ∧ Below w.heap.size w w' := by
 have hu26 := Tryd.underlying26
 have HR0 := Aside0.mk hr0
 have HC0 := Aside0.mk hc0
 clear hr0 hc0
 have HB := Aside0.mk (Below.refl w.heap.size w)
 have H : (spec_PrintTokens.l0 k l0 (⟨#[]⟩ : ByteArray) 0) = some r := h
 clear h
 have H' := Aside0.mk H
 clear H
 go_enter Tryd.func13, Tryd.ntmps13
 go_wp2
 go_loopg [3, 4] k (fun kq v3 v4 w' => ∃ (x3_1 : ByteArray) (x4_1 : Int), v3 = .string x3_1 ∧ v4 = .int .i64 x4_1 ∧ Aside0 (spec_PrintTokens.l0 kq l0 x3_1 x4_1 = some r) ∧ Aside0 (kq ≤ k) ∧ Aside0 (Below w.heap.size w w'))
 case atStart => exact ⟨((⟨#[]⟩ : ByteArray)), (0), sr, sr, H', ⟨Nat.le_refl _⟩, ⟨sb⟩⟩
 case round =>
  clear H'
  try clear c1
  obtain ⟨x3_1, x4_1, rfl, rfl, HA, HK1, HB⟩ := hrel
  cases gk with
  | zero => exact absurd HA.out (by simp [spec_PrintTokens.l0])
  | succ k1 =>
   have H := HA.out
   clear HA
   simp only [spec_PrintTokens.l0] at H
   by_cases c2 : x4_1 < (l0.length : Int)
   ·rw [if_pos c2] at H
    have c2b0 := decide_eq_true c2
    clear c2
    by_cases c3 : 0 ≤ x4_1
    ·rw [if_pos c3] at H
     have c3b0 := decide_eq_true c3
     clear c3
     obtain ⟨t148, A4, H⟩ := sO H
     by_cases c5 : t148 = true
     ·subst c5
      rewrite [if_pos rfl] at H
      by_cases c6 : x4_1 > 0
      ·rw [if_pos c6] at H
       have c6b0 : decide (0 < x4_1) = true := decide_eq_true c6
       clear c6
       obtain ⟨bq7, hbq7⟩ : ∃ b_ : Bool, b_ = ((rd_T26 l0 x4_1).f3) := ⟨_, rfl⟩
       replace H : (if bq7 = true then (if x3_1.size + 1 ≤ 9223372036854775807 then ((spec_l02Text.f k1 ((rd_T26 l0 x4_1).f0) ((rd_T26 l0 x4_1).f1) ((rd_T26 l0 x4_1).f2) (bq7) ((rd_T26 l0 x4_1).f4)).bind fun t151 => (if x3_1.size + 1 + t151.size ≤ 9223372036854775807 then (spec_PrintTokens.l0 k1 l0 ((x3_1 ++ (⟨#[32]⟩ : ByteArray)) ++ t151) (wrap64 (x4_1 + 1))) else (none))) else (none)) else (if 0 ≤ (wrap64 (x4_1 - 1)) then (if (wrap64 (x4_1 - 1)) < (l0.length : Int) then (if (rd_T26 l0 (wrap64 (x4_1 - 1))).f4 = true then (if x3_1.size + 1 ≤ 9223372036854775807 then ((spec_l02Text.f k1 ((rd_T26 l0 x4_1).f0) ((rd_T26 l0 x4_1).f1) ((rd_T26 l0 x4_1).f2) (bq7) ((rd_T26 l0 x4_1).f4)).bind fun t154 => (if x3_1.size + 1 + t154.size ≤ 9223372036854775807 then (spec_PrintTokens.l0 k1 l0 ((x3_1 ++ (⟨#[32]⟩ : ByteArray)) ++ t154) (wrap64 (x4_1 + 1))) else (none))) else (none)) else ((spec_l02Text.f k1 ((rd_T26 l0 x4_1).f0) ((rd_T26 l0 x4_1).f1) ((rd_T26 l0 x4_1).f2) (bq7) ((rd_T26 l0 x4_1).f4)).bind fun t156 => (if x3_1.size + t156.size ≤ 9223372036854775807 then (spec_PrintTokens.l0 k1 l0 (x3_1 ++ t156) (wrap64 (x4_1 + 1))) else (none)))) else (none)) else (none))) = some r := by rw [← hbq7] at H; exact H
       have Nbq7 := Aside0.mk hbq7
       clear hbq7
       by_cases c8 : bq7 = true
       ·subst c8
        rewrite [if_pos rfl] at H
        by_cases c9 : x3_1.size + 1 ≤ 9223372036854775807
        ·rw [if_pos c9] at H
         have c9b0 := eq_true c9
         have c9b1 := decide_eq_true c9
         try have c9b2 : (9223372036854775807 < x3_1.size + 1) = False := eq_false (Nat.not_lt.2 c9)
         obtain ⟨t151, A10, H⟩ := sO H
         by_cases c11 : x3_1.size + 1 + t151.size ≤ 9223372036854775807
         ·rw [if_pos c11] at H
          have c11b0 := eq_true c11
          have c11b1 := decide_eq_true c11
          try have c11b2 : (9223372036854775807 < x3_1.size + 1 + t151.size) = False := eq_false (Nat.not_lt.2 c11)
          have H' := Aside0.mk H
          clear H
          have p147 : 0 ≤ (x4_1 : Int) := of_decide_eq_true (by first | (with_reducible assumption) | assumption)
          have q147 : x4_1 < (l0.length : Int) := of_decide_eq_true (by first | (with_reducible assumption) | assumption)
          obtain ⟨ad147, e147, hx147_0, hx147_1, hx147_2, hx147_3, hx147_4⟩ := at_T26 HR0.out x4_1 p147 q147
          (try rw [← Nbq7.out] at hx147_3)
          (try rw [← Nbq7.out] at hx147_4)
          cases e147
          replace hx147_0 := sX HB hx147_0
          replace hx147_1 := sX HB hx147_1
          replace hx147_2 := sX HB hx147_2
          replace hx147_3 := sX HB hx147_3
          replace hx147_4 := sX HB hx147_4
          replace p147 := eq_true p147
          replace q147 := eq_true q147
          go_wp2_with (first | ((with_reducible refine gate_callee (f := 32) rfl ?_); refine sC (some 15) Tryd.func32 #[.agg #[.int .i64 ((rd_T26 l0 x4_1).f0), .int .i64 ((rd_T26 l0 x4_1).f1), .string ((rd_T26 l0 x4_1).f2), .bool true, .bool ((rd_T26 l0 x4_1).f4)]] (spec_ValidToken.calls k1 ((rd_T26 l0 x4_1).f0) ((rd_T26 l0 x4_1).f1) ((rd_T26 l0 x4_1).f2) true ((rd_T26 l0 x4_1).f4) true _ A4.out) ?_; rintro e w12 ⟨rfl, hb⟩; refine ⟨_, rfl, ?_⟩; have n0_ := sB HB hb; clear HB; have HB := n0_; clear n0_; (try clear hb); (try clear hb2); (try clear hk); (try clear hi); have p149 : 0 ≤ (x4_1 : Int) := of_decide_eq_true (by first | (with_reducible assumption) | assumption); have q149 : x4_1 < (l0.length : Int) := of_decide_eq_true (by first | (with_reducible assumption) | assumption); obtain ⟨ad149, e149, hx149_0, hx149_1, hx149_2, hx149_3, hx149_4⟩ := at_T26 HR0.out x4_1 p149 q149; (try rw [← Nbq7.out] at hx149_3); (try rw [← Nbq7.out] at hx149_4); obtain rfl : ad147 = ad149 := (by injection e149); replace hx149_0 := sX HB hx149_0; replace hx149_1 := sX HB hx149_1; replace hx149_2 := sX HB hx149_2; replace hx149_3 := sX HB hx149_3; replace hx149_4 := sX HB hx149_4; replace p149 := eq_true p149; replace q149 := eq_true q149; have p150 : 0 ≤ (x4_1 : Int) := of_decide_eq_true (by first | (with_reducible assumption) | assumption); have q150 : x4_1 < (l0.length : Int) := of_decide_eq_true (by first | (with_reducible assumption) | assumption); obtain ⟨ad150, e150, hx150_0, hx150_1, hx150_2, hx150_3, hx150_4⟩ := at_T26 HR0.out x4_1 p150 q150; (try rw [← Nbq7.out] at hx150_3); (try rw [← Nbq7.out] at hx150_4); obtain rfl : ad147 = ad150 := (by injection e150); replace hx150_0 := sX HB hx150_0; replace hx150_1 := sX HB hx150_1; replace hx150_2 := sX HB hx150_2; replace hx150_3 := sX HB hx150_3; replace hx150_4 := sX HB hx150_4; replace p150 := eq_true p150; replace q150 := eq_true q150) | ((with_reducible refine gate_callee (f := 33) rfl ?_); refine sC (some 41) Tryd.func33 #[.agg #[.int .i64 ((rd_T26 l0 x4_1).f0), .int .i64 ((rd_T26 l0 x4_1).f1), .string ((rd_T26 l0 x4_1).f2), .bool true, .bool ((rd_T26 l0 x4_1).f4)]] (spec_l02Text.calls k1 ((rd_T26 l0 x4_1).f0) ((rd_T26 l0 x4_1).f1) ((rd_T26 l0 x4_1).f2) true ((rd_T26 l0 x4_1).f4) t151 _ A10.out) ?_; rintro e w13 ⟨rfl, hb⟩; refine ⟨_, rfl, ?_⟩; have n0_ := sB HB hb; clear HB; have HB := n0_; clear n0_; (try clear hb); (try clear hb2); (try clear hk); (try clear hi)))
          go_roundg k1
          case measure => have := HK1.out; omega
          case rel => exact ⟨((x3_1 ++ (⟨#[32]⟩ : ByteArray)) ++ t151), (wrap64 (x4_1 + 1)), sr, sr, H', ⟨by have := HK1.out; omega⟩, ⟨sb⟩⟩
         rw [if_neg c11] at H
         exact absurd H (by simp)
        rw [if_neg c9] at H
        exact absurd H (by simp)
       replace c8 := Bool.eq_false_iff.mpr c8
       subst c8
       rewrite [if_neg (show ¬ (false = true) by decide)] at H
       obtain ⟨ji14, hji14⟩ : ∃ j_ : Int, (wrap64 (x4_1 - 1)) = j_ := ⟨_, rfl⟩
       replace H : (if 0 ≤ (ji14) then (if (ji14) < (l0.length : Int) then (if (rd_T26 l0 (ji14)).f4 = true then (if x3_1.size + 1 ≤ 9223372036854775807 then ((spec_l02Text.f k1 ((rd_T26 l0 x4_1).f0) ((rd_T26 l0 x4_1).f1) ((rd_T26 l0 x4_1).f2) (false) ((rd_T26 l0 x4_1).f4)).bind fun t154 => (if x3_1.size + 1 + t154.size ≤ 9223372036854775807 then (spec_PrintTokens.l0 k1 l0 ((x3_1 ++ (⟨#[32]⟩ : ByteArray)) ++ t154) (wrap64 (x4_1 + 1))) else (none))) else (none)) else ((spec_l02Text.f k1 ((rd_T26 l0 x4_1).f0) ((rd_T26 l0 x4_1).f1) ((rd_T26 l0 x4_1).f2) (false) ((rd_T26 l0 x4_1).f4)).bind fun t156 => (if x3_1.size + t156.size ≤ 9223372036854775807 then (spec_PrintTokens.l0 k1 l0 (x3_1 ++ t156) (wrap64 (x4_1 + 1))) else (none)))) else (none)) else (none)) = some r := by first | (rw [hji14] at H; exact H) | (simp only [hji14] at H ⊢; exact H)
       (try rw [hji14] at A4)
       have hji14w : (IntKind.i64.wrap (x4_1 - 1)) = ji14 := (i64_w _).trans hji14
       by_cases c15 : 0 ≤ (ji14)
       ·rw [if_pos c15] at H
        have c15b0 := decide_eq_true c15
        clear c15
        by_cases c16 : (ji14) < (l0.length : Int)
        ·rw [if_pos c16] at H
         have c16b0 := decide_eq_true c16
         clear c16
         obtain ⟨bq17, hbq17⟩ : ∃ b_ : Bool, b_ = ((rd_T26 l0 (ji14)).f4) := ⟨_, rfl⟩
         replace H : (if bq17 = true then (if x3_1.size + 1 ≤ 9223372036854775807 then ((spec_l02Text.f k1 ((rd_T26 l0 x4_1).f0) ((rd_T26 l0 x4_1).f1) ((rd_T26 l0 x4_1).f2) (false) ((rd_T26 l0 x4_1).f4)).bind fun t154 => (if x3_1.size + 1 + t154.size ≤ 9223372036854775807 then (spec_PrintTokens.l0 k1 l0 ((x3_1 ++ (⟨#[32]⟩ : ByteArray)) ++ t154) (wrap64 (x4_1 + 1))) else (none))) else (none)) else ((spec_l02Text.f k1 ((rd_T26 l0 x4_1).f0) ((rd_T26 l0 x4_1).f1) ((rd_T26 l0 x4_1).f2) (false) ((rd_T26 l0 x4_1).f4)).bind fun t156 => (if x3_1.size + t156.size ≤ 9223372036854775807 then (spec_PrintTokens.l0 k1 l0 (x3_1 ++ t156) (wrap64 (x4_1 + 1))) else (none)))) = some r := by rw [← hbq17] at H; exact H
         have Nbq17 := Aside0.mk hbq17
         clear hbq17
         by_cases c18 : bq17 = true
         ·subst c18
          rewrite [if_pos rfl] at H
          by_cases c19 : x3_1.size + 1 ≤ 9223372036854775807
          ·rw [if_pos c19] at H
           have c19b0 := eq_true c19
           have c19b1 := decide_eq_true c19
           try have c19b2 : (9223372036854775807 < x3_1.size + 1) = False := eq_false (Nat.not_lt.2 c19)
           obtain ⟨t154, A20, H⟩ := sO H
           by_cases c21 : x3_1.size + 1 + t154.size ≤ 9223372036854775807
           ·rw [if_pos c21] at H
            have c21b0 := eq_true c21
            have c21b1 := decide_eq_true c21
            try have c21b2 : (9223372036854775807 < x3_1.size + 1 + t154.size) = False := eq_false (Nat.not_lt.2 c21)
            have H' := Aside0.mk H
            clear H
            have p147 : 0 ≤ (x4_1 : Int) := of_decide_eq_true (by first | (with_reducible assumption) | assumption)
            have q147 : x4_1 < (l0.length : Int) := of_decide_eq_true (by first | (with_reducible assumption) | assumption)
            obtain ⟨ad147, e147, hx147_0, hx147_1, hx147_2, hx147_3, hx147_4⟩ := at_T26 HR0.out x4_1 p147 q147
            (try rw [← Nbq7.out] at hx147_3)
            (try rw [← Nbq17.out] at hx147_3)
            (try rw [← Nbq7.out] at hx147_4)
            (try rw [← Nbq17.out] at hx147_4)
            cases e147
            replace hx147_0 := sX HB hx147_0
            replace hx147_1 := sX HB hx147_1
            replace hx147_2 := sX HB hx147_2
            replace hx147_3 := sX HB hx147_3
            replace hx147_4 := sX HB hx147_4
            replace p147 := eq_true p147
            replace q147 := eq_true q147
            go_wp2_with (first | ((with_reducible refine gate_callee (f := 32) rfl ?_); refine sC (some 15) Tryd.func32 #[.agg #[.int .i64 ((rd_T26 l0 x4_1).f0), .int .i64 ((rd_T26 l0 x4_1).f1), .string ((rd_T26 l0 x4_1).f2), .bool false, .bool ((rd_T26 l0 x4_1).f4)]] (spec_ValidToken.calls k1 ((rd_T26 l0 x4_1).f0) ((rd_T26 l0 x4_1).f1) ((rd_T26 l0 x4_1).f2) false ((rd_T26 l0 x4_1).f4) true _ A4.out) ?_; rintro e w22 ⟨rfl, hb⟩; refine ⟨_, rfl, ?_⟩; have n0_ := sB HB hb; clear HB; have HB := n0_; clear n0_; (try clear hb); (try clear hb2); (try clear hk); (try clear hi); have p149 : 0 ≤ (x4_1 : Int) := of_decide_eq_true (by first | (with_reducible assumption) | assumption); have q149 : x4_1 < (l0.length : Int) := of_decide_eq_true (by first | (with_reducible assumption) | assumption); obtain ⟨ad149, e149, hx149_0, hx149_1, hx149_2, hx149_3, hx149_4⟩ := at_T26 HR0.out x4_1 p149 q149; (try rw [← Nbq7.out] at hx149_3); (try rw [← Nbq17.out] at hx149_3); (try rw [← Nbq7.out] at hx149_4); (try rw [← Nbq17.out] at hx149_4); obtain rfl : ad147 = ad149 := (by injection e149); replace hx149_0 := sX HB hx149_0; replace hx149_1 := sX HB hx149_1; replace hx149_2 := sX HB hx149_2; replace hx149_3 := sX HB hx149_3; replace hx149_4 := sX HB hx149_4; replace p149 := eq_true p149; replace q149 := eq_true q149; have p152 : 0 ≤ ((ji14) : Int) := of_decide_eq_true (by first | (with_reducible assumption) | assumption); have q152 : (ji14) < (l0.length : Int) := of_decide_eq_true (by first | (with_reducible assumption) | assumption); obtain ⟨ad152, e152, hx152_0, hx152_1, hx152_2, hx152_3, hx152_4⟩ := at_T26 HR0.out (ji14) p152 q152; (try rw [← Nbq7.out] at hx152_3); (try rw [← Nbq17.out] at hx152_3); (try rw [← Nbq7.out] at hx152_4); (try rw [← Nbq17.out] at hx152_4); obtain rfl : ad147 = ad152 := (by injection e152); replace hx152_0 := sX HB hx152_0; replace hx152_1 := sX HB hx152_1; replace hx152_2 := sX HB hx152_2; replace hx152_3 := sX HB hx152_3; replace hx152_4 := sX HB hx152_4; replace p152 := eq_true p152; replace q152 := eq_true q152; have p153 : 0 ≤ (x4_1 : Int) := of_decide_eq_true (by first | (with_reducible assumption) | assumption); have q153 : x4_1 < (l0.length : Int) := of_decide_eq_true (by first | (with_reducible assumption) | assumption); obtain ⟨ad153, e153, hx153_0, hx153_1, hx153_2, hx153_3, hx153_4⟩ := at_T26 HR0.out x4_1 p153 q153; (try rw [← Nbq7.out] at hx153_3); (try rw [← Nbq17.out] at hx153_3); (try rw [← Nbq7.out] at hx153_4); (try rw [← Nbq17.out] at hx153_4); obtain rfl : ad147 = ad153 := (by injection e153); replace hx153_0 := sX HB hx153_0; replace hx153_1 := sX HB hx153_1; replace hx153_2 := sX HB hx153_2; replace hx153_3 := sX HB hx153_3; replace hx153_4 := sX HB hx153_4; replace p153 := eq_true p153; replace q153 := eq_true q153) | ((with_reducible refine gate_callee (f := 33) rfl ?_); refine sC (some 41) Tryd.func33 #[.agg #[.int .i64 ((rd_T26 l0 x4_1).f0), .int .i64 ((rd_T26 l0 x4_1).f1), .string ((rd_T26 l0 x4_1).f2), .bool false, .bool ((rd_T26 l0 x4_1).f4)]] (spec_l02Text.calls k1 ((rd_T26 l0 x4_1).f0) ((rd_T26 l0 x4_1).f1) ((rd_T26 l0 x4_1).f2) false ((rd_T26 l0 x4_1).f4) t154 _ A20.out) ?_; rintro e w23 ⟨rfl, hb⟩; refine ⟨_, rfl, ?_⟩; have n0_ := sB HB hb; clear HB; have HB := n0_; clear n0_; (try clear hb); (try clear hb2); (try clear hk); (try clear hi)))
            go_roundg k1
            case measure => have := HK1.out; omega
            case rel => exact ⟨((x3_1 ++ (⟨#[32]⟩ : ByteArray)) ++ t154), (wrap64 (x4_1 + 1)), sr, sr, H', ⟨by have := HK1.out; omega⟩, ⟨sb⟩⟩
           rw [if_neg c21] at H
           exact absurd H (by simp)
          rw [if_neg c19] at H
          exact absurd H (by simp)
         replace c18 := Bool.eq_false_iff.mpr c18
         subst c18
         rewrite [if_neg (show ¬ (false = true) by decide)] at H
         obtain ⟨t156, A24, H⟩ := sO H
         by_cases c25 : x3_1.size + t156.size ≤ 9223372036854775807
         ·rw [if_pos c25] at H
          have c25b0 := eq_true c25
          have c25b1 := decide_eq_true c25
          try have c25b2 : (9223372036854775807 < x3_1.size + t156.size) = False := eq_false (Nat.not_lt.2 c25)
          have H' := Aside0.mk H
          clear H
          have p147 : 0 ≤ (x4_1 : Int) := of_decide_eq_true (by first | (with_reducible assumption) | assumption)
          have q147 : x4_1 < (l0.length : Int) := of_decide_eq_true (by first | (with_reducible assumption) | assumption)
          obtain ⟨ad147, e147, hx147_0, hx147_1, hx147_2, hx147_3, hx147_4⟩ := at_T26 HR0.out x4_1 p147 q147
          (try rw [← Nbq7.out] at hx147_3)
          (try rw [← Nbq17.out] at hx147_3)
          (try rw [← Nbq7.out] at hx147_4)
          (try rw [← Nbq17.out] at hx147_4)
          cases e147
          replace hx147_0 := sX HB hx147_0
          replace hx147_1 := sX HB hx147_1
          replace hx147_2 := sX HB hx147_2
          replace hx147_3 := sX HB hx147_3
          replace hx147_4 := sX HB hx147_4
          replace p147 := eq_true p147
          replace q147 := eq_true q147
          go_wp2_with (first | ((with_reducible refine gate_callee (f := 32) rfl ?_); refine sC (some 15) Tryd.func32 #[.agg #[.int .i64 ((rd_T26 l0 x4_1).f0), .int .i64 ((rd_T26 l0 x4_1).f1), .string ((rd_T26 l0 x4_1).f2), .bool false, .bool ((rd_T26 l0 x4_1).f4)]] (spec_ValidToken.calls k1 ((rd_T26 l0 x4_1).f0) ((rd_T26 l0 x4_1).f1) ((rd_T26 l0 x4_1).f2) false ((rd_T26 l0 x4_1).f4) true _ A4.out) ?_; rintro e w26 ⟨rfl, hb⟩; refine ⟨_, rfl, ?_⟩; have n0_ := sB HB hb; clear HB; have HB := n0_; clear n0_; (try clear hb); (try clear hb2); (try clear hk); (try clear hi); have p149 : 0 ≤ (x4_1 : Int) := of_decide_eq_true (by first | (with_reducible assumption) | assumption); have q149 : x4_1 < (l0.length : Int) := of_decide_eq_true (by first | (with_reducible assumption) | assumption); obtain ⟨ad149, e149, hx149_0, hx149_1, hx149_2, hx149_3, hx149_4⟩ := at_T26 HR0.out x4_1 p149 q149; (try rw [← Nbq7.out] at hx149_3); (try rw [← Nbq17.out] at hx149_3); (try rw [← Nbq7.out] at hx149_4); (try rw [← Nbq17.out] at hx149_4); obtain rfl : ad147 = ad149 := (by injection e149); replace hx149_0 := sX HB hx149_0; replace hx149_1 := sX HB hx149_1; replace hx149_2 := sX HB hx149_2; replace hx149_3 := sX HB hx149_3; replace hx149_4 := sX HB hx149_4; replace p149 := eq_true p149; replace q149 := eq_true q149; have p152 : 0 ≤ ((ji14) : Int) := of_decide_eq_true (by first | (with_reducible assumption) | assumption); have q152 : (ji14) < (l0.length : Int) := of_decide_eq_true (by first | (with_reducible assumption) | assumption); obtain ⟨ad152, e152, hx152_0, hx152_1, hx152_2, hx152_3, hx152_4⟩ := at_T26 HR0.out (ji14) p152 q152; (try rw [← Nbq7.out] at hx152_3); (try rw [← Nbq17.out] at hx152_3); (try rw [← Nbq7.out] at hx152_4); (try rw [← Nbq17.out] at hx152_4); obtain rfl : ad147 = ad152 := (by injection e152); replace hx152_0 := sX HB hx152_0; replace hx152_1 := sX HB hx152_1; replace hx152_2 := sX HB hx152_2; replace hx152_3 := sX HB hx152_3; replace hx152_4 := sX HB hx152_4; replace p152 := eq_true p152; replace q152 := eq_true q152; have p155 : 0 ≤ (x4_1 : Int) := of_decide_eq_true (by first | (with_reducible assumption) | assumption); have q155 : x4_1 < (l0.length : Int) := of_decide_eq_true (by first | (with_reducible assumption) | assumption); obtain ⟨ad155, e155, hx155_0, hx155_1, hx155_2, hx155_3, hx155_4⟩ := at_T26 HR0.out x4_1 p155 q155; (try rw [← Nbq7.out] at hx155_3); (try rw [← Nbq17.out] at hx155_3); (try rw [← Nbq7.out] at hx155_4); (try rw [← Nbq17.out] at hx155_4); obtain rfl : ad147 = ad155 := (by injection e155); replace hx155_0 := sX HB hx155_0; replace hx155_1 := sX HB hx155_1; replace hx155_2 := sX HB hx155_2; replace hx155_3 := sX HB hx155_3; replace hx155_4 := sX HB hx155_4; replace p155 := eq_true p155; replace q155 := eq_true q155) | ((with_reducible refine gate_callee (f := 33) rfl ?_); refine sC (some 41) Tryd.func33 #[.agg #[.int .i64 ((rd_T26 l0 x4_1).f0), .int .i64 ((rd_T26 l0 x4_1).f1), .string ((rd_T26 l0 x4_1).f2), .bool false, .bool ((rd_T26 l0 x4_1).f4)]] (spec_l02Text.calls k1 ((rd_T26 l0 x4_1).f0) ((rd_T26 l0 x4_1).f1) ((rd_T26 l0 x4_1).f2) false ((rd_T26 l0 x4_1).f4) t156 _ A24.out) ?_; rintro e w27 ⟨rfl, hb⟩; refine ⟨_, rfl, ?_⟩; have n0_ := sB HB hb; clear HB; have HB := n0_; clear n0_; (try clear hb); (try clear hb2); (try clear hk); (try clear hi)))
          go_roundg k1
          case measure => have := HK1.out; omega
          case rel => exact ⟨(x3_1 ++ t156), (wrap64 (x4_1 + 1)), sr, sr, H', ⟨by have := HK1.out; omega⟩, ⟨sb⟩⟩
         rw [if_neg c25] at H
         exact absurd H (by simp)
        rw [if_neg c16] at H
        exact absurd H (by simp)
       rw [if_neg c15] at H
       exact absurd H (by simp)
      rw [if_neg c6] at H
      have c6b0 : decide (0 < x4_1) = false := decide_eq_false c6
      clear c6
      obtain ⟨t158, A28, H⟩ := sO H
      by_cases c29 : x3_1.size + t158.size ≤ 9223372036854775807
      ·rw [if_pos c29] at H
       have c29b0 := eq_true c29
       have c29b1 := decide_eq_true c29
       try have c29b2 : (9223372036854775807 < x3_1.size + t158.size) = False := eq_false (Nat.not_lt.2 c29)
       have H' := Aside0.mk H
       clear H
       have p147 : 0 ≤ (x4_1 : Int) := of_decide_eq_true (by first | (with_reducible assumption) | assumption)
       have q147 : x4_1 < (l0.length : Int) := of_decide_eq_true (by first | (with_reducible assumption) | assumption)
       obtain ⟨ad147, e147, hx147_0, hx147_1, hx147_2, hx147_3, hx147_4⟩ := at_T26 HR0.out x4_1 p147 q147
       cases e147
       replace hx147_0 := sX HB hx147_0
       replace hx147_1 := sX HB hx147_1
       replace hx147_2 := sX HB hx147_2
       replace hx147_3 := sX HB hx147_3
       replace hx147_4 := sX HB hx147_4
       replace p147 := eq_true p147
       replace q147 := eq_true q147
       go_wp2_with (first | ((with_reducible refine gate_callee (f := 32) rfl ?_); refine sC (some 15) Tryd.func32 #[.agg #[.int .i64 ((rd_T26 l0 x4_1).f0), .int .i64 ((rd_T26 l0 x4_1).f1), .string ((rd_T26 l0 x4_1).f2), .bool ((rd_T26 l0 x4_1).f3), .bool ((rd_T26 l0 x4_1).f4)]] (spec_ValidToken.calls k1 ((rd_T26 l0 x4_1).f0) ((rd_T26 l0 x4_1).f1) ((rd_T26 l0 x4_1).f2) ((rd_T26 l0 x4_1).f3) ((rd_T26 l0 x4_1).f4) true _ A4.out) ?_; rintro e w30 ⟨rfl, hb⟩; refine ⟨_, rfl, ?_⟩; have n0_ := sB HB hb; clear HB; have HB := n0_; clear n0_; (try clear hb); (try clear hb2); (try clear hk); (try clear hi); have p157 : 0 ≤ (x4_1 : Int) := of_decide_eq_true (by first | (with_reducible assumption) | assumption); have q157 : x4_1 < (l0.length : Int) := of_decide_eq_true (by first | (with_reducible assumption) | assumption); obtain ⟨ad157, e157, hx157_0, hx157_1, hx157_2, hx157_3, hx157_4⟩ := at_T26 HR0.out x4_1 p157 q157; obtain rfl : ad147 = ad157 := (by injection e157); replace hx157_0 := sX HB hx157_0; replace hx157_1 := sX HB hx157_1; replace hx157_2 := sX HB hx157_2; replace hx157_3 := sX HB hx157_3; replace hx157_4 := sX HB hx157_4; replace p157 := eq_true p157; replace q157 := eq_true q157) | ((with_reducible refine gate_callee (f := 33) rfl ?_); refine sC (some 41) Tryd.func33 #[.agg #[.int .i64 ((rd_T26 l0 x4_1).f0), .int .i64 ((rd_T26 l0 x4_1).f1), .string ((rd_T26 l0 x4_1).f2), .bool ((rd_T26 l0 x4_1).f3), .bool ((rd_T26 l0 x4_1).f4)]] (spec_l02Text.calls k1 ((rd_T26 l0 x4_1).f0) ((rd_T26 l0 x4_1).f1) ((rd_T26 l0 x4_1).f2) ((rd_T26 l0 x4_1).f3) ((rd_T26 l0 x4_1).f4) t158 _ A28.out) ?_; rintro e w31 ⟨rfl, hb⟩; refine ⟨_, rfl, ?_⟩; have n0_ := sB HB hb; clear HB; have HB := n0_; clear n0_; (try clear hb); (try clear hb2); (try clear hk); (try clear hi)))
       go_roundg k1
       case measure => have := HK1.out; omega
       case rel => exact ⟨(x3_1 ++ t158), (wrap64 (x4_1 + 1)), sr, sr, H', ⟨by have := HK1.out; omega⟩, ⟨sb⟩⟩
      rw [if_neg c29] at H
      exact absurd H (by simp)
     replace c5 := Bool.eq_false_iff.mpr c5
     subst c5
     rewrite [if_neg (show ¬ (false = true) by decide)] at H
     obtain rfl := Option.some.inj H
     have p147 : 0 ≤ (x4_1 : Int) := of_decide_eq_true (by first | (with_reducible assumption) | assumption)
     have q147 : x4_1 < (l0.length : Int) := of_decide_eq_true (by first | (with_reducible assumption) | assumption)
     obtain ⟨ad147, e147, hx147_0, hx147_1, hx147_2, hx147_3, hx147_4⟩ := at_T26 HR0.out x4_1 p147 q147
     cases e147
     replace hx147_0 := sX HB hx147_0
     replace hx147_1 := sX HB hx147_1
     replace hx147_2 := sX HB hx147_2
     replace hx147_3 := sX HB hx147_3
     replace hx147_4 := sX HB hx147_4
     replace p147 := eq_true p147
     replace q147 := eq_true q147
     go_wp2_with (first | ((with_reducible refine gate_callee (f := 32) rfl ?_); refine sC (some 15) Tryd.func32 #[.agg #[.int .i64 ((rd_T26 l0 x4_1).f0), .int .i64 ((rd_T26 l0 x4_1).f1), .string ((rd_T26 l0 x4_1).f2), .bool ((rd_T26 l0 x4_1).f3), .bool ((rd_T26 l0 x4_1).f4)]] (spec_ValidToken.calls k1 ((rd_T26 l0 x4_1).f0) ((rd_T26 l0 x4_1).f1) ((rd_T26 l0 x4_1).f2) ((rd_T26 l0 x4_1).f3) ((rd_T26 l0 x4_1).f4) false _ A4.out) ?_; rintro e w32 ⟨rfl, hb⟩; refine ⟨_, rfl, ?_⟩; have n0_ := sB HB hb; clear HB; have HB := n0_; clear n0_; (try clear hb); (try clear hb2); (try clear hk); (try clear hi)))
     go_ret
     exact ⟨sq, sb⟩
    rw [if_neg c3] at H
    exact absurd H (by simp)
   rw [if_neg c2] at H
   have c2b0 := decide_eq_false c2
   clear c2
   obtain rfl := Option.some.inj H
   go_wp2
   go_ret
   exact ⟨sq, sb⟩
end Go.Proofs.YtpbjagjknaglgaaDoor.PFnExactPrintTokens
