/- Printed functions: spec_l03Shape. -/
import Derived.Test.YtmebimamjgnlpaaYCeP0
import Derived.Test.YtmebimamjgnlpaaYCeP4
import Derived.Test.YtmebimamjgnlpaaYCeP5
namespace Go.Proofs.Ytmebimamjgnlpaa.PFnExactCompileExpr
open Go.RowKit Go.Proofs.YtmebimamjgnlpaaG Go.Proofs.YtmebimamjgnlpaaW.PrintWords Go.Proofs.YtmebimamjgnlpaaW.PrintLast Go.Proofs.YtmebimamjgnlpaaW.PrintMore
attribute [local go_sem] max2_int min2_int max_two min_two max_three min_three max_four min_four   -- for this text's walks alone
set_option linter.unusedVariables false
set_option linter.unusedSimpArgs false
/-! ### spec_l03Shape: function 164 -/
mutual
def spec_l03Shape.j5 : Nat → List (S26) → Int → Bool → Option (Bool)
 | 0, _, _, _ => none
 | k + 1, x0, x3, x4 => if 0 < (x0.length : Int) then (if ((rd_T26 x0 0).f1) = 0 then (if (((rd_T26 x0 0).f3).length : Int) = x3 then (if x4 = true then ((spec_IsName.f k ((rd_T26 x0 0).f2)).bind fun t152 => (if t152 = true then (some true) else (some false))) else (some (((rd_T26 x0 0).f2).toList.isEmpty))) else (some false)) else (some false)) else (none)
def spec_l03Shape.j0 : Nat → List (S26) → Int → Bool → Int → Bool → Option (Bool)
 | 0, _, _, _, _, _ => none
 | k + 1, x0, x3, x4, x8, x53 => if x53 = true then (spec_l03Shape.j5 k x0 x3 true) else (if x8 = 4 then (if 0 < (x0.length : Int) then (if ((rd_T26 x0 0).f1) = 0 then ((spec_IsName.f k ((rd_T26 x0 0).f2)).bind fun t144 => (if t144 = true then (some (decide ((((rd_T26 x0 0).f3).length : Int) ≤ 6))) else (some false))) else (some false)) else (none)) else (if x8 = 14 then (spec_l03Shape.j1 k x0 x4 x8 (x8 == 14)) else (spec_l03Shape.j1 k x0 x4 x8 (x8 == 15))))
def spec_l03Shape.j1 : Nat → List (S26) → Bool → Int → Bool → Option (Bool)
 | 0, _, _, _, _ => none
 | k + 1, x0, x4, x8, x80 => if x80 = true then (spec_l03Shape.j5 k x0 1 x4) else (if x8 = 5 then (spec_l03Shape.j2 k x0 x4 x8 (x8 == 5)) else (if x8 = 6 then (spec_l03Shape.j2 k x0 x4 x8 (x8 == 6)) else (if x8 = 7 then (spec_l03Shape.j2 k x0 x4 x8 (x8 == 7)) else (if x8 = 8 then (spec_l03Shape.j2 k x0 x4 x8 (x8 == 8)) else (if x8 = 9 then (spec_l03Shape.j2 k x0 x4 x8 (x8 == 9)) else (if x8 = 10 then (spec_l03Shape.j2 k x0 x4 x8 (x8 == 10)) else (spec_l03Shape.j2 k x0 x4 x8 (x8 == 11))))))))
def spec_l03Shape.j2 : Nat → List (S26) → Bool → Int → Bool → Option (Bool)
 | 0, _, _, _, _ => none
 | k + 1, x0, x4, x8, x83 => if x83 = true then (spec_l03Shape.j5 k x0 2 x4) else (if x8 = 12 then (spec_l03Shape.j3 k x0 x4 (x8 == 12)) else (spec_l03Shape.j3 k x0 x4 (x8 == 13)))
def spec_l03Shape.j3 : Nat → List (S26) → Bool → Bool → Option (Bool)
 | 0, _, _, _ => none
 | k + 1, x0, x4, x91 => if x91 = true then (if 0 < (x0.length : Int) then (if (((rd_T26 x0 0).f3).length : Int) = 2 then (if 1 < (((rd_T26 x0 0).f3).length : Int) then (spec_l03Shape.j4 k x0 2 x4 (((rd_T26 ((rd_T26 x0 0).f3) 1).f0) != 3)) else (none)) else (spec_l03Shape.j4 k x0 2 x4 false)) else (none)) else (some false)
def spec_l03Shape.j4 : Nat → List (S26) → Int → Bool → Bool → Option (Bool)
 | 0, _, _, _, _ => none
 | k + 1, x0, x3, x4, x109 => if x109 = true then (some false) else (spec_l03Shape.j5 k x0 x3 x4)
end
def spec_l03Shape.f (k : Nat) (l0 : List (S26)) : Option (Bool) := if 0 < (l0.length : Int) then (if ((rd_T26 l0 0).f0) = 1 then (if ((rd_T26 l0 0).f1) = 0 then (if (((rd_T26 l0 0).f3).length : Int) = 0 then ((spec_CanQuote.f k ((rd_T26 l0 0).f2)).bind fun t137 => (some t137)) else (some false)) else (some false)) else (if ((rd_T26 l0 0).f0) = 2 then (if ((rd_T26 l0 0).f2).toList = ([] : List UInt8) then (if (((rd_T26 l0 0).f3).length : Int) = 0 then ((spec_l00In.f ((rd_T26 l0 0).f1) 0 1000000000000).bind fun t141 => (some t141)) else (some false)) else (some false)) else (if ((rd_T26 l0 0).f0) = 3 then (spec_l03Shape.j0 k l0 0 false ((rd_T26 l0 0).f0) (((rd_T26 l0 0).f0) == 3)) else (if ((rd_T26 l0 0).f0) = 16 then (spec_l03Shape.j0 k l0 0 false ((rd_T26 l0 0).f0) (((rd_T26 l0 0).f0) == 16)) else (if ((rd_T26 l0 0).f0) = 17 then (spec_l03Shape.j0 k l0 0 false ((rd_T26 l0 0).f0) (((rd_T26 l0 0).f0) == 17)) else (spec_l03Shape.j0 k l0 0 false ((rd_T26 l0 0).f0) (((rd_T26 l0 0).f0) == 18))))))) else (none)
set_option maxHeartbeats 8000000 in
set_option maxRecDepth 100000 in
theorem spec_l03Shape.calls (k : Nat) (A0 : Option Addr) (l0 : List (S26)) (r : Bool) (w : World) (hr0 : Kd.C k26 w A0 l0.length l0) (h : spec_l03Shape.f k l0 = some r) :
  Calls Try.prog 164 #[.pointer A0] w fun e w' => e = .returned (.bool r) ∧ Drawn0 w w' := by
 have HR0 := Aside0.mk hr0
 have HC0 := Aside0.mk (Nat.le_refl l0.length)
 clear hr0
 have H : (if 0 < (l0.length : Int) then (if ((rd_T26 l0 0).f0) = 1 then (if ((rd_T26 l0 0).f1) = 0 then (if (((rd_T26 l0 0).f3).length : Int) = 0 then ((spec_CanQuote.f k ((rd_T26 l0 0).f2)).bind fun t137 => (some t137)) else (some false)) else (some false)) else (if ((rd_T26 l0 0).f0) = 2 then (if ((rd_T26 l0 0).f2).toList = ([] : List UInt8) then (if (((rd_T26 l0 0).f3).length : Int) = 0 then ((spec_l00In.f ((rd_T26 l0 0).f1) 0 1000000000000).bind fun t141 => (some t141)) else (some false)) else (some false)) else (if ((rd_T26 l0 0).f0) = 3 then (spec_l03Shape.j0 k l0 0 false ((rd_T26 l0 0).f0) (((rd_T26 l0 0).f0) == 3)) else (if ((rd_T26 l0 0).f0) = 16 then (spec_l03Shape.j0 k l0 0 false ((rd_T26 l0 0).f0) (((rd_T26 l0 0).f0) == 16)) else (if ((rd_T26 l0 0).f0) = 17 then (spec_l03Shape.j0 k l0 0 false ((rd_T26 l0 0).f0) (((rd_T26 l0 0).f0) == 17)) else (spec_l03Shape.j0 k l0 0 false ((rd_T26 l0 0).f0) (((rd_T26 l0 0).f0) == 18))))))) else (none)) = some r := h
 clear h
 by_cases c2 : 0 < (l0.length : Int)
 ·rw [if_pos c2] at H
  have c2b0 := decide_eq_true c2
  have c2b1 : decide (0 < l0.length) = true := decide_eq_true (by omega)
  clear c2
  have HC3 := Aside0.mk H
  clear H
  have p133 : 0 ≤ (0 : Int) := (by omega)
  have q133 : 0 < (l0.length : Int) := of_decide_eq_true (by first | (with_reducible assumption) | assumption)
  obtain ⟨ad133, A133_3, c133_3, e133, hx133_0, hx133_1, hx133_2, hx133_3, hl133_3, hi133_3⟩ := at_T26 HR0.out 0 p133 q133
  cases e133
  have qi133 : (0 < l0.length) = True := eq_true (by omega)
  (try rw [sZ] at hx133_0)
  (try rw [sZ] at hx133_1)
  (try rw [sZ] at hx133_2)
  (try rw [sZ] at hx133_3)
  have HR133_3 := Aside0.mk hi133_3
  have HC133_3 := Aside0.mk hl133_3
  clear hi133_3 hl133_3
  replace p133 := eq_true p133
  replace q133 := eq_true q133
  go_enter Try.func164, Try.ntmps164
  go_upto_block 0 with (fail)
  go_cut [3, 4] (fun v3 v4 wc => ∃ (kq : Nat) (x3_2 : Int) (x4_2 : Bool), v3 = .int .i64 x3_2 ∧ v4 = .bool x4_2 ∧ Aside0 (spec_l03Shape.j5 kq l0 x3_2 x4_2 = some r) ∧ Aside0 (kq ≤ k) ∧ Drawn0 w wc)
  case first =>
   have H := HC3.out
   clear HC3
   by_cases c4 : ((rd_T26 l0 0).f0) = 1
   ·rw [if_pos c4] at H
    have c4b0 : (((rd_T26 l0 0).f0) == 1) = true := beq_iff_eq.mpr c4
    have c4b1 : (((rd_T26 l0 0).f0) != 1) = false := bne_eq_false_iff_eq.mpr c4
    clear c4
    (first | rw [c4b0] | (simp only [i64_w, i32_w]; rw [c4b0]) | rw [c4b2] | skip)
    by_cases c5 : ((rd_T26 l0 0).f1) = 0
    ·rw [if_pos c5] at H
     have c5b0 : (((rd_T26 l0 0).f1) == 0) = true := beq_iff_eq.mpr c5
     have c5b1 : (((rd_T26 l0 0).f1) != 0) = false := bne_eq_false_iff_eq.mpr c5
     clear c5
     by_cases c6 : (((rd_T26 l0 0).f3).length : Int) = 0
     ·rw [if_pos c6] at H
      have c6b0 : ((((rd_T26 l0 0).f3).length : Int) == 0) = true := beq_iff_eq.mpr c6
      have c6b1 : ((((rd_T26 l0 0).f3).length : Int) != 0) = false := bne_eq_false_iff_eq.mpr c6
      clear c6
      obtain ⟨t137, A7, H⟩ := sO H
      obtain rfl := Option.some.inj H
      have p134 : 0 ≤ (0 : Int) := (by omega)
      have q134 : 0 < (l0.length : Int) := of_decide_eq_true (by first | (with_reducible assumption) | assumption)
      obtain ⟨ad134, A134_3, c134_3, e134, hx134_0, hx134_1, hx134_2, hx134_3, hl134_3, hi134_3⟩ := at_T26 HR0.out 0 p134 q134
      obtain rfl : ad133 = ad134 := (by injection e134)
      have qi134 : (0 < l0.length) = True := eq_true (by omega)
      (try rw [sZ] at hx134_0)
      (try rw [sZ] at hx134_1)
      (try rw [sZ] at hx134_2)
      (try rw [sZ] at hx134_3)
      have HR134_3 := Aside0.mk hi134_3
      have HC134_3 := Aside0.mk hl134_3
      clear hi134_3 hl134_3
      replace p134 := eq_true p134
      replace q134 := eq_true q134
      have p135 : 0 ≤ (0 : Int) := (by omega)
      have q135 : 0 < (l0.length : Int) := of_decide_eq_true (by first | (with_reducible assumption) | assumption)
      obtain ⟨ad135, A135_3, c135_3, e135, hx135_0, hx135_1, hx135_2, hx135_3, hl135_3, hi135_3⟩ := at_T26 HR0.out 0 p135 q135
      obtain rfl : ad133 = ad135 := (by injection e135)
      have qi135 : (0 < l0.length) = True := eq_true (by omega)
      (try rw [sZ] at hx135_0)
      (try rw [sZ] at hx135_1)
      (try rw [sZ] at hx135_2)
      (try rw [sZ] at hx135_3)
      have HR135_3 := Aside0.mk hi135_3
      have HC135_3 := Aside0.mk hl135_3
      clear hi135_3 hl135_3
      replace p135 := eq_true p135
      replace q135 := eq_true q135
      have ea_ := Option.some.inj (hx134_3.symm.trans hx135_3)
      injection ea_ with ea_ en_ ec_
      subst ea_
      subst ec_
      clear en_
      have p136 : 0 ≤ (0 : Int) := (by omega)
      have q136 : 0 < (l0.length : Int) := of_decide_eq_true (by first | (with_reducible assumption) | assumption)
      obtain ⟨ad136, A136_3, c136_3, e136, hx136_0, hx136_1, hx136_2, hx136_3, hl136_3, hi136_3⟩ := at_T26 HR0.out 0 p136 q136
      obtain rfl : ad133 = ad136 := (by injection e136)
      have qi136 : (0 < l0.length) = True := eq_true (by omega)
      (try rw [sZ] at hx136_0)
      (try rw [sZ] at hx136_1)
      (try rw [sZ] at hx136_2)
      (try rw [sZ] at hx136_3)
      have HR136_3 := Aside0.mk hi136_3
      have HC136_3 := Aside0.mk hl136_3
      clear hi136_3 hl136_3
      replace p136 := eq_true p136
      replace q136 := eq_true q136
      have ea_ := Option.some.inj (hx134_3.symm.trans hx136_3)
      injection ea_ with ea_ en_ ec_
      subst ea_
      subst ec_
      clear en_
      go_wp2_with (first | (go_at_call 101; (with_reducible refine (spec_CanQuote.calls k ((rd_T26 l0 0).f2) t137 _ A7.out).mono ?_); rintro e w' ⟨rfl, ⟨nd, rfl⟩⟩))
      go_ret
      exact ⟨by first | rfl | (simp; done) | (simp [*]; done), by repeat (first | exact Drawn0.refl _ | apply Drawn0.step)⟩
     rw [if_neg c6] at H
     have c6b0 : ((((rd_T26 l0 0).f3).length : Int) == 0) = false := beq_eq_false_iff_ne.mpr c6
     have c6b1 : ((((rd_T26 l0 0).f3).length : Int) != 0) = true := bne_iff_ne.mpr c6
     have c6b2 : ¬ (((rd_T26 l0 0).f3) = []) := fun h_ => c6 (by rw [h_]; rfl)
     obtain rfl := Option.some.inj H
     have p134 : 0 ≤ (0 : Int) := (by omega)
     have q134 : 0 < (l0.length : Int) := of_decide_eq_true (by first | (with_reducible assumption) | assumption)
     obtain ⟨ad134, A134_3, c134_3, e134, hx134_0, hx134_1, hx134_2, hx134_3, hl134_3, hi134_3⟩ := at_T26 HR0.out 0 p134 q134
     obtain rfl : ad133 = ad134 := (by injection e134)
     have qi134 : (0 < l0.length) = True := eq_true (by omega)
     (try rw [sZ] at hx134_0)
     (try rw [sZ] at hx134_1)
     (try rw [sZ] at hx134_2)
     (try rw [sZ] at hx134_3)
     have HR134_3 := Aside0.mk hi134_3
     have HC134_3 := Aside0.mk hl134_3
     clear hi134_3 hl134_3
     replace p134 := eq_true p134
     replace q134 := eq_true q134
     have p135 : 0 ≤ (0 : Int) := (by omega)
     have q135 : 0 < (l0.length : Int) := of_decide_eq_true (by first | (with_reducible assumption) | assumption)
     obtain ⟨ad135, A135_3, c135_3, e135, hx135_0, hx135_1, hx135_2, hx135_3, hl135_3, hi135_3⟩ := at_T26 HR0.out 0 p135 q135
     obtain rfl : ad133 = ad135 := (by injection e135)
     have qi135 : (0 < l0.length) = True := eq_true (by omega)
     (try rw [sZ] at hx135_0)
     (try rw [sZ] at hx135_1)
     (try rw [sZ] at hx135_2)
     (try rw [sZ] at hx135_3)
     have HR135_3 := Aside0.mk hi135_3
     have HC135_3 := Aside0.mk hl135_3
     clear hi135_3 hl135_3
     replace p135 := eq_true p135
     replace q135 := eq_true q135
     have ea_ := Option.some.inj (hx134_3.symm.trans hx135_3)
     injection ea_ with ea_ en_ ec_
     subst ea_
     subst ec_
     clear en_
     go_wp2
     go_ret
     exact ⟨by first | rfl | (simp; done) | (simp [*]; done), by repeat (first | exact Drawn0.refl _ | apply Drawn0.step)⟩
    rw [if_neg c5] at H
    have c5b0 : (((rd_T26 l0 0).f1) == 0) = false := beq_eq_false_iff_ne.mpr c5
    have c5b1 : (((rd_T26 l0 0).f1) != 0) = true := bne_iff_ne.mpr c5
    obtain rfl := Option.some.inj H
    have p134 : 0 ≤ (0 : Int) := (by omega)
    have q134 : 0 < (l0.length : Int) := of_decide_eq_true (by first | (with_reducible assumption) | assumption)
    obtain ⟨ad134, A134_3, c134_3, e134, hx134_0, hx134_1, hx134_2, hx134_3, hl134_3, hi134_3⟩ := at_T26 HR0.out 0 p134 q134
    obtain rfl : ad133 = ad134 := (by injection e134)
    have qi134 : (0 < l0.length) = True := eq_true (by omega)
    (try rw [sZ] at hx134_0)
    (try rw [sZ] at hx134_1)
    (try rw [sZ] at hx134_2)
    (try rw [sZ] at hx134_3)
    have HR134_3 := Aside0.mk hi134_3
    have HC134_3 := Aside0.mk hl134_3
    clear hi134_3 hl134_3
    replace p134 := eq_true p134
    replace q134 := eq_true q134
    go_wp2
    go_ret
    exact ⟨by first | rfl | (simp; done) | (simp [*]; done), by repeat (first | exact Drawn0.refl _ | apply Drawn0.step)⟩
   rw [if_neg c4] at H
   have c4b0 : (((rd_T26 l0 0).f0) == 1) = false := beq_eq_false_iff_ne.mpr c4
   have c4b1 : (((rd_T26 l0 0).f0) != 1) = true := bne_iff_ne.mpr c4
   (first | rw [c4b0] | (simp only [i64_w, i32_w]; rw [c4b0]) | rw [c4b2] | skip)
   by_cases c8 : ((rd_T26 l0 0).f0) = 2
   ·rw [if_pos c8] at H
    have c8b0 : (((rd_T26 l0 0).f0) == 2) = true := beq_iff_eq.mpr c8
    have c8b1 : (((rd_T26 l0 0).f0) != 2) = false := bne_eq_false_iff_eq.mpr c8
    clear c8
    by_cases c9 : ((rd_T26 l0 0).f2).toList = ([] : List UInt8)
    ·rw [if_pos c9] at H
     have c9b0 : (((rd_T26 l0 0).f2).toList == ([] : List UInt8)) = true := beq_iff_eq.mpr c9
     have c9b1 : (((rd_T26 l0 0).f2).toList != ([] : List UInt8)) = false := bne_eq_false_iff_eq.mpr c9
     have c9b2 : ((rd_T26 l0 0).f2).toList.isEmpty = true := by simpa using c9
     clear c9
     by_cases c10 : (((rd_T26 l0 0).f3).length : Int) = 0
     ·rw [if_pos c10] at H
      have c10b0 : ((((rd_T26 l0 0).f3).length : Int) == 0) = true := beq_iff_eq.mpr c10
      have c10b1 : ((((rd_T26 l0 0).f3).length : Int) != 0) = false := bne_eq_false_iff_eq.mpr c10
      clear c10
      obtain ⟨t141, A11, H⟩ := sO H
      obtain rfl := Option.some.inj H
      have p138 : 0 ≤ (0 : Int) := (by omega)
      have q138 : 0 < (l0.length : Int) := of_decide_eq_true (by first | (with_reducible assumption) | assumption)
      obtain ⟨ad138, A138_3, c138_3, e138, hx138_0, hx138_1, hx138_2, hx138_3, hl138_3, hi138_3⟩ := at_T26 HR0.out 0 p138 q138
      obtain rfl : ad133 = ad138 := (by injection e138)
      have qi138 : (0 < l0.length) = True := eq_true (by omega)
      (try rw [sZ] at hx138_0)
      (try rw [sZ] at hx138_1)
      (try rw [sZ] at hx138_2)
      (try rw [sZ] at hx138_3)
      have HR138_3 := Aside0.mk hi138_3
      have HC138_3 := Aside0.mk hl138_3
      clear hi138_3 hl138_3
      replace p138 := eq_true p138
      replace q138 := eq_true q138
      have p139 : 0 ≤ (0 : Int) := (by omega)
      have q139 : 0 < (l0.length : Int) := of_decide_eq_true (by first | (with_reducible assumption) | assumption)
      obtain ⟨ad139, A139_3, c139_3, e139, hx139_0, hx139_1, hx139_2, hx139_3, hl139_3, hi139_3⟩ := at_T26 HR0.out 0 p139 q139
      obtain rfl : ad133 = ad139 := (by injection e139)
      have qi139 : (0 < l0.length) = True := eq_true (by omega)
      (try rw [sZ] at hx139_0)
      (try rw [sZ] at hx139_1)
      (try rw [sZ] at hx139_2)
      (try rw [sZ] at hx139_3)
      have HR139_3 := Aside0.mk hi139_3
      have HC139_3 := Aside0.mk hl139_3
      clear hi139_3 hl139_3
      replace p139 := eq_true p139
      replace q139 := eq_true q139
      have ea_ := Option.some.inj (hx138_3.symm.trans hx139_3)
      injection ea_ with ea_ en_ ec_
      subst ea_
      subst ec_
      clear en_
      have p140 : 0 ≤ (0 : Int) := (by omega)
      have q140 : 0 < (l0.length : Int) := of_decide_eq_true (by first | (with_reducible assumption) | assumption)
      obtain ⟨ad140, A140_3, c140_3, e140, hx140_0, hx140_1, hx140_2, hx140_3, hl140_3, hi140_3⟩ := at_T26 HR0.out 0 p140 q140
      obtain rfl : ad133 = ad140 := (by injection e140)
      have qi140 : (0 < l0.length) = True := eq_true (by omega)
      (try rw [sZ] at hx140_0)
      (try rw [sZ] at hx140_1)
      (try rw [sZ] at hx140_2)
      (try rw [sZ] at hx140_3)
      have HR140_3 := Aside0.mk hi140_3
      have HC140_3 := Aside0.mk hl140_3
      clear hi140_3 hl140_3
      replace p140 := eq_true p140
      replace q140 := eq_true q140
      have ea_ := Option.some.inj (hx138_3.symm.trans hx140_3)
      injection ea_ with ea_ en_ ec_
      subst ea_
      subst ec_
      clear en_
      go_wp2_with (first | (go_at_call 40; (with_reducible refine (spec_l00In.calls ((rd_T26 l0 0).f1) 0 1000000000000 t141 _ A11.out).mono ?_); rintro e w' ⟨rfl, ⟨nd, rfl⟩⟩))
      go_ret
      exact ⟨by first | rfl | (simp; done) | (simp [*]; done), by repeat (first | exact Drawn0.refl _ | apply Drawn0.step)⟩
     rw [if_neg c10] at H
     have c10b0 : ((((rd_T26 l0 0).f3).length : Int) == 0) = false := beq_eq_false_iff_ne.mpr c10
     have c10b1 : ((((rd_T26 l0 0).f3).length : Int) != 0) = true := bne_iff_ne.mpr c10
     have c10b2 : ¬ (((rd_T26 l0 0).f3) = []) := fun h_ => c10 (by rw [h_]; rfl)
     obtain rfl := Option.some.inj H
     have p138 : 0 ≤ (0 : Int) := (by omega)
     have q138 : 0 < (l0.length : Int) := of_decide_eq_true (by first | (with_reducible assumption) | assumption)
     obtain ⟨ad138, A138_3, c138_3, e138, hx138_0, hx138_1, hx138_2, hx138_3, hl138_3, hi138_3⟩ := at_T26 HR0.out 0 p138 q138
     obtain rfl : ad133 = ad138 := (by injection e138)
     have qi138 : (0 < l0.length) = True := eq_true (by omega)
     (try rw [sZ] at hx138_0)
     (try rw [sZ] at hx138_1)
     (try rw [sZ] at hx138_2)
     (try rw [sZ] at hx138_3)
     have HR138_3 := Aside0.mk hi138_3
     have HC138_3 := Aside0.mk hl138_3
     clear hi138_3 hl138_3
     replace p138 := eq_true p138
     replace q138 := eq_true q138
     have p139 : 0 ≤ (0 : Int) := (by omega)
     have q139 : 0 < (l0.length : Int) := of_decide_eq_true (by first | (with_reducible assumption) | assumption)
     obtain ⟨ad139, A139_3, c139_3, e139, hx139_0, hx139_1, hx139_2, hx139_3, hl139_3, hi139_3⟩ := at_T26 HR0.out 0 p139 q139
     obtain rfl : ad133 = ad139 := (by injection e139)
     have qi139 : (0 < l0.length) = True := eq_true (by omega)
     (try rw [sZ] at hx139_0)
     (try rw [sZ] at hx139_1)
     (try rw [sZ] at hx139_2)
     (try rw [sZ] at hx139_3)
     have HR139_3 := Aside0.mk hi139_3
     have HC139_3 := Aside0.mk hl139_3
     clear hi139_3 hl139_3
     replace p139 := eq_true p139
     replace q139 := eq_true q139
     have ea_ := Option.some.inj (hx138_3.symm.trans hx139_3)
     injection ea_ with ea_ en_ ec_
     subst ea_
     subst ec_
     clear en_
     go_wp2
     go_ret
     exact ⟨by first | rfl | (simp; done) | (simp [*]; done), by repeat (first | exact Drawn0.refl _ | apply Drawn0.step)⟩
    rw [if_neg c9] at H
    have c9b0 : (((rd_T26 l0 0).f2).toList == ([] : List UInt8)) = false := beq_eq_false_iff_ne.mpr c9
    have c9b1 : (((rd_T26 l0 0).f2).toList != ([] : List UInt8)) = true := bne_iff_ne.mpr c9
    have c9b2 : ((rd_T26 l0 0).f2).toList.isEmpty = false := by simpa using c9
    obtain rfl := Option.some.inj H
    have p138 : 0 ≤ (0 : Int) := (by omega)
    have q138 : 0 < (l0.length : Int) := of_decide_eq_true (by first | (with_reducible assumption) | assumption)
    obtain ⟨ad138, A138_3, c138_3, e138, hx138_0, hx138_1, hx138_2, hx138_3, hl138_3, hi138_3⟩ := at_T26 HR0.out 0 p138 q138
    obtain rfl : ad133 = ad138 := (by injection e138)
    have qi138 : (0 < l0.length) = True := eq_true (by omega)
    (try rw [sZ] at hx138_0)
    (try rw [sZ] at hx138_1)
    (try rw [sZ] at hx138_2)
    (try rw [sZ] at hx138_3)
    have HR138_3 := Aside0.mk hi138_3
    have HC138_3 := Aside0.mk hl138_3
    clear hi138_3 hl138_3
    replace p138 := eq_true p138
    replace q138 := eq_true q138
    go_wp2
    go_ret
    exact ⟨by first | rfl | (simp; done) | (simp [*]; done), by repeat (first | exact Drawn0.refl _ | apply Drawn0.step)⟩
   rw [if_neg c8] at H
   have c8b0 : (((rd_T26 l0 0).f0) == 2) = false := beq_eq_false_iff_ne.mpr c8
   have c8b1 : (((rd_T26 l0 0).f0) != 2) = true := bne_iff_ne.mpr c8
   have HC12 := Aside0.mk H
   clear H
   go_upto_if 53 with (fail)
   go_cut [53] (fun v53 wc => ∃ (kq : Nat) (x53_11 : Bool), v53 = .bool x53_11 ∧ Aside0 (spec_l03Shape.j0 kq l0 0 false ((rd_T26 l0 0).f0) x53_11 = some r) ∧ Aside0 (kq ≤ k) ∧ Drawn0 w wc)
   case first =>
    have H := HC12.out
    clear HC12
    by_cases c13 : ((rd_T26 l0 0).f0) = 3
    ·rw [if_pos c13] at H
     have c13b0 : (((rd_T26 l0 0).f0) == 3) = true := beq_iff_eq.mpr c13
     have c13b1 : (((rd_T26 l0 0).f0) != 3) = false := bne_eq_false_iff_eq.mpr c13
     clear c13
     (first | rw [c13b0] | (simp only [i64_w, i32_w]; rw [c13b0]) | rw [c13b2] | skip)
     have H' := Aside0.mk H
     clear H
     go_wp2
     go_meet
     case rel => exact ⟨_, ((((rd_T26 l0 0).f0) == 3)), sr, H', ⟨by first | omega | exact Nat.le_refl _⟩, by repeat (first | exact Drawn0.refl _ | apply Drawn0.step)⟩
    rw [if_neg c13] at H
    have c13b0 : (((rd_T26 l0 0).f0) == 3) = false := beq_eq_false_iff_ne.mpr c13
    have c13b1 : (((rd_T26 l0 0).f0) != 3) = true := bne_iff_ne.mpr c13
    (first | rw [c13b0] | (simp only [i64_w, i32_w]; rw [c13b0]) | rw [c13b2] | skip)
    by_cases c14 : ((rd_T26 l0 0).f0) = 16
    ·rw [if_pos c14] at H
     have c14b0 : (((rd_T26 l0 0).f0) == 16) = true := beq_iff_eq.mpr c14
     have c14b1 : (((rd_T26 l0 0).f0) != 16) = false := bne_eq_false_iff_eq.mpr c14
     clear c14
     have H' := Aside0.mk H
     clear H
     go_wp2
     go_meet
     case rel => exact ⟨_, ((((rd_T26 l0 0).f0) == 16)), sr, H', ⟨by first | omega | exact Nat.le_refl _⟩, by repeat (first | exact Drawn0.refl _ | apply Drawn0.step)⟩
    rw [if_neg c14] at H
    have c14b0 : (((rd_T26 l0 0).f0) == 16) = false := beq_eq_false_iff_ne.mpr c14
    have c14b1 : (((rd_T26 l0 0).f0) != 16) = true := bne_iff_ne.mpr c14
    by_cases c15 : ((rd_T26 l0 0).f0) = 17
    ·rw [if_pos c15] at H
     have c15b0 : (((rd_T26 l0 0).f0) == 17) = true := beq_iff_eq.mpr c15
     have c15b1 : (((rd_T26 l0 0).f0) != 17) = false := bne_eq_false_iff_eq.mpr c15
     clear c15
     have H' := Aside0.mk H
     clear H
     go_wp2
     go_meet
     case rel => exact ⟨_, ((((rd_T26 l0 0).f0) == 17)), sr, H', ⟨by first | omega | exact Nat.le_refl _⟩, by repeat (first | exact Drawn0.refl _ | apply Drawn0.step)⟩
    rw [if_neg c15] at H
    have c15b0 : (((rd_T26 l0 0).f0) == 17) = false := beq_eq_false_iff_ne.mpr c15
    have c15b1 : (((rd_T26 l0 0).f0) != 17) = true := bne_iff_ne.mpr c15
    have H' := Aside0.mk H
    clear H
    go_wp2
    go_meet
    case rel => exact ⟨_, ((((rd_T26 l0 0).f0) == 18)), sr, H', ⟨by first | omega | exact Nat.le_refl _⟩, by repeat (first | exact Drawn0.refl _ | apply Drawn0.step)⟩
   case rest =>
    clear HC12
    try clear c1
    try clear p1
    try clear q1
    try clear hx1
    try clear qi1
    try clear c2
    try clear c2b0
    try clear c2b1
    try clear p2
    try clear c4
    try clear c4b0
    try clear c4b1
    try clear c4b2
    try clear c5
    try clear c5b0
    try clear c5b1
    try clear c6
    try clear c6b0
    try clear c6b1
    try clear c6b2
    try clear c8
    try clear c8b0
    try clear c8b1
    try clear c9
    try clear c9b0
    try clear c9b1
    try clear c9b2
    try clear c10
    try clear c10b0
    try clear c10b1
    try clear c10b2
    try clear c13
    try clear c13b0
    try clear c13b1
    try clear c13b2
    try clear p13
    try clear q13
    try clear hx13
    try clear qi13
    try clear c14
    try clear c14b0
    try clear c14b1
    try clear p14
    try clear q14
    try clear hx14
    try clear qi14
    try clear c15
    try clear c15b0
    try clear c15b1
    try clear hx133_0
    try clear hx133_1
    try clear hx133_2
    try clear hx133_3
    try clear hx134_0
    try clear hx134_1
    try clear hx134_2
    try clear hx134_3
    try clear hx135_0
    try clear hx135_1
    try clear hx135_2
    try clear hx135_3
    try clear hx136_0
    try clear hx136_1
    try clear hx136_2
    try clear hx136_3
    try clear hx138_0
    try clear hx138_1
    try clear hx138_2
    try clear hx138_3
    try clear hx139_0
    try clear hx139_1
    try clear hx139_2
    try clear hx139_3
    try clear hx140_0
    try clear hx140_1
    try clear hx140_2
    try clear hx140_3
    try clear p133
    try clear p134
    try clear p135
    try clear p136
    try clear p138
    try clear p139
    try clear p140
    try clear q133
    try clear q134
    try clear q135
    try clear q136
    try clear q138
    try clear q139
    try clear q140
    obtain ⟨kq, x53_11, rfl, HA, HJ11, ⟨mc11, rfl⟩⟩ := hcut
    cases kq with
    | zero => exact absurd HA.out (by simp [spec_l03Shape.j0])
    | succ kj11 =>
     have H := HA.out
     clear HA
     simp only [spec_l03Shape.j0] at H
     by_cases c16 : x53_11 = true
     ·subst c16
      rewrite [if_pos rfl] at H
      have H' := Aside0.mk H
      clear H
      go_wp2
      go_meet
      case rel => exact ⟨_, (0), (true), sr, sr, H', ⟨by have := HJ11.out; first | omega | exact Nat.le_refl _⟩, by repeat (first | exact Drawn0.refl _ | apply Drawn0.step)⟩
     replace c16 := Bool.eq_false_iff.mpr c16
     subst c16
     rewrite [if_neg (show ¬ (false = true) by decide)] at H
     by_cases c17 : ((rd_T26 l0 0).f0) = 4
     ·rw [if_pos c17] at H
      have c17b0 : (((rd_T26 l0 0).f0) == 4) = true := beq_iff_eq.mpr c17
      have c17b1 : (((rd_T26 l0 0).f0) != 4) = false := bne_eq_false_iff_eq.mpr c17
      clear c17
      by_cases c18 : 0 < (l0.length : Int)
      ·rw [if_pos c18] at H
       have c18b0 := decide_eq_true c18
       have c18b1 : decide (0 < l0.length) = true := decide_eq_true (by omega)
       clear c18
       by_cases c19 : ((rd_T26 l0 0).f1) = 0
       ·rw [if_pos c19] at H
        have c19b0 : (((rd_T26 l0 0).f1) == 0) = true := beq_iff_eq.mpr c19
        have c19b1 : (((rd_T26 l0 0).f1) != 0) = false := bne_eq_false_iff_eq.mpr c19
        clear c19
        obtain ⟨t144, A20, H⟩ := sO H
        by_cases c21 : t144 = true
        ·subst c21
         rewrite [if_pos rfl] at H
         obtain rfl := Option.some.inj H
         have p142 : 0 ≤ (0 : Int) := (by omega)
         have q142 : 0 < (l0.length : Int) := of_decide_eq_true (by first | (with_reducible assumption) | assumption)
         obtain ⟨ad142, A142_3, c142_3, e142, hx142_0, hx142_1, hx142_2, hx142_3, hl142_3, hi142_3⟩ := at_T26 HR0.out 0 p142 q142
         obtain rfl : ad133 = ad142 := (by injection e142)
         have qi142 : (0 < l0.length) = True := eq_true (by omega)
         (try rw [sZ] at hx142_0)
         (try rw [sZ] at hx142_1)
         (try rw [sZ] at hx142_2)
         (try rw [sZ] at hx142_3)
         have HR142_3 := Aside0.mk hi142_3
         have HC142_3 := Aside0.mk hl142_3
         clear hi142_3 hl142_3
         replace p142 := eq_true p142
         replace q142 := eq_true q142
         have p143 : 0 ≤ (0 : Int) := (by omega)
         have q143 : 0 < (l0.length : Int) := of_decide_eq_true (by first | (with_reducible assumption) | assumption)
         obtain ⟨ad143, A143_3, c143_3, e143, hx143_0, hx143_1, hx143_2, hx143_3, hl143_3, hi143_3⟩ := at_T26 HR0.out 0 p143 q143
         obtain rfl : ad133 = ad143 := (by injection e143)
         have qi143 : (0 < l0.length) = True := eq_true (by omega)
         (try rw [sZ] at hx143_0)
         (try rw [sZ] at hx143_1)
         (try rw [sZ] at hx143_2)
         (try rw [sZ] at hx143_3)
         have HR143_3 := Aside0.mk hi143_3
         have HC143_3 := Aside0.mk hl143_3
         clear hi143_3 hl143_3
         replace p143 := eq_true p143
         replace q143 := eq_true q143
         have ea_ := Option.some.inj (hx142_3.symm.trans hx143_3)
         injection ea_ with ea_ en_ ec_
         subst ea_
         subst ec_
         clear en_
         go_wp2_with (first | (go_at_call 100; (with_reducible refine (spec_IsName.calls kj11 ((rd_T26 l0 0).f2) true _ A20.out).mono ?_); rintro e w' ⟨rfl, ⟨nd, rfl⟩⟩; have p145 : 0 ≤ (0 : Int) := (by omega); have q145 : 0 < (l0.length : Int) := of_decide_eq_true (by first | (with_reducible assumption) | assumption); obtain ⟨ad145, A145_3, c145_3, e145, hx145_0, hx145_1, hx145_2, hx145_3, hl145_3, hi145_3⟩ := at_T26 HR0.out 0 p145 q145; obtain rfl : ad133 = ad145 := (by injection e145); have qi145 : (0 < l0.length) = True := eq_true (by omega); (try rw [show ((0 : Int)).toNat = 0 from rfl] at hx145_0); (try rw [show 0 * 4 = 0 from rfl] at hx145_0); (try rw [Addr.add_zero'] at hx145_0); (try rw [show ((0 : Int)).toNat = 0 from rfl] at hx145_1); (try rw [show 0 * 4 = 0 from rfl] at hx145_1); (try rw [Addr.add_zero'] at hx145_1); (try rw [show ((0 : Int)).toNat = 0 from rfl] at hx145_2); (try rw [show 0 * 4 = 0 from rfl] at hx145_2); (try rw [Addr.add_zero'] at hx145_2); (try rw [show ((0 : Int)).toNat = 0 from rfl] at hx145_3); (try rw [show 0 * 4 = 0 from rfl] at hx145_3); (try rw [Addr.add_zero'] at hx145_3); have HR145_3 := Aside0.mk hi145_3; have HC145_3 := Aside0.mk hl145_3; clear hi145_3 hl145_3; replace p145 := eq_true p145; replace q145 := eq_true q145; have ea_ := Option.some.inj (hx142_3.symm.trans hx145_3); injection ea_ with ea_ en_ ec_; subst ea_; subst ec_; clear en_))
         go_ret
         exact ⟨by first | rfl | (simp; done) | (simp [*]; done), by repeat (first | exact Drawn0.refl _ | apply Drawn0.step)⟩
        replace c21 := Bool.eq_false_iff.mpr c21
        subst c21
        rewrite [if_neg (show ¬ (false = true) by decide)] at H
        obtain rfl := Option.some.inj H
        have p142 : 0 ≤ (0 : Int) := (by omega)
        have q142 : 0 < (l0.length : Int) := of_decide_eq_true (by first | (with_reducible assumption) | assumption)
        obtain ⟨ad142, A142_3, c142_3, e142, hx142_0, hx142_1, hx142_2, hx142_3, hl142_3, hi142_3⟩ := at_T26 HR0.out 0 p142 q142
        obtain rfl : ad133 = ad142 := (by injection e142)
        have qi142 : (0 < l0.length) = True := eq_true (by omega)
        (try rw [sZ] at hx142_0)
        (try rw [sZ] at hx142_1)
        (try rw [sZ] at hx142_2)
        (try rw [sZ] at hx142_3)
        have HR142_3 := Aside0.mk hi142_3
        have HC142_3 := Aside0.mk hl142_3
        clear hi142_3 hl142_3
        replace p142 := eq_true p142
        replace q142 := eq_true q142
        have p143 : 0 ≤ (0 : Int) := (by omega)
        have q143 : 0 < (l0.length : Int) := of_decide_eq_true (by first | (with_reducible assumption) | assumption)
        obtain ⟨ad143, A143_3, c143_3, e143, hx143_0, hx143_1, hx143_2, hx143_3, hl143_3, hi143_3⟩ := at_T26 HR0.out 0 p143 q143
        obtain rfl : ad133 = ad143 := (by injection e143)
        have qi143 : (0 < l0.length) = True := eq_true (by omega)
        (try rw [sZ] at hx143_0)
        (try rw [sZ] at hx143_1)
        (try rw [sZ] at hx143_2)
        (try rw [sZ] at hx143_3)
        have HR143_3 := Aside0.mk hi143_3
        have HC143_3 := Aside0.mk hl143_3
        clear hi143_3 hl143_3
        replace p143 := eq_true p143
        replace q143 := eq_true q143
        have ea_ := Option.some.inj (hx142_3.symm.trans hx143_3)
        injection ea_ with ea_ en_ ec_
        subst ea_
        subst ec_
        clear en_
        go_wp2_with (first | (go_at_call 100; (with_reducible refine (spec_IsName.calls kj11 ((rd_T26 l0 0).f2) false _ A20.out).mono ?_); rintro e w' ⟨rfl, ⟨nd, rfl⟩⟩))
        go_ret
        exact ⟨by first | rfl | (simp; done) | (simp [*]; done), by repeat (first | exact Drawn0.refl _ | apply Drawn0.step)⟩
       rw [if_neg c19] at H
       have c19b0 : (((rd_T26 l0 0).f1) == 0) = false := beq_eq_false_iff_ne.mpr c19
       have c19b1 : (((rd_T26 l0 0).f1) != 0) = true := bne_iff_ne.mpr c19
       obtain rfl := Option.some.inj H
       have p142 : 0 ≤ (0 : Int) := (by omega)
       have q142 : 0 < (l0.length : Int) := of_decide_eq_true (by first | (with_reducible assumption) | assumption)
       obtain ⟨ad142, A142_3, c142_3, e142, hx142_0, hx142_1, hx142_2, hx142_3, hl142_3, hi142_3⟩ := at_T26 HR0.out 0 p142 q142
       obtain rfl : ad133 = ad142 := (by injection e142)
       have qi142 : (0 < l0.length) = True := eq_true (by omega)
       (try rw [sZ] at hx142_0)
       (try rw [sZ] at hx142_1)
       (try rw [sZ] at hx142_2)
       (try rw [sZ] at hx142_3)
       have HR142_3 := Aside0.mk hi142_3
       have HC142_3 := Aside0.mk hl142_3
       clear hi142_3 hl142_3
       replace p142 := eq_true p142
       replace q142 := eq_true q142
       go_wp2
       go_ret
       exact ⟨by first | rfl | (simp; done) | (simp [*]; done), by repeat (first | exact Drawn0.refl _ | apply Drawn0.step)⟩
      rw [if_neg c18] at H
      exact absurd H (by simp)
     rw [if_neg c17] at H
     have c17b0 : (((rd_T26 l0 0).f0) == 4) = false := beq_eq_false_iff_ne.mpr c17
     have c17b1 : (((rd_T26 l0 0).f0) != 4) = true := bne_iff_ne.mpr c17
     have HC22 := Aside0.mk H
     clear H
     go_upto_if 80 with (fail)
     go_cut [80] (fun v80 wc => ∃ (kq : Nat) (x80_21 : Bool), v80 = .bool x80_21 ∧ Aside0 (spec_l03Shape.j1 kq l0 false ((rd_T26 l0 0).f0) x80_21 = some r) ∧ Aside0 (kq ≤ kj11) ∧ Drawn0 w wc)
     case first =>
      have H := HC22.out
      clear HC22
      by_cases c23 : ((rd_T26 l0 0).f0) = 14
      ·rw [if_pos c23] at H
       have c23b0 : (((rd_T26 l0 0).f0) == 14) = true := beq_iff_eq.mpr c23
       have c23b1 : (((rd_T26 l0 0).f0) != 14) = false := bne_eq_false_iff_eq.mpr c23
       clear c23
       (first | rw [c23b0] | (simp only [i64_w, i32_w]; rw [c23b0]) | rw [c23b2] | skip)
       have H' := Aside0.mk H
       clear H
       go_wp2
       go_meet
       case rel => exact ⟨_, ((((rd_T26 l0 0).f0) == 14)), sr, H', ⟨by have := HJ11.out; first | omega | exact Nat.le_refl _⟩, by repeat (first | exact Drawn0.refl _ | apply Drawn0.step)⟩
      rw [if_neg c23] at H
      have c23b0 : (((rd_T26 l0 0).f0) == 14) = false := beq_eq_false_iff_ne.mpr c23
      have c23b1 : (((rd_T26 l0 0).f0) != 14) = true := bne_iff_ne.mpr c23
      (first | rw [c23b0] | (simp only [i64_w, i32_w]; rw [c23b0]) | rw [c23b2] | skip)
      have H' := Aside0.mk H
      clear H
      go_wp2
      go_meet
      case rel => exact ⟨_, ((((rd_T26 l0 0).f0) == 15)), sr, H', ⟨by have := HJ11.out; first | omega | exact Nat.le_refl _⟩, by repeat (first | exact Drawn0.refl _ | apply Drawn0.step)⟩
     case rest =>
      clear HC22
      try clear c1
      try clear p1
      try clear q1
      try clear hx1
      try clear qi1
      try clear c2
      try clear c2b0
      try clear c2b1
      try clear p2
      try clear c4
      try clear c4b0
      try clear c4b1
      try clear c4b2
      try clear c5
      try clear c5b0
      try clear c5b1
      try clear c6
      try clear c6b0
      try clear c6b1
      try clear c6b2
      try clear c8
      try clear c8b0
      try clear c8b1
      try clear c9
      try clear c9b0
      try clear c9b1
      try clear c9b2
      try clear c10
      try clear c10b0
      try clear c10b1
      try clear c10b2
      try clear c11
      try clear c13
      try clear c13b0
      try clear c13b1
      try clear c13b2
      try clear p13
      try clear q13
      try clear hx13
      try clear qi13
      try clear c14
      try clear c14b0
      try clear c14b1
      try clear p14
      try clear q14
      try clear hx14
      try clear qi14
      try clear c15
      try clear c15b0
      try clear c15b1
      try clear c16
      try clear c17
      try clear c17b0
      try clear c17b1
      try clear c18
      try clear c18b0
      try clear c18b1
      try clear c19
      try clear c19b0
      try clear c19b1
      try clear c21
      try clear c23
      try clear c23b0
      try clear c23b1
      try clear c23b2
      try clear hx133_0
      try clear hx133_1
      try clear hx133_2
      try clear hx133_3
      try clear hx134_0
      try clear hx134_1
      try clear hx134_2
      try clear hx134_3
      try clear hx135_0
      try clear hx135_1
      try clear hx135_2
      try clear hx135_3
      try clear hx136_0
      try clear hx136_1
      try clear hx136_2
      try clear hx136_3
      try clear hx138_0
      try clear hx138_1
      try clear hx138_2
      try clear hx138_3
      try clear hx139_0
      try clear hx139_1
      try clear hx139_2
      try clear hx139_3
      try clear hx140_0
      try clear hx140_1
      try clear hx140_2
      try clear hx140_3
      try clear hx142_0
      try clear hx142_1
      try clear hx142_2
      try clear hx142_3
      try clear hx143_0
      try clear hx143_1
      try clear hx143_2
      try clear hx143_3
      try clear hx145_0
      try clear hx145_1
      try clear hx145_2
      try clear hx145_3
      try clear p1
      try clear p13
      try clear p133
      try clear p134
      try clear p135
      try clear p136
      try clear p138
      try clear p139
      try clear p14
      try clear p140
      try clear p142
      try clear p143
      try clear p145
      try clear p2
      try clear q1
      try clear q13
      try clear q133
      try clear q134
      try clear q135
      try clear q136
      try clear q138
      try clear q139
      try clear q14
      try clear q140
      try clear q142
      try clear q143
      try clear q145
      obtain ⟨kq, x80_21, rfl, HA, HJ21, ⟨mc21, rfl⟩⟩ := hcut
      cases kq with
      | zero => exact absurd HA.out (by simp [spec_l03Shape.j1])
      | succ kj21 =>
       have H := HA.out
       clear HA
       simp only [spec_l03Shape.j1] at H
       by_cases c24 : x80_21 = true
       ·subst c24
        rewrite [if_pos rfl] at H
        have H' := Aside0.mk H
        clear H
        go_wp2
        go_meet
        case rel => exact ⟨_, (1), (false), sr, sr, H', ⟨by have := HJ11.out; have := HJ21.out; first | omega | exact Nat.le_refl _⟩, by repeat (first | exact Drawn0.refl _ | apply Drawn0.step)⟩
       replace c24 := Bool.eq_false_iff.mpr c24
       subst c24
       rewrite [if_neg (show ¬ (false = true) by decide)] at H
       have HC25 := Aside0.mk H
       clear H
       go_upto_if 83 with (fail)
       go_cut [83] (fun v83 wc => ∃ (kq : Nat) (x83_24 : Bool), v83 = .bool x83_24 ∧ Aside0 (spec_l03Shape.j2 kq l0 false ((rd_T26 l0 0).f0) x83_24 = some r) ∧ Aside0 (kq ≤ kj21) ∧ Drawn0 w wc)
       case first =>
        have H := HC25.out
        clear HC25
        by_cases c26 : ((rd_T26 l0 0).f0) = 5
        ·rw [if_pos c26] at H
         have c26b0 : (((rd_T26 l0 0).f0) == 5) = true := beq_iff_eq.mpr c26
         have c26b1 : (((rd_T26 l0 0).f0) != 5) = false := bne_eq_false_iff_eq.mpr c26
         clear c26
         (first | rw [c26b0] | (simp only [i64_w, i32_w]; rw [c26b0]) | rw [c26b2] | skip)
         have H' := Aside0.mk H
         clear H
         go_wp2
         go_meet
         case rel => exact ⟨_, ((((rd_T26 l0 0).f0) == 5)), sr, H', ⟨by have := HJ11.out; have := HJ21.out; first | omega | exact Nat.le_refl _⟩, by repeat (first | exact Drawn0.refl _ | apply Drawn0.step)⟩
        rw [if_neg c26] at H
        have c26b0 : (((rd_T26 l0 0).f0) == 5) = false := beq_eq_false_iff_ne.mpr c26
        have c26b1 : (((rd_T26 l0 0).f0) != 5) = true := bne_iff_ne.mpr c26
        (first | rw [c26b0] | (simp only [i64_w, i32_w]; rw [c26b0]) | rw [c26b2] | skip)
        by_cases c27 : ((rd_T26 l0 0).f0) = 6
        ·rw [if_pos c27] at H
         have c27b0 : (((rd_T26 l0 0).f0) == 6) = true := beq_iff_eq.mpr c27
         have c27b1 : (((rd_T26 l0 0).f0) != 6) = false := bne_eq_false_iff_eq.mpr c27
         clear c27
         have H' := Aside0.mk H
         clear H
         go_wp2
         go_meet
         case rel => exact ⟨_, ((((rd_T26 l0 0).f0) == 6)), sr, H', ⟨by have := HJ11.out; have := HJ21.out; first | omega | exact Nat.le_refl _⟩, by repeat (first | exact Drawn0.refl _ | apply Drawn0.step)⟩
        rw [if_neg c27] at H
        have c27b0 : (((rd_T26 l0 0).f0) == 6) = false := beq_eq_false_iff_ne.mpr c27
        have c27b1 : (((rd_T26 l0 0).f0) != 6) = true := bne_iff_ne.mpr c27
        by_cases c28 : ((rd_T26 l0 0).f0) = 7
        ·rw [if_pos c28] at H
         have c28b0 : (((rd_T26 l0 0).f0) == 7) = true := beq_iff_eq.mpr c28
         have c28b1 : (((rd_T26 l0 0).f0) != 7) = false := bne_eq_false_iff_eq.mpr c28
         clear c28
         have H' := Aside0.mk H
         clear H
         go_wp2
         go_meet
         case rel => exact ⟨_, ((((rd_T26 l0 0).f0) == 7)), sr, H', ⟨by have := HJ11.out; have := HJ21.out; first | omega | exact Nat.le_refl _⟩, by repeat (first | exact Drawn0.refl _ | apply Drawn0.step)⟩
        rw [if_neg c28] at H
        have c28b0 : (((rd_T26 l0 0).f0) == 7) = false := beq_eq_false_iff_ne.mpr c28
        have c28b1 : (((rd_T26 l0 0).f0) != 7) = true := bne_iff_ne.mpr c28
        by_cases c29 : ((rd_T26 l0 0).f0) = 8
        ·rw [if_pos c29] at H
         have c29b0 : (((rd_T26 l0 0).f0) == 8) = true := beq_iff_eq.mpr c29
         have c29b1 : (((rd_T26 l0 0).f0) != 8) = false := bne_eq_false_iff_eq.mpr c29
         clear c29
         have H' := Aside0.mk H
         clear H
         go_wp2
         go_meet
         case rel => exact ⟨_, ((((rd_T26 l0 0).f0) == 8)), sr, H', ⟨by have := HJ11.out; have := HJ21.out; first | omega | exact Nat.le_refl _⟩, by repeat (first | exact Drawn0.refl _ | apply Drawn0.step)⟩
        rw [if_neg c29] at H
        have c29b0 : (((rd_T26 l0 0).f0) == 8) = false := beq_eq_false_iff_ne.mpr c29
        have c29b1 : (((rd_T26 l0 0).f0) != 8) = true := bne_iff_ne.mpr c29
        by_cases c30 : ((rd_T26 l0 0).f0) = 9
        ·rw [if_pos c30] at H
         have c30b0 : (((rd_T26 l0 0).f0) == 9) = true := beq_iff_eq.mpr c30
         have c30b1 : (((rd_T26 l0 0).f0) != 9) = false := bne_eq_false_iff_eq.mpr c30
         clear c30
         have H' := Aside0.mk H
         clear H
         go_wp2
         go_meet
         case rel => exact ⟨_, ((((rd_T26 l0 0).f0) == 9)), sr, H', ⟨by have := HJ11.out; have := HJ21.out; first | omega | exact Nat.le_refl _⟩, by repeat (first | exact Drawn0.refl _ | apply Drawn0.step)⟩
        rw [if_neg c30] at H
        have c30b0 : (((rd_T26 l0 0).f0) == 9) = false := beq_eq_false_iff_ne.mpr c30
        have c30b1 : (((rd_T26 l0 0).f0) != 9) = true := bne_iff_ne.mpr c30
        by_cases c31 : ((rd_T26 l0 0).f0) = 10
        ·rw [if_pos c31] at H
         have c31b0 : (((rd_T26 l0 0).f0) == 10) = true := beq_iff_eq.mpr c31
         have c31b1 : (((rd_T26 l0 0).f0) != 10) = false := bne_eq_false_iff_eq.mpr c31
         clear c31
         have H' := Aside0.mk H
         clear H
         go_wp2
         go_meet
         case rel => exact ⟨_, ((((rd_T26 l0 0).f0) == 10)), sr, H', ⟨by have := HJ11.out; have := HJ21.out; first | omega | exact Nat.le_refl _⟩, by repeat (first | exact Drawn0.refl _ | apply Drawn0.step)⟩
        rw [if_neg c31] at H
        have c31b0 : (((rd_T26 l0 0).f0) == 10) = false := beq_eq_false_iff_ne.mpr c31
        have c31b1 : (((rd_T26 l0 0).f0) != 10) = true := bne_iff_ne.mpr c31
        have H' := Aside0.mk H
        clear H
        go_wp2
        go_meet
        case rel => exact ⟨_, ((((rd_T26 l0 0).f0) == 11)), sr, H', ⟨by have := HJ11.out; have := HJ21.out; first | omega | exact Nat.le_refl _⟩, by repeat (first | exact Drawn0.refl _ | apply Drawn0.step)⟩
       case rest =>
        clear HC25
        try clear c1
        try clear p1
        try clear q1
        try clear hx1
        try clear qi1
        try clear c2
        try clear c2b0
        try clear c2b1
        try clear p2
        try clear c3
        try clear c4
        try clear c4b0
        try clear c4b1
        try clear c4b2
        try clear c5
        try clear c5b0
        try clear c5b1
        try clear c6
        try clear c6b0
        try clear c6b1
        try clear c6b2
        try clear c8
        try clear c8b0
        try clear c8b1
        try clear c9
        try clear c9b0
        try clear c9b1
        try clear c9b2
        try clear c10
        try clear c10b0
        try clear c10b1
        try clear c10b2
        try clear c11
        try clear c13
        try clear c13b0
        try clear c13b1
        try clear c13b2
        try clear p13
        try clear q13
        try clear hx13
        try clear qi13
        try clear c14
        try clear c14b0
        try clear c14b1
        try clear p14
        try clear q14
        try clear hx14
        try clear qi14
        try clear c15
        try clear c15b0
        try clear c15b1
        try clear c16
        try clear c17
        try clear c17b0
        try clear c17b1
        try clear c18
        try clear c18b0
        try clear c18b1
        try clear c19
        try clear c19b0
        try clear c19b1
        try clear c21
        try clear c23
        try clear c23b0
        try clear c23b1
        try clear c23b2
        try clear c24
        try clear c26
        try clear c26b0
        try clear c26b1
        try clear c26b2
        try clear c27
        try clear c27b0
        try clear c27b1
        try clear c28
        try clear c28b0
        try clear c28b1
        try clear c29
        try clear c29b0
        try clear c29b1
        try clear c30
        try clear c30b0
        try clear c30b1
        try clear c31
        try clear c31b0
        try clear c31b1
        try clear hx133_0
        try clear hx133_1
        try clear hx133_2
        try clear hx133_3
        try clear hx134_0
        try clear hx134_1
        try clear hx134_2
        try clear hx134_3
        try clear hx135_0
        try clear hx135_1
        try clear hx135_2
        try clear hx135_3
        try clear hx136_0
        try clear hx136_1
        try clear hx136_2
        try clear hx136_3
        try clear hx138_0
        try clear hx138_1
        try clear hx138_2
        try clear hx138_3
        try clear hx139_0
        try clear hx139_1
        try clear hx139_2
        try clear hx139_3
        try clear hx140_0
        try clear hx140_1
        try clear hx140_2
        try clear hx140_3
        try clear hx142_0
        try clear hx142_1
        try clear hx142_2
        try clear hx142_3
        try clear hx143_0
        try clear hx143_1
        try clear hx143_2
        try clear hx143_3
        try clear hx145_0
        try clear hx145_1
        try clear hx145_2
        try clear hx145_3
        try clear p1
        try clear p13
        try clear p133
        try clear p134
        try clear p135
        try clear p136
        try clear p138
        try clear p139
        try clear p14
        try clear p140
        try clear p142
        try clear p143
        try clear p145
        try clear p2
        try clear q1
        try clear q13
        try clear q133
        try clear q134
        try clear q135
        try clear q136
        try clear q138
        try clear q139
        try clear q14
        try clear q140
        try clear q142
        try clear q143
        try clear q145
        obtain ⟨kq, x83_24, rfl, HA, HJ24, ⟨mc24, rfl⟩⟩ := hcut
        cases kq with
        | zero => exact absurd HA.out (by simp [spec_l03Shape.j2])
        | succ kj24 =>
         have H := HA.out
         clear HA
         simp only [spec_l03Shape.j2] at H
         by_cases c32 : x83_24 = true
         ·subst c32
          rewrite [if_pos rfl] at H
          have H' := Aside0.mk H
          clear H
          go_wp2
          go_meet
          case rel => exact ⟨_, (2), (false), sr, sr, H', ⟨by have := HJ11.out; have := HJ21.out; have := HJ24.out; first | omega | exact Nat.le_refl _⟩, by repeat (first | exact Drawn0.refl _ | apply Drawn0.step)⟩
         replace c32 := Bool.eq_false_iff.mpr c32
         subst c32
         rewrite [if_neg (show ¬ (false = true) by decide)] at H
         have HC33 := Aside0.mk H
         clear H
         go_upto_if 91 with (fail)
         go_cut [91] (fun v91 wc => ∃ (kq : Nat) (x91_32 : Bool), v91 = .bool x91_32 ∧ Aside0 (spec_l03Shape.j3 kq l0 false x91_32 = some r) ∧ Aside0 (kq ≤ kj24) ∧ Drawn0 w wc)
         case first =>
          have H := HC33.out
          clear HC33
          by_cases c34 : ((rd_T26 l0 0).f0) = 12
          ·rw [if_pos c34] at H
           have c34b0 : (((rd_T26 l0 0).f0) == 12) = true := beq_iff_eq.mpr c34
           have c34b1 : (((rd_T26 l0 0).f0) != 12) = false := bne_eq_false_iff_eq.mpr c34
           clear c34
           (first | rw [c34b0] | (simp only [i64_w, i32_w]; rw [c34b0]) | rw [c34b2] | skip)
           have H' := Aside0.mk H
           clear H
           go_wp2
           go_meet
           case rel => exact ⟨_, ((((rd_T26 l0 0).f0) == 12)), sr, H', ⟨by have := HJ11.out; have := HJ21.out; have := HJ24.out; first | omega | exact Nat.le_refl _⟩, by repeat (first | exact Drawn0.refl _ | apply Drawn0.step)⟩
          rw [if_neg c34] at H
          have c34b0 : (((rd_T26 l0 0).f0) == 12) = false := beq_eq_false_iff_ne.mpr c34
          have c34b1 : (((rd_T26 l0 0).f0) != 12) = true := bne_iff_ne.mpr c34
          (first | rw [c34b0] | (simp only [i64_w, i32_w]; rw [c34b0]) | rw [c34b2] | skip)
          have H' := Aside0.mk H
          clear H
          go_wp2
          go_meet
          case rel => exact ⟨_, ((((rd_T26 l0 0).f0) == 13)), sr, H', ⟨by have := HJ11.out; have := HJ21.out; have := HJ24.out; first | omega | exact Nat.le_refl _⟩, by repeat (first | exact Drawn0.refl _ | apply Drawn0.step)⟩
         case rest =>
          clear HC33
          try clear c1
          try clear p1
          try clear q1
          try clear hx1
          try clear qi1
          try clear c2
          try clear c2b0
          try clear c2b1
          try clear p2
          try clear c3
          try clear c4
          try clear c4b0
          try clear c4b1
          try clear c4b2
          try clear c5
          try clear c5b0
          try clear c5b1
          try clear c6
          try clear c6b0
          try clear c6b1
          try clear c6b2
          try clear c8
          try clear c8b0
          try clear c8b1
          try clear c9
          try clear c9b0
          try clear c9b1
          try clear c9b2
          try clear c10
          try clear c10b0
          try clear c10b1
          try clear c10b2
          try clear c11
          try clear c13
          try clear c13b0
          try clear c13b1
          try clear c13b2
          try clear p13
          try clear q13
          try clear hx13
          try clear qi13
          try clear c14
          try clear c14b0
          try clear c14b1
          try clear p14
          try clear q14
          try clear hx14
          try clear qi14
          try clear c15
          try clear c15b0
          try clear c15b1
          try clear c16
          try clear c17
          try clear c17b0
          try clear c17b1
          try clear c18
          try clear c18b0
          try clear c18b1
          try clear c19
          try clear c19b0
          try clear c19b1
          try clear c21
          try clear c23
          try clear c23b0
          try clear c23b1
          try clear c23b2
          try clear c24
          try clear c26
          try clear c26b0
          try clear c26b1
          try clear c26b2
          try clear c27
          try clear c27b0
          try clear c27b1
          try clear c28
          try clear c28b0
          try clear c28b1
          try clear c29
          try clear c29b0
          try clear c29b1
          try clear c30
          try clear c30b0
          try clear c30b1
          try clear c31
          try clear c31b0
          try clear c31b1
          try clear c32
          try clear c34
          try clear c34b0
          try clear c34b1
          try clear c34b2
          try clear hx133_0
          try clear hx133_1
          try clear hx133_2
          try clear hx133_3
          try clear hx134_0
          try clear hx134_1
          try clear hx134_2
          try clear hx134_3
          try clear hx135_0
          try clear hx135_1
          try clear hx135_2
          try clear hx135_3
          try clear hx136_0
          try clear hx136_1
          try clear hx136_2
          try clear hx136_3
          try clear hx138_0
          try clear hx138_1
          try clear hx138_2
          try clear hx138_3
          try clear hx139_0
          try clear hx139_1
          try clear hx139_2
          try clear hx139_3
          try clear hx140_0
          try clear hx140_1
          try clear hx140_2
          try clear hx140_3
          try clear hx142_0
          try clear hx142_1
          try clear hx142_2
          try clear hx142_3
          try clear hx143_0
          try clear hx143_1
          try clear hx143_2
          try clear hx143_3
          try clear hx145_0
          try clear hx145_1
          try clear hx145_2
          try clear hx145_3
          try clear p1
          try clear p13
          try clear p133
          try clear p134
          try clear p135
          try clear p136
          try clear p138
          try clear p139
          try clear p14
          try clear p140
          try clear p142
          try clear p143
          try clear p145
          try clear p2
          try clear q1
          try clear q13
          try clear q133
          try clear q134
          try clear q135
          try clear q136
          try clear q138
          try clear q139
          try clear q14
          try clear q140
          try clear q142
          try clear q143
          try clear q145
          obtain ⟨kq, x91_32, rfl, HA, HJ32, ⟨mc32, rfl⟩⟩ := hcut
          cases kq with
          | zero => exact absurd HA.out (by simp [spec_l03Shape.j3])
          | succ kj32 =>
           have H := HA.out
           clear HA
           simp only [spec_l03Shape.j3] at H
           by_cases c35 : x91_32 = true
           ·subst c35
            rewrite [if_pos rfl] at H
            have HC36 := Aside0.mk H
            clear H
            go_upto_region 30 with (fail)
            go_cut [109] (fun v109 wc => ∃ (kq : Nat) (x109_35 : Bool), v109 = .bool x109_35 ∧ Aside0 (spec_l03Shape.j4 kq l0 2 false x109_35 = some r) ∧ Aside0 (kq ≤ kj32) ∧ Drawn0 w wc)
            case first =>
             have H := HC36.out
             clear HC36
             by_cases c37 : 0 < (l0.length : Int)
             ·rw [if_pos c37] at H
              have c37b0 := decide_eq_true c37
              have c37b1 : decide (0 < l0.length) = true := decide_eq_true (by omega)
              clear c37
              (first | rw [c37b0] | (simp only [i64_w, i32_w]; rw [c37b0]) | rw [c37b2] | skip)
              by_cases c38 : (((rd_T26 l0 0).f3).length : Int) = 2
              ·rw [if_pos c38] at H
               have c38b0 : ((((rd_T26 l0 0).f3).length : Int) == 2) = true := beq_iff_eq.mpr c38
               have c38b1 : ((((rd_T26 l0 0).f3).length : Int) != 2) = false := bne_eq_false_iff_eq.mpr c38
               clear c38
               by_cases c39 : 1 < (((rd_T26 l0 0).f3).length : Int)
               ·rw [if_pos c39] at H
                have c39b0 := decide_eq_true c39
                have c39b1 : decide (1 < ((rd_T26 l0 0).f3).length) = true := decide_eq_true (by omega)
                clear c39
                have H' := Aside0.mk H
                clear H
                have p146 : 0 ≤ (0 : Int) := (by omega)
                have q146 : 0 < (l0.length : Int) := of_decide_eq_true (by first | (with_reducible assumption) | assumption)
                obtain ⟨ad146, A146_3, c146_3, e146, hx146_0, hx146_1, hx146_2, hx146_3, hl146_3, hi146_3⟩ := at_T26 HR0.out 0 p146 q146
                obtain rfl : ad133 = ad146 := (by injection e146)
                have qi146 : (0 < l0.length) = True := eq_true (by omega)
                (try rw [sZ] at hx146_0)
                (try rw [sZ] at hx146_1)
                (try rw [sZ] at hx146_2)
                (try rw [sZ] at hx146_3)
                have HR146_3 := Aside0.mk hi146_3
                have HC146_3 := Aside0.mk hl146_3
                clear hi146_3 hl146_3
                replace p146 := eq_true p146
                replace q146 := eq_true q146
                have p147 : 0 ≤ (0 : Int) := (by omega)
                have q147 : 0 < (l0.length : Int) := of_decide_eq_true (by first | (with_reducible assumption) | assumption)
                obtain ⟨ad147, A147_3, c147_3, e147, hx147_0, hx147_1, hx147_2, hx147_3, hl147_3, hi147_3⟩ := at_T26 HR0.out 0 p147 q147
                obtain rfl : ad133 = ad147 := (by injection e147)
                have qi147 : (0 < l0.length) = True := eq_true (by omega)
                (try rw [sZ] at hx147_0)
                (try rw [sZ] at hx147_1)
                (try rw [sZ] at hx147_2)
                (try rw [sZ] at hx147_3)
                have HR147_3 := Aside0.mk hi147_3
                have HC147_3 := Aside0.mk hl147_3
                clear hi147_3 hl147_3
                replace p147 := eq_true p147
                replace q147 := eq_true q147
                have ea_ := Option.some.inj (hx146_3.symm.trans hx147_3)
                injection ea_ with ea_ en_ ec_
                subst ea_
                subst ec_
                clear en_
                have p148 : 0 ≤ (1 : Int) := (by omega)
                have q148 : 1 < (((rd_T26 l0 0).f3).length : Int) := of_decide_eq_true (by first | (with_reducible assumption) | assumption)
                obtain ⟨ad148, A148_3, c148_3, e148, hx148_0, hx148_1, hx148_2, hx148_3, hl148_3, hi148_3⟩ := at_T26 HR147_3.out 1 p148 q148
                cases e148
                (try simp only [show (1 : Int).toNat = 1 from rfl, Nat.reduceMul, Nat.reduceEqDiff, Go.Addr.add, ↓reduceIte] at hx148_0)
                (try simp only [show (1 : Int).toNat = 1 from rfl, Nat.reduceMul, Nat.reduceEqDiff, Go.Addr.add, ↓reduceIte] at hx148_1)
                (try simp only [show (1 : Int).toNat = 1 from rfl, Nat.reduceMul, Nat.reduceEqDiff, Go.Addr.add, ↓reduceIte] at hx148_2)
                (try simp only [show (1 : Int).toNat = 1 from rfl, Nat.reduceMul, Nat.reduceEqDiff, Go.Addr.add, ↓reduceIte] at hx148_3)
                have qi148 : (1 < ((rd_T26 l0 0).f3).length) = True := eq_true (by omega)
                (try rw [show ((1 : Int)).toNat = 1 from rfl] at hx148_0)
                (try rw [show 1 * 4 = 4 from rfl] at hx148_0)
                (try rw [show ((1 : Int)).toNat = 1 from rfl] at hx148_1)
                (try rw [show 1 * 4 = 4 from rfl] at hx148_1)
                (try rw [show ((1 : Int)).toNat = 1 from rfl] at hx148_2)
                (try rw [show 1 * 4 = 4 from rfl] at hx148_2)
                (try rw [show ((1 : Int)).toNat = 1 from rfl] at hx148_3)
                (try rw [show 1 * 4 = 4 from rfl] at hx148_3)
                have HR148_3 := Aside0.mk hi148_3
                have HC148_3 := Aside0.mk hl148_3
                clear hi148_3 hl148_3
                replace p148 := eq_true p148
                replace q148 := eq_true q148
                go_wp2
                go_meet
                case rel => exact ⟨_, ((((rd_T26 ((rd_T26 l0 0).f3) 1).f0) != 3)), sr, H', ⟨by have := HJ11.out; have := HJ21.out; have := HJ24.out; have := HJ32.out; first | omega | exact Nat.le_refl _⟩, by repeat (first | exact Drawn0.refl _ | apply Drawn0.step)⟩
               rw [if_neg c39] at H
               exact absurd H (by simp)
              rw [if_neg c38] at H
              have c38b0 : ((((rd_T26 l0 0).f3).length : Int) == 2) = false := beq_eq_false_iff_ne.mpr c38
              have c38b1 : ((((rd_T26 l0 0).f3).length : Int) != 2) = true := bne_iff_ne.mpr c38
              have H' := Aside0.mk H
              clear H
              have p146 : 0 ≤ (0 : Int) := (by omega)
              have q146 : 0 < (l0.length : Int) := of_decide_eq_true (by first | (with_reducible assumption) | assumption)
              obtain ⟨ad146, A146_3, c146_3, e146, hx146_0, hx146_1, hx146_2, hx146_3, hl146_3, hi146_3⟩ := at_T26 HR0.out 0 p146 q146
              obtain rfl : ad133 = ad146 := (by injection e146)
              have qi146 : (0 < l0.length) = True := eq_true (by omega)
              (try rw [sZ] at hx146_0)
              (try rw [sZ] at hx146_1)
              (try rw [sZ] at hx146_2)
              (try rw [sZ] at hx146_3)
              have HR146_3 := Aside0.mk hi146_3
              have HC146_3 := Aside0.mk hl146_3
              clear hi146_3 hl146_3
              replace p146 := eq_true p146
              replace q146 := eq_true q146
              go_wp2
              go_meet
              case rel => exact ⟨_, (false), sr, H', ⟨by have := HJ11.out; have := HJ21.out; have := HJ24.out; have := HJ32.out; first | omega | exact Nat.le_refl _⟩, by repeat (first | exact Drawn0.refl _ | apply Drawn0.step)⟩
             rw [if_neg c37] at H
             exact absurd H (by simp)
            case rest =>
             clear HC36
             try clear c1
             try clear p1
             try clear q1
             try clear hx1
             try clear qi1
             try clear c2
             try clear c2b0
             try clear c2b1
             try clear p2
             try clear c3
             try clear c4
             try clear c4b0
             try clear c4b1
             try clear c4b2
             try clear c5
             try clear c5b0
             try clear c5b1
             try clear c6
             try clear c6b0
             try clear c6b1
             try clear c6b2
             try clear c8
             try clear c8b0
             try clear c8b1
             try clear c9
             try clear c9b0
             try clear c9b1
             try clear c9b2
             try clear c10
             try clear c10b0
             try clear c10b1
             try clear c10b2
             try clear c11
             try clear c13
             try clear c13b0
             try clear c13b1
             try clear c13b2
             try clear p13
             try clear q13
             try clear hx13
             try clear qi13
             try clear c14
             try clear c14b0
             try clear c14b1
             try clear p14
             try clear q14
             try clear hx14
             try clear qi14
             try clear c15
             try clear c15b0
             try clear c15b1
             try clear c16
             try clear c17
             try clear c17b0
             try clear c17b1
             try clear c18
             try clear c18b0
             try clear c18b1
             try clear c19
             try clear c19b0
             try clear c19b1
             try clear c21
             try clear c23
             try clear c23b0
             try clear c23b1
             try clear c23b2
             try clear c24
             try clear c26
             try clear c26b0
             try clear c26b1
             try clear c26b2
             try clear c27
             try clear c27b0
             try clear c27b1
             try clear c28
             try clear c28b0
             try clear c28b1
             try clear c29
             try clear c29b0
             try clear c29b1
             try clear c30
             try clear c30b0
             try clear c30b1
             try clear c31
             try clear c31b0
             try clear c31b1
             try clear c32
             try clear c34
             try clear c34b0
             try clear c34b1
             try clear c34b2
             try clear c35
             try clear c37
             try clear c37b0
             try clear c37b1
             try clear c37b2
             try clear c38
             try clear c38b0
             try clear c38b1
             try clear c39
             try clear c39b0
             try clear c39b1
             try clear hx133_0
             try clear hx133_1
             try clear hx133_2
             try clear hx133_3
             try clear hx134_0
             try clear hx134_1
             try clear hx134_2
             try clear hx134_3
             try clear hx135_0
             try clear hx135_1
             try clear hx135_2
             try clear hx135_3
             try clear hx136_0
             try clear hx136_1
             try clear hx136_2
             try clear hx136_3
             try clear hx138_0
             try clear hx138_1
             try clear hx138_2
             try clear hx138_3
             try clear hx139_0
             try clear hx139_1
             try clear hx139_2
             try clear hx139_3
             try clear hx140_0
             try clear hx140_1
             try clear hx140_2
             try clear hx140_3
             try clear hx142_0
             try clear hx142_1
             try clear hx142_2
             try clear hx142_3
             try clear hx143_0
             try clear hx143_1
             try clear hx143_2
             try clear hx143_3
             try clear hx145_0
             try clear hx145_1
             try clear hx145_2
             try clear hx145_3
             try clear hx146_0
             try clear hx146_1
             try clear hx146_2
             try clear hx146_3
             try clear hx147_0
             try clear hx147_1
             try clear hx147_2
             try clear hx147_3
             try clear hx148_0
             try clear hx148_1
             try clear hx148_2
             try clear hx148_3
             try clear p1
             try clear p13
             try clear p133
             try clear p134
             try clear p135
             try clear p136
             try clear p138
             try clear p139
             try clear p14
             try clear p140
             try clear p142
             try clear p143
             try clear p145
             try clear p146
             try clear p147
             try clear p148
             try clear p2
             try clear q1
             try clear q13
             try clear q133
             try clear q134
             try clear q135
             try clear q136
             try clear q138
             try clear q139
             try clear q14
             try clear q140
             try clear q142
             try clear q143
             try clear q145
             try clear q146
             try clear q147
             try clear q148
             obtain ⟨kq, x109_35, rfl, HA, HJ35, ⟨mc35, rfl⟩⟩ := hcut
             cases kq with
             | zero => exact absurd HA.out (by simp [spec_l03Shape.j4])
             | succ kj35 =>
              have H := HA.out
              clear HA
              simp only [spec_l03Shape.j4] at H
              by_cases c40 : x109_35 = true
              ·subst c40
               rewrite [if_pos rfl] at H
               obtain rfl := Option.some.inj H
               go_wp2
               go_ret
               exact ⟨by first | rfl | (simp; done) | (simp [*]; done), by repeat (first | exact Drawn0.refl _ | apply Drawn0.step)⟩
              replace c40 := Bool.eq_false_iff.mpr c40
              subst c40
              rewrite [if_neg (show ¬ (false = true) by decide)] at H
              have H' := Aside0.mk H
              clear H
              go_wp2
              go_meet
              case rel => exact ⟨_, (2), (false), sr, sr, H', ⟨by have := HJ11.out; have := HJ21.out; have := HJ24.out; have := HJ32.out; have := HJ35.out; first | omega | exact Nat.le_refl _⟩, by repeat (first | exact Drawn0.refl _ | apply Drawn0.step)⟩
           replace c35 := Bool.eq_false_iff.mpr c35
           subst c35
           rewrite [if_neg (show ¬ (false = true) by decide)] at H
           obtain rfl := Option.some.inj H
           go_wp2
           go_ret
           exact ⟨by first | rfl | (simp; done) | (simp [*]; done), by repeat (first | exact Drawn0.refl _ | apply Drawn0.step)⟩
  case rest =>
   clear HC3
   try clear c1
   try clear p1
   try clear q1
   try clear hx1
   try clear qi1
   try clear c2
   try clear c2b0
   try clear c2b1
   try clear p2
   try clear c3
   try clear c4
   try clear c4b0
   try clear c4b1
   try clear c4b2
   try clear c5
   try clear c5b0
   try clear c5b1
   try clear c6
   try clear c6b0
   try clear c6b1
   try clear c6b2
   try clear c8
   try clear c8b0
   try clear c8b1
   try clear c9
   try clear c9b0
   try clear c9b1
   try clear c9b2
   try clear c10
   try clear c10b0
   try clear c10b1
   try clear c10b2
   try clear c11
   try clear c13
   try clear c13b0
   try clear c13b1
   try clear c13b2
   try clear p13
   try clear q13
   try clear hx13
   try clear qi13
   try clear c14
   try clear c14b0
   try clear c14b1
   try clear p14
   try clear q14
   try clear hx14
   try clear qi14
   try clear c15
   try clear c15b0
   try clear c15b1
   try clear c16
   try clear c17
   try clear c17b0
   try clear c17b1
   try clear c18
   try clear c18b0
   try clear c18b1
   try clear c19
   try clear c19b0
   try clear c19b1
   try clear c21
   try clear c23
   try clear c23b0
   try clear c23b1
   try clear c23b2
   try clear c24
   try clear c26
   try clear c26b0
   try clear c26b1
   try clear c26b2
   try clear c27
   try clear c27b0
   try clear c27b1
   try clear c28
   try clear c28b0
   try clear c28b1
   try clear c29
   try clear c29b0
   try clear c29b1
   try clear c30
   try clear c30b0
   try clear c30b1
   try clear c31
   try clear c31b0
   try clear c31b1
   try clear c32
   try clear c34
   try clear c34b0
   try clear c34b1
   try clear c34b2
   try clear c35
   try clear c37
   try clear c37b0
   try clear c37b1
   try clear c37b2
   try clear c38
   try clear c38b0
   try clear c38b1
   try clear c39
   try clear c39b0
   try clear c39b1
   try clear c40
   try clear hx133_0
   try clear hx133_1
   try clear hx133_2
   try clear hx133_3
   try clear hx134_0
   try clear hx134_1
   try clear hx134_2
   try clear hx134_3
   try clear hx135_0
   try clear hx135_1
   try clear hx135_2
   try clear hx135_3
   try clear hx136_0
   try clear hx136_1
   try clear hx136_2
   try clear hx136_3
   try clear hx138_0
   try clear hx138_1
   try clear hx138_2
   try clear hx138_3
   try clear hx139_0
   try clear hx139_1
   try clear hx139_2
   try clear hx139_3
   try clear hx140_0
   try clear hx140_1
   try clear hx140_2
   try clear hx140_3
   try clear hx142_0
   try clear hx142_1
   try clear hx142_2
   try clear hx142_3
   try clear hx143_0
   try clear hx143_1
   try clear hx143_2
   try clear hx143_3
   try clear hx145_0
   try clear hx145_1
   try clear hx145_2
   try clear hx145_3
   try clear hx146_0
   try clear hx146_1
   try clear hx146_2
   try clear hx146_3
   try clear hx147_0
   try clear hx147_1
   try clear hx147_2
   try clear hx147_3
   try clear hx148_0
   try clear hx148_1
   try clear hx148_2
   try clear hx148_3
   try clear p1
   try clear p13
   try clear p133
   try clear p134
   try clear p135
   try clear p136
   try clear p138
   try clear p139
   try clear p14
   try clear p140
   try clear p142
   try clear p143
   try clear p145
   try clear p146
   try clear p147
   try clear p148
   try clear p2
   try clear q1
   try clear q13
   try clear q133
   try clear q134
   try clear q135
   try clear q136
   try clear q138
   try clear q139
   try clear q14
   try clear q140
   try clear q142
   try clear q143
   try clear q145
   try clear q146
   try clear q147
   try clear q148
   obtain ⟨kq, x3_2, x4_2, rfl, rfl, HA, HJ2, ⟨mc2, rfl⟩⟩ := hcut
   cases kq with
   | zero => exact absurd HA.out (by simp [spec_l03Shape.j5])
   | succ kj2 =>
    have H := HA.out
    clear HA
    simp only [spec_l03Shape.j5] at H
    by_cases c41 : 0 < (l0.length : Int)
    ·rw [if_pos c41] at H
     have c41b0 := decide_eq_true c41
     have c41b1 : decide (0 < l0.length) = true := decide_eq_true (by omega)
     clear c41
     by_cases c42 : ((rd_T26 l0 0).f1) = 0
     ·rw [if_pos c42] at H
      have c42b0 : (((rd_T26 l0 0).f1) == 0) = true := beq_iff_eq.mpr c42
      have c42b1 : (((rd_T26 l0 0).f1) != 0) = false := bne_eq_false_iff_eq.mpr c42
      clear c42
      by_cases c43 : (((rd_T26 l0 0).f3).length : Int) = x3_2
      ·rw [if_pos c43] at H
       have c43b0 : ((((rd_T26 l0 0).f3).length : Int) == x3_2) = true := beq_iff_eq.mpr c43
       have c43b1 : ((((rd_T26 l0 0).f3).length : Int) != x3_2) = false := bne_eq_false_iff_eq.mpr c43
       clear c43
       by_cases c44 : x4_2 = true
       ·subst c44
        rewrite [if_pos rfl] at H
        obtain ⟨t152, A45, H⟩ := sO H
        by_cases c46 : t152 = true
        ·subst c46
         rewrite [if_pos rfl] at H
         obtain rfl := Option.some.inj H
         have p149 : 0 ≤ (0 : Int) := (by omega)
         have q149 : 0 < (l0.length : Int) := of_decide_eq_true (by first | (with_reducible assumption) | assumption)
         obtain ⟨ad149, A149_3, c149_3, e149, hx149_0, hx149_1, hx149_2, hx149_3, hl149_3, hi149_3⟩ := at_T26 HR0.out 0 p149 q149
         obtain rfl : ad133 = ad149 := (by injection e149)
         have qi149 : (0 < l0.length) = True := eq_true (by omega)
         (try rw [sZ] at hx149_0)
         (try rw [sZ] at hx149_1)
         (try rw [sZ] at hx149_2)
         (try rw [sZ] at hx149_3)
         have HR149_3 := Aside0.mk hi149_3
         have HC149_3 := Aside0.mk hl149_3
         clear hi149_3 hl149_3
         replace p149 := eq_true p149
         replace q149 := eq_true q149
         have p150 : 0 ≤ (0 : Int) := (by omega)
         have q150 : 0 < (l0.length : Int) := of_decide_eq_true (by first | (with_reducible assumption) | assumption)
         obtain ⟨ad150, A150_3, c150_3, e150, hx150_0, hx150_1, hx150_2, hx150_3, hl150_3, hi150_3⟩ := at_T26 HR0.out 0 p150 q150
         obtain rfl : ad133 = ad150 := (by injection e150)
         have qi150 : (0 < l0.length) = True := eq_true (by omega)
         (try rw [sZ] at hx150_0)
         (try rw [sZ] at hx150_1)
         (try rw [sZ] at hx150_2)
         (try rw [sZ] at hx150_3)
         have HR150_3 := Aside0.mk hi150_3
         have HC150_3 := Aside0.mk hl150_3
         clear hi150_3 hl150_3
         replace p150 := eq_true p150
         replace q150 := eq_true q150
         have ea_ := Option.some.inj (hx149_3.symm.trans hx150_3)
         injection ea_ with ea_ en_ ec_
         subst ea_
         subst ec_
         clear en_
         have p151 : 0 ≤ (0 : Int) := (by omega)
         have q151 : 0 < (l0.length : Int) := of_decide_eq_true (by first | (with_reducible assumption) | assumption)
         obtain ⟨ad151, A151_3, c151_3, e151, hx151_0, hx151_1, hx151_2, hx151_3, hl151_3, hi151_3⟩ := at_T26 HR0.out 0 p151 q151
         obtain rfl : ad133 = ad151 := (by injection e151)
         have qi151 : (0 < l0.length) = True := eq_true (by omega)
         (try rw [sZ] at hx151_0)
         (try rw [sZ] at hx151_1)
         (try rw [sZ] at hx151_2)
         (try rw [sZ] at hx151_3)
         have HR151_3 := Aside0.mk hi151_3
         have HC151_3 := Aside0.mk hl151_3
         clear hi151_3 hl151_3
         replace p151 := eq_true p151
         replace q151 := eq_true q151
         have ea_ := Option.some.inj (hx149_3.symm.trans hx151_3)
         injection ea_ with ea_ en_ ec_
         subst ea_
         subst ec_
         clear en_
         go_wp2_with (first | (go_at_call 100; (with_reducible refine (spec_IsName.calls kj2 ((rd_T26 l0 0).f2) true _ A45.out).mono ?_); rintro e w' ⟨rfl, ⟨nd, rfl⟩⟩))
         go_ret
         exact ⟨by first | rfl | (simp; done) | (simp [*]; done), by repeat (first | exact Drawn0.refl _ | apply Drawn0.step)⟩
        replace c46 := Bool.eq_false_iff.mpr c46
        subst c46
        rewrite [if_neg (show ¬ (false = true) by decide)] at H
        obtain rfl := Option.some.inj H
        have p149 : 0 ≤ (0 : Int) := (by omega)
        have q149 : 0 < (l0.length : Int) := of_decide_eq_true (by first | (with_reducible assumption) | assumption)
        obtain ⟨ad149, A149_3, c149_3, e149, hx149_0, hx149_1, hx149_2, hx149_3, hl149_3, hi149_3⟩ := at_T26 HR0.out 0 p149 q149
        obtain rfl : ad133 = ad149 := (by injection e149)
        have qi149 : (0 < l0.length) = True := eq_true (by omega)
        (try rw [sZ] at hx149_0)
        (try rw [sZ] at hx149_1)
        (try rw [sZ] at hx149_2)
        (try rw [sZ] at hx149_3)
        have HR149_3 := Aside0.mk hi149_3
        have HC149_3 := Aside0.mk hl149_3
        clear hi149_3 hl149_3
        replace p149 := eq_true p149
        replace q149 := eq_true q149
        have p150 : 0 ≤ (0 : Int) := (by omega)
        have q150 : 0 < (l0.length : Int) := of_decide_eq_true (by first | (with_reducible assumption) | assumption)
        obtain ⟨ad150, A150_3, c150_3, e150, hx150_0, hx150_1, hx150_2, hx150_3, hl150_3, hi150_3⟩ := at_T26 HR0.out 0 p150 q150
        obtain rfl : ad133 = ad150 := (by injection e150)
        have qi150 : (0 < l0.length) = True := eq_true (by omega)
        (try rw [sZ] at hx150_0)
        (try rw [sZ] at hx150_1)
        (try rw [sZ] at hx150_2)
        (try rw [sZ] at hx150_3)
        have HR150_3 := Aside0.mk hi150_3
        have HC150_3 := Aside0.mk hl150_3
        clear hi150_3 hl150_3
        replace p150 := eq_true p150
        replace q150 := eq_true q150
        have ea_ := Option.some.inj (hx149_3.symm.trans hx150_3)
        injection ea_ with ea_ en_ ec_
        subst ea_
        subst ec_
        clear en_
        have p151 : 0 ≤ (0 : Int) := (by omega)
        have q151 : 0 < (l0.length : Int) := of_decide_eq_true (by first | (with_reducible assumption) | assumption)
        obtain ⟨ad151, A151_3, c151_3, e151, hx151_0, hx151_1, hx151_2, hx151_3, hl151_3, hi151_3⟩ := at_T26 HR0.out 0 p151 q151
        obtain rfl : ad133 = ad151 := (by injection e151)
        have qi151 : (0 < l0.length) = True := eq_true (by omega)
        (try rw [sZ] at hx151_0)
        (try rw [sZ] at hx151_1)
        (try rw [sZ] at hx151_2)
        (try rw [sZ] at hx151_3)
        have HR151_3 := Aside0.mk hi151_3
        have HC151_3 := Aside0.mk hl151_3
        clear hi151_3 hl151_3
        replace p151 := eq_true p151
        replace q151 := eq_true q151
        have ea_ := Option.some.inj (hx149_3.symm.trans hx151_3)
        injection ea_ with ea_ en_ ec_
        subst ea_
        subst ec_
        clear en_
        go_wp2_with (first | (go_at_call 100; (with_reducible refine (spec_IsName.calls kj2 ((rd_T26 l0 0).f2) false _ A45.out).mono ?_); rintro e w' ⟨rfl, ⟨nd, rfl⟩⟩))
        go_ret
        exact ⟨by first | rfl | (simp; done) | (simp [*]; done), by repeat (first | exact Drawn0.refl _ | apply Drawn0.step)⟩
       replace c44 := Bool.eq_false_iff.mpr c44
       subst c44
       rewrite [if_neg (show ¬ (false = true) by decide)] at H
       obtain rfl := Option.some.inj H
       have p149 : 0 ≤ (0 : Int) := (by omega)
       have q149 : 0 < (l0.length : Int) := of_decide_eq_true (by first | (with_reducible assumption) | assumption)
       obtain ⟨ad149, A149_3, c149_3, e149, hx149_0, hx149_1, hx149_2, hx149_3, hl149_3, hi149_3⟩ := at_T26 HR0.out 0 p149 q149
       obtain rfl : ad133 = ad149 := (by injection e149)
       have qi149 : (0 < l0.length) = True := eq_true (by omega)
       (try rw [sZ] at hx149_0)
       (try rw [sZ] at hx149_1)
       (try rw [sZ] at hx149_2)
       (try rw [sZ] at hx149_3)
       have HR149_3 := Aside0.mk hi149_3
       have HC149_3 := Aside0.mk hl149_3
       clear hi149_3 hl149_3
       replace p149 := eq_true p149
       replace q149 := eq_true q149
       have p150 : 0 ≤ (0 : Int) := (by omega)
       have q150 : 0 < (l0.length : Int) := of_decide_eq_true (by first | (with_reducible assumption) | assumption)
       obtain ⟨ad150, A150_3, c150_3, e150, hx150_0, hx150_1, hx150_2, hx150_3, hl150_3, hi150_3⟩ := at_T26 HR0.out 0 p150 q150
       obtain rfl : ad133 = ad150 := (by injection e150)
       have qi150 : (0 < l0.length) = True := eq_true (by omega)
       (try rw [sZ] at hx150_0)
       (try rw [sZ] at hx150_1)
       (try rw [sZ] at hx150_2)
       (try rw [sZ] at hx150_3)
       have HR150_3 := Aside0.mk hi150_3
       have HC150_3 := Aside0.mk hl150_3
       clear hi150_3 hl150_3
       replace p150 := eq_true p150
       replace q150 := eq_true q150
       have ea_ := Option.some.inj (hx149_3.symm.trans hx150_3)
       injection ea_ with ea_ en_ ec_
       subst ea_
       subst ec_
       clear en_
       have p153 : 0 ≤ (0 : Int) := (by omega)
       have q153 : 0 < (l0.length : Int) := of_decide_eq_true (by first | (with_reducible assumption) | assumption)
       obtain ⟨ad153, A153_3, c153_3, e153, hx153_0, hx153_1, hx153_2, hx153_3, hl153_3, hi153_3⟩ := at_T26 HR0.out 0 p153 q153
       obtain rfl : ad133 = ad153 := (by injection e153)
       have qi153 : (0 < l0.length) = True := eq_true (by omega)
       (try rw [sZ] at hx153_0)
       (try rw [sZ] at hx153_1)
       (try rw [sZ] at hx153_2)
       (try rw [sZ] at hx153_3)
       have HR153_3 := Aside0.mk hi153_3
       have HC153_3 := Aside0.mk hl153_3
       clear hi153_3 hl153_3
       replace p153 := eq_true p153
       replace q153 := eq_true q153
       have ea_ := Option.some.inj (hx149_3.symm.trans hx153_3)
       injection ea_ with ea_ en_ ec_
       subst ea_
       subst ec_
       clear en_
       go_wp2
       go_ret
       exact ⟨by first | rfl | (simp; done) | (simp [*]; done), by repeat (first | exact Drawn0.refl _ | apply Drawn0.step)⟩
      rw [if_neg c43] at H
      have c43b0 : ((((rd_T26 l0 0).f3).length : Int) == x3_2) = false := beq_eq_false_iff_ne.mpr c43
      have c43b1 : ((((rd_T26 l0 0).f3).length : Int) != x3_2) = true := bne_iff_ne.mpr c43
      obtain rfl := Option.some.inj H
      have p149 : 0 ≤ (0 : Int) := (by omega)
      have q149 : 0 < (l0.length : Int) := of_decide_eq_true (by first | (with_reducible assumption) | assumption)
      obtain ⟨ad149, A149_3, c149_3, e149, hx149_0, hx149_1, hx149_2, hx149_3, hl149_3, hi149_3⟩ := at_T26 HR0.out 0 p149 q149
      obtain rfl : ad133 = ad149 := (by injection e149)
      have qi149 : (0 < l0.length) = True := eq_true (by omega)
      (try rw [sZ] at hx149_0)
      (try rw [sZ] at hx149_1)
      (try rw [sZ] at hx149_2)
      (try rw [sZ] at hx149_3)
      have HR149_3 := Aside0.mk hi149_3
      have HC149_3 := Aside0.mk hl149_3
      clear hi149_3 hl149_3
      replace p149 := eq_true p149
      replace q149 := eq_true q149
      have p150 : 0 ≤ (0 : Int) := (by omega)
      have q150 : 0 < (l0.length : Int) := of_decide_eq_true (by first | (with_reducible assumption) | assumption)
      obtain ⟨ad150, A150_3, c150_3, e150, hx150_0, hx150_1, hx150_2, hx150_3, hl150_3, hi150_3⟩ := at_T26 HR0.out 0 p150 q150
      obtain rfl : ad133 = ad150 := (by injection e150)
      have qi150 : (0 < l0.length) = True := eq_true (by omega)
      (try rw [sZ] at hx150_0)
      (try rw [sZ] at hx150_1)
      (try rw [sZ] at hx150_2)
      (try rw [sZ] at hx150_3)
      have HR150_3 := Aside0.mk hi150_3
      have HC150_3 := Aside0.mk hl150_3
      clear hi150_3 hl150_3
      replace p150 := eq_true p150
      replace q150 := eq_true q150
      have ea_ := Option.some.inj (hx149_3.symm.trans hx150_3)
      injection ea_ with ea_ en_ ec_
      subst ea_
      subst ec_
      clear en_
      go_wp2
      go_ret
      exact ⟨by first | rfl | (simp; done) | (simp [*]; done), by repeat (first | exact Drawn0.refl _ | apply Drawn0.step)⟩
     rw [if_neg c42] at H
     have c42b0 : (((rd_T26 l0 0).f1) == 0) = false := beq_eq_false_iff_ne.mpr c42
     have c42b1 : (((rd_T26 l0 0).f1) != 0) = true := bne_iff_ne.mpr c42
     obtain rfl := Option.some.inj H
     have p149 : 0 ≤ (0 : Int) := (by omega)
     have q149 : 0 < (l0.length : Int) := of_decide_eq_true (by first | (with_reducible assumption) | assumption)
     obtain ⟨ad149, A149_3, c149_3, e149, hx149_0, hx149_1, hx149_2, hx149_3, hl149_3, hi149_3⟩ := at_T26 HR0.out 0 p149 q149
     obtain rfl : ad133 = ad149 := (by injection e149)
     have qi149 : (0 < l0.length) = True := eq_true (by omega)
     (try rw [sZ] at hx149_0)
     (try rw [sZ] at hx149_1)
     (try rw [sZ] at hx149_2)
     (try rw [sZ] at hx149_3)
     have HR149_3 := Aside0.mk hi149_3
     have HC149_3 := Aside0.mk hl149_3
     clear hi149_3 hl149_3
     replace p149 := eq_true p149
     replace q149 := eq_true q149
     go_wp2
     go_ret
     exact ⟨by first | rfl | (simp; done) | (simp [*]; done), by repeat (first | exact Drawn0.refl _ | apply Drawn0.step)⟩
    rw [if_neg c41] at H
    exact absurd H (by simp)
 rw [if_neg c2] at H
 exact absurd H (by simp)
end Go.Proofs.Ytmebimamjgnlpaa.PFnExactCompileExpr
