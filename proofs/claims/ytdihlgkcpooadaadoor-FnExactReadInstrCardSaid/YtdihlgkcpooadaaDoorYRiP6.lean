/- Printed functions: spec_ValidInstr, spec_InstrText. -/
import Derived.Test.YtdihlgkcpooadaaDoorYRiP0
import Derived.Test.YtdihlgkcpooadaaDoorYRiP1
import Derived.Test.YtdihlgkcpooadaaDoorYRiP2
import Derived.Test.YtdihlgkcpooadaaDoorYRiP3
import Derived.Test.YtdihlgkcpooadaaDoorYRiP4
import Derived.Test.YtdihlgkcpooadaaDoorYRiP5
namespace Go.Proofs.YtdihlgkcpooadaaDoor.PFnExactReadInstr
open Go.RowKit Go.Proofs.YtdihlgkcpooadaaDoorG Go.Proofs.YtdihlgkcpooadaaDoorW.PrintWords Go.Proofs.YtdihlgkcpooadaaDoorW.PrintLast Go.Proofs.YtdihlgkcpooadaaDoorW.PrintMore
attribute [local go_sem] max2_int min2_int max_two min_two max_three min_three max_four min_four   -- for this text's walks alone
set_option linter.unusedVariables false
set_option linter.unusedSimpArgs false
/-! ### spec_ValidInstr: function 23 -/
mutual
def spec_ValidInstr.j0 : Nat → Bool → Bool → Int → Int → ByteArray → Option (Bool)
 | 0, _, _, _, _, _ => none
 | k + 1, x4, x30, x121000, x121001, x121002 => if x30 = true then (some false) else (if x121000 = 1 then (spec_ValidInstr.j1 k x4 x121000 (x121000 == 1) x121000 x121001 x121002) else (spec_ValidInstr.j1 k x4 x121000 (x121000 == 27) x121000 x121001 x121002))
def spec_ValidInstr.j1 : Nat → Bool → Int → Bool → Int → Int → ByteArray → Option (Bool)
 | 0, _, _, _, _, _, _ => none
 | k + 1, x4, x32, x33, x121000, x121001, x121002 => if x33 = true then ((spec_l00In.f x121001 0 79).bind fun t124 => (some t124)) else (if x32 = 2 then ((spec_CanQuote.f k x121002).bind fun t125 => (some t125)) else (if x32 = 3 then ((spec_l00In.f x121001 0 1000000000000).bind fun t126 => (some t126)) else (if x32 = 8 then ((spec_l00In.f x121001 6 11).bind fun t127 => (some t127)) else (if x32 = 11 then ((spec_l00In.f x121001 21 22).bind fun t128 => (if t128 = true then ((spec_IsName.f k x121002).bind fun t129 => (some t129)) else (some false))) else (if x32 = 13 then ((spec_l00In.f x121001 0 6).bind fun t130 => (if t130 = true then ((spec_IsName.f k x121002).bind fun t131 => (some t131)) else (some false))) else (if x32 = 31 then ((spec_l00In.f x121001 1 11).bind fun t132 => (some t132)) else (if x4 = true then ((spec_IsName.f k x121002).bind fun t133 => (some t133)) else (some true))))))))
end
def spec_ValidInstr.f (k : Nat) (a0_0 : Int) (a0_1 : Int) (a0_2 : ByteArray) : Option (Bool) := (spec_l00In.f a0_0 1 31).bind fun t121 => (if t121 = true then ((spec_l24Fields.f k a0_0).bind fun bt122 => (if bt122.1 = true then (if bt122.2 = true then (spec_ValidInstr.j0 k bt122.2 false a0_0 a0_1 a0_2) else (spec_ValidInstr.j0 k bt122.2 (!a0_2.toList.isEmpty) a0_0 a0_1 a0_2)) else (if a0_1 = 0 then (if bt122.2 = true then (spec_ValidInstr.j0 k bt122.2 false a0_0 a0_1 a0_2) else (spec_ValidInstr.j0 k bt122.2 (!a0_2.toList.isEmpty) a0_0 a0_1 a0_2)) else (spec_ValidInstr.j0 k bt122.2 true a0_0 a0_1 a0_2)))) else (some false))
set_option maxHeartbeats 8000000 in
set_option maxRecDepth 100000 in
theorem spec_ValidInstr.calls (k : Nat) (a0_0 : Int) (a0_1 : Int) (a0_2 : ByteArray) (r : Bool) (w : World) (h : spec_ValidInstr.f k a0_0 a0_1 a0_2 = some r) :
  Calls Tryd.prog 23 #[.agg #[.int .i64 a0_0, .int .i64 a0_1, .string a0_2]] w fun e w' => e = .returned (.bool r) ∧ Below w.heap.size w w' := by
 have hu23 := Tryd.underlying23
 have HB := Aside0.mk (Below.refl w.heap.size w)
 have H : ((spec_l00In.f a0_0 1 31).bind fun t121 => (if t121 = true then ((spec_l24Fields.f k a0_0).bind fun bt122 => (if bt122.1 = true then (if bt122.2 = true then (spec_ValidInstr.j0 k bt122.2 false a0_0 a0_1 a0_2) else (spec_ValidInstr.j0 k bt122.2 (!a0_2.toList.isEmpty) a0_0 a0_1 a0_2)) else (if a0_1 = 0 then (if bt122.2 = true then (spec_ValidInstr.j0 k bt122.2 false a0_0 a0_1 a0_2) else (spec_ValidInstr.j0 k bt122.2 (!a0_2.toList.isEmpty) a0_0 a0_1 a0_2)) else (spec_ValidInstr.j0 k bt122.2 true a0_0 a0_1 a0_2)))) else (some false))) = some r := h
 clear h
 obtain ⟨t121, A2, H⟩ := sO H
 by_cases c3 : t121 = true
 ·subst c3
  rewrite [if_pos rfl] at H
  replace H := Option.bind_eq_some_iff.mp H
  obtain ⟨⟨t122, t123⟩, A40, H⟩ := H
  replace H : (if t122 = true then (if t123 = true then (spec_ValidInstr.j0 k t123 false a0_0 a0_1 a0_2) else (spec_ValidInstr.j0 k t123 (!a0_2.toList.isEmpty) a0_0 a0_1 a0_2)) else (if a0_1 = 0 then (if t123 = true then (spec_ValidInstr.j0 k t123 false a0_0 a0_1 a0_2) else (spec_ValidInstr.j0 k t123 (!a0_2.toList.isEmpty) a0_0 a0_1 a0_2)) else (spec_ValidInstr.j0 k t123 true a0_0 a0_1 a0_2))) = some r := H
  have A4 := Aside0.mk A40
  clear A40
  have HC5 := Aside0.mk H
  clear H
  go_enter Tryd.func23, Tryd.ntmps23
  go_upto_region 4 with (first | ((with_reducible refine gate_dst (N := 1) rfl ?_); refine sV (N := 1) (cs := #[.int .i64 a0_0, .int .i64 a0_1, .string a0_2]) (t := 23) ?_; intro gb120 hg w6 hbox hb; have n0_ := sB HB hb; have n1_ := Aside0.mk (hbox); have n2_ := sG HB hg; have n3_ := sG HB hg; clear HB; have HB := n0_; have BK120 := n1_; have GW120 := n2_; have GE120 := n3_; clear n0_ n1_ n2_ n3_; clear hb hbox hg; obtain ⟨hcz7_0, hcz7_1, hcz7_2, hfz7_0, hfz7_1, hfz7_2⟩ := cells3 BK120.out) | ((with_reducible refine gate_callee (f := 33) rfl ?_); refine sC (some 7) Tryd.func33 #[.int .i64 a0_0, .int .i64 1, .int .i64 31] (spec_l00In.calls a0_0 1 31 true _ A2.out) ?_; rintro e w' ⟨rfl, ⟨nd, rfl⟩⟩; refine ⟨_, rfl, ?_⟩) | ((with_reducible refine gate_callee (f := 10) rfl ?_); refine sC (some 12) Tryd.func10 #[.int .i64 a0_0] (spec_l24Fields.calls k a0_0 t122 t123 _ A4.out) ?_; rintro e w' ⟨rfl, ⟨nd, rfl⟩⟩; refine ⟨_, rfl, ?_⟩))
  (try simp only [Act.put, List.setIfInBounds_toArray, List.set_cons_zero, List.set_cons_succ])
  go_cut [30] (fun v30 wc => ∃ (kq : Nat) (x30_4 : Bool), v30 = .bool x30_4 ∧ Aside0 (spec_ValidInstr.j0 kq t123 x30_4 a0_0 a0_1 a0_2 = some r) ∧ Aside0 (kq ≤ k) ∧ Aside0 (wc.heap[gb120]? = some (.cells #[.int .i64 a0_0, .int .i64 a0_1, .string a0_2] 23 (0, 0))) ∧ Aside0 (Below w.heap.size w wc))
  case first =>
   have H := HC5.out
   clear HC5
   by_cases c8 : t122 = true
   ·subst c8
    rewrite [if_pos rfl] at H
    by_cases c9 : t123 = true
    ·subst c9
     rewrite [if_pos rfl] at H
     have H' := Aside0.mk H
     clear H
     go_wp2
     go_meet
     case rel => exact ⟨_, (false), sr, H', ⟨by first | omega | exact Nat.le_refl _⟩, ⟨by exact sT BK120.out⟩, ⟨sb⟩⟩
    replace c9 := Bool.eq_false_iff.mpr c9
    subst c9
    rewrite [if_neg (show ¬ (false = true) by decide)] at H
    have H' := Aside0.mk H
    clear H
    obtain ⟨hcz10_0, hcz10_1, hcz10_2, hfz10_0, hfz10_1, hfz10_2⟩ := cells3 BK120.out
    go_wp2
    go_meet
    case rel => exact ⟨_, ((!a0_2.toList.isEmpty)), sr, H', ⟨by first | omega | exact Nat.le_refl _⟩, ⟨by exact sT BK120.out⟩, ⟨sb⟩⟩
   replace c8 := Bool.eq_false_iff.mpr c8
   subst c8
   rewrite [if_neg (show ¬ (false = true) by decide)] at H
   by_cases c11 : a0_1 = 0
   ·rw [if_pos c11] at H
    have c11b0 : (a0_1 == 0) = true := beq_iff_eq.mpr c11
    have c11b1 : (a0_1 != 0) = false := bne_eq_false_iff_eq.mpr c11
    clear c11
    (first | rw [c11b0] | (simp only [i64_w, i32_w]; rw [c11b0]) | rw [c11b2] | skip)
    by_cases c12 : t123 = true
    ·subst c12
     rewrite [if_pos rfl] at H
     have H' := Aside0.mk H
     clear H
     obtain ⟨hcz13_0, hcz13_1, hcz13_2, hfz13_0, hfz13_1, hfz13_2⟩ := cells3 BK120.out
     go_wp2
     go_meet
     case rel => exact ⟨_, (false), sr, H', ⟨by first | omega | exact Nat.le_refl _⟩, ⟨by exact sT BK120.out⟩, ⟨sb⟩⟩
    replace c12 := Bool.eq_false_iff.mpr c12
    subst c12
    rewrite [if_neg (show ¬ (false = true) by decide)] at H
    have H' := Aside0.mk H
    clear H
    obtain ⟨hcz14_0, hcz14_1, hcz14_2, hfz14_0, hfz14_1, hfz14_2⟩ := cells3 BK120.out
    go_wp2
    go_meet
    case rel => exact ⟨_, ((!a0_2.toList.isEmpty)), sr, H', ⟨by first | omega | exact Nat.le_refl _⟩, ⟨by exact sT BK120.out⟩, ⟨sb⟩⟩
   rw [if_neg c11] at H
   have c11b0 : (a0_1 == 0) = false := beq_eq_false_iff_ne.mpr c11
   have c11b1 : (a0_1 != 0) = true := bne_iff_ne.mpr c11
   (first | rw [c11b0] | (simp only [i64_w, i32_w]; rw [c11b0]) | rw [c11b2] | skip)
   have H' := Aside0.mk H
   clear H
   obtain ⟨hcz15_0, hcz15_1, hcz15_2, hfz15_0, hfz15_1, hfz15_2⟩ := cells3 BK120.out
   go_wp2
   go_meet
   case rel => exact ⟨_, (true), sr, H', ⟨by first | omega | exact Nat.le_refl _⟩, ⟨by exact sT BK120.out⟩, ⟨sb⟩⟩
  case rest =>
   clear HC5
   try clear c1
   try clear c2
   try clear p2
   try clear c3
   try clear c8
   try clear c9
   try clear c10
   try clear c11
   try clear c11b0
   try clear c11b1
   try clear c11b2
   try clear c12
   try clear hcz10_0
   try clear hcz10_1
   try clear hcz10_2
   try clear hcz13_0
   try clear hcz13_1
   try clear hcz13_2
   try clear hcz14_0
   try clear hcz14_1
   try clear hcz14_2
   try clear hcz15_0
   try clear hcz15_1
   try clear hcz15_2
   try clear hcz7_0
   try clear hcz7_1
   try clear hcz7_2
   try clear hfz10_0
   try clear hfz10_1
   try clear hfz10_2
   try clear hfz13_0
   try clear hfz13_1
   try clear hfz13_2
   try clear hfz14_0
   try clear hfz14_1
   try clear hfz14_2
   try clear hfz15_0
   try clear hfz15_1
   try clear hfz15_2
   try clear hfz7_0
   try clear hfz7_1
   try clear hfz7_2
   obtain ⟨kq, x30_4, rfl, HA, HJ4, BK120, HB⟩ := hcut
   cases kq with
   | zero => exact absurd HA.out (by simp [spec_ValidInstr.j0])
   | succ kj4 =>
    have H := HA.out
    clear HA
    simp only [spec_ValidInstr.j0] at H
    by_cases c16 : x30_4 = true
    ·subst c16
     rewrite [if_pos rfl] at H
     obtain rfl := Option.some.inj H
     go_wp2
     go_ret
     exact ⟨sq, sb⟩
    replace c16 := Bool.eq_false_iff.mpr c16
    subst c16
    rewrite [if_neg (show ¬ (false = true) by decide)] at H
    have HC17 := Aside0.mk H
    clear H
    obtain ⟨hcz18_0, hcz18_1, hcz18_2, hfz18_0, hfz18_1, hfz18_2⟩ := cells3 BK120.out
    go_upto_if 33 with (fail)
    go_cut [33] (fun v33 wc => ∃ (kq : Nat) (x33_16 : Bool), v33 = .bool x33_16 ∧ Aside0 (spec_ValidInstr.j1 kq t123 a0_0 x33_16 a0_0 a0_1 a0_2 = some r) ∧ Aside0 (kq ≤ kj4) ∧ Aside0 (wc.heap[gb120]? = some (.cells #[.int .i64 a0_0, .int .i64 a0_1, .string a0_2] 23 (0, 0))) ∧ Aside0 (Below w.heap.size w wc))
    case first =>
     have H := HC17.out
     clear HC17
     by_cases c19 : a0_0 = 1
     ·rw [if_pos c19] at H
      have c19b0 : (a0_0 == 1) = true := beq_iff_eq.mpr c19
      have c19b1 : (a0_0 != 1) = false := bne_eq_false_iff_eq.mpr c19
      clear c19
      (first | rw [c19b0] | (simp only [i64_w, i32_w]; rw [c19b0]) | rw [c19b2] | skip)
      have H' := Aside0.mk H
      clear H
      go_wp2
      go_meet
      case rel => exact ⟨_, ((a0_0 == 1)), sr, H', ⟨by have := HJ4.out; first | omega | exact Nat.le_refl _⟩, ⟨by exact sT BK120.out⟩, ⟨sb⟩⟩
     rw [if_neg c19] at H
     have c19b0 : (a0_0 == 1) = false := beq_eq_false_iff_ne.mpr c19
     have c19b1 : (a0_0 != 1) = true := bne_iff_ne.mpr c19
     (first | rw [c19b0] | (simp only [i64_w, i32_w]; rw [c19b0]) | rw [c19b2] | skip)
     have H' := Aside0.mk H
     clear H
     go_wp2
     go_meet
     case rel => exact ⟨_, ((a0_0 == 27)), sr, H', ⟨by have := HJ4.out; first | omega | exact Nat.le_refl _⟩, ⟨by exact sT BK120.out⟩, ⟨sb⟩⟩
    case rest =>
     clear HC17
     try clear c1
     try clear c2
     try clear p2
     try clear c3
     try clear c8
     try clear c9
     try clear c10
     try clear c11
     try clear c11b0
     try clear c11b1
     try clear c11b2
     try clear c12
     try clear c16
     try clear c19
     try clear c19b0
     try clear c19b1
     try clear c19b2
     try clear hcz10_0
     try clear hcz10_1
     try clear hcz10_2
     try clear hcz13_0
     try clear hcz13_1
     try clear hcz13_2
     try clear hcz14_0
     try clear hcz14_1
     try clear hcz14_2
     try clear hcz15_0
     try clear hcz15_1
     try clear hcz15_2
     try clear hcz18_0
     try clear hcz18_1
     try clear hcz18_2
     try clear hcz7_0
     try clear hcz7_1
     try clear hcz7_2
     try clear hfz10_0
     try clear hfz10_1
     try clear hfz10_2
     try clear hfz13_0
     try clear hfz13_1
     try clear hfz13_2
     try clear hfz14_0
     try clear hfz14_1
     try clear hfz14_2
     try clear hfz15_0
     try clear hfz15_1
     try clear hfz15_2
     try clear hfz18_0
     try clear hfz18_1
     try clear hfz18_2
     try clear hfz7_0
     try clear hfz7_1
     try clear hfz7_2
     try clear p2
     obtain ⟨kq, x33_16, rfl, HA, HJ16, BK120, HB⟩ := hcut
     cases kq with
     | zero => exact absurd HA.out (by simp [spec_ValidInstr.j1])
     | succ kj16 =>
      have H := HA.out
      clear HA
      simp only [spec_ValidInstr.j1] at H
      by_cases c20 : x33_16 = true
      ·subst c20
       rewrite [if_pos rfl] at H
       obtain ⟨t124, A21, H⟩ := sO H
       obtain rfl := Option.some.inj H
       obtain ⟨hcz22_0, hcz22_1, hcz22_2, hfz22_0, hfz22_1, hfz22_2⟩ := cells3 BK120.out
       go_wp2_with (first | ((with_reducible refine gate_callee (f := 33) rfl ?_); refine sC (some 38) Tryd.func33 #[.int .i64 a0_1, .int .i64 0, .int .i64 79] (spec_l00In.calls a0_1 0 79 t124 _ A21.out) ?_; rintro e w' ⟨rfl, ⟨nd, rfl⟩⟩; refine ⟨_, rfl, ?_⟩))
       go_ret
       exact ⟨sq, sb⟩
      replace c20 := Bool.eq_false_iff.mpr c20
      subst c20
      rewrite [if_neg (show ¬ (false = true) by decide)] at H
      by_cases c23 : a0_0 = 2
      ·rw [if_pos c23] at H
       have c23b0 : (a0_0 == 2) = true := beq_iff_eq.mpr c23
       have c23b1 : (a0_0 != 2) = false := bne_eq_false_iff_eq.mpr c23
       clear c23
       obtain ⟨t125, A24, H⟩ := sO H
       obtain rfl := Option.some.inj H
       obtain ⟨hcz25_0, hcz25_1, hcz25_2, hfz25_0, hfz25_1, hfz25_2⟩ := cells3 BK120.out
       go_wp2_with (first | ((with_reducible refine gate_callee (f := 34) rfl ?_); refine sC (some 43) Tryd.func34 #[.string a0_2] (spec_CanQuote.calls kj16 a0_2 t125 _ A24.out) ?_; rintro e w' ⟨rfl, ⟨nd, rfl⟩⟩; refine ⟨_, rfl, ?_⟩))
       go_ret
       exact ⟨sq, sb⟩
      rw [if_neg c23] at H
      have c23b0 : (a0_0 == 2) = false := beq_eq_false_iff_ne.mpr c23
      have c23b1 : (a0_0 != 2) = true := bne_iff_ne.mpr c23
      by_cases c26 : a0_0 = 3
      ·rw [if_pos c26] at H
       have c26b0 : (a0_0 == 3) = true := beq_iff_eq.mpr c26
       have c26b1 : (a0_0 != 3) = false := bne_eq_false_iff_eq.mpr c26
       clear c26
       obtain ⟨t126, A27, H⟩ := sO H
       obtain rfl := Option.some.inj H
       obtain ⟨hcz28_0, hcz28_1, hcz28_2, hfz28_0, hfz28_1, hfz28_2⟩ := cells3 BK120.out
       go_wp2_with (first | ((with_reducible refine gate_callee (f := 33) rfl ?_); refine sC (some 48) Tryd.func33 #[.int .i64 a0_1, .int .i64 0, .int .i64 1000000000000] (spec_l00In.calls a0_1 0 1000000000000 t126 _ A27.out) ?_; rintro e w' ⟨rfl, ⟨nd, rfl⟩⟩; refine ⟨_, rfl, ?_⟩))
       go_ret
       exact ⟨sq, sb⟩
      rw [if_neg c26] at H
      have c26b0 : (a0_0 == 3) = false := beq_eq_false_iff_ne.mpr c26
      have c26b1 : (a0_0 != 3) = true := bne_iff_ne.mpr c26
      by_cases c29 : a0_0 = 8
      ·rw [if_pos c29] at H
       have c29b0 : (a0_0 == 8) = true := beq_iff_eq.mpr c29
       have c29b1 : (a0_0 != 8) = false := bne_eq_false_iff_eq.mpr c29
       clear c29
       obtain ⟨t127, A30, H⟩ := sO H
       obtain rfl := Option.some.inj H
       obtain ⟨hcz31_0, hcz31_1, hcz31_2, hfz31_0, hfz31_1, hfz31_2⟩ := cells3 BK120.out
       go_wp2_with (first | ((with_reducible refine gate_callee (f := 33) rfl ?_); refine sC (some 53) Tryd.func33 #[.int .i64 a0_1, .int .i64 6, .int .i64 11] (spec_l00In.calls a0_1 6 11 t127 _ A30.out) ?_; rintro e w' ⟨rfl, ⟨nd, rfl⟩⟩; refine ⟨_, rfl, ?_⟩))
       go_ret
       exact ⟨sq, sb⟩
      rw [if_neg c29] at H
      have c29b0 : (a0_0 == 8) = false := beq_eq_false_iff_ne.mpr c29
      have c29b1 : (a0_0 != 8) = true := bne_iff_ne.mpr c29
      by_cases c32 : a0_0 = 11
      ·rw [if_pos c32] at H
       have c32b0 : (a0_0 == 11) = true := beq_iff_eq.mpr c32
       have c32b1 : (a0_0 != 11) = false := bne_eq_false_iff_eq.mpr c32
       clear c32
       obtain ⟨t128, A33, H⟩ := sO H
       by_cases c34 : t128 = true
       ·subst c34
        rewrite [if_pos rfl] at H
        obtain ⟨t129, A35, H⟩ := sO H
        obtain rfl := Option.some.inj H
        obtain ⟨hcz36_0, hcz36_1, hcz36_2, hfz36_0, hfz36_1, hfz36_2⟩ := cells3 BK120.out
        go_wp2_with (first | ((with_reducible refine gate_callee (f := 33) rfl ?_); refine sC (some 58) Tryd.func33 #[.int .i64 a0_1, .int .i64 21, .int .i64 22] (spec_l00In.calls a0_1 21 22 true _ A33.out) ?_; rintro e w' ⟨rfl, ⟨nd, rfl⟩⟩; refine ⟨_, rfl, ?_⟩) | (go_at_call 35; (with_reducible refine (spec_IsName.calls kj16 a0_2 t129 _ A35.out).mono ?_); rintro e w' ⟨rfl, ⟨nd, rfl⟩⟩))
        go_ret
        exact ⟨sq, sb⟩
       replace c34 := Bool.eq_false_iff.mpr c34
       subst c34
       rewrite [if_neg (show ¬ (false = true) by decide)] at H
       obtain rfl := Option.some.inj H
       obtain ⟨hcz37_0, hcz37_1, hcz37_2, hfz37_0, hfz37_1, hfz37_2⟩ := cells3 BK120.out
       go_wp2_with (first | ((with_reducible refine gate_callee (f := 33) rfl ?_); refine sC (some 58) Tryd.func33 #[.int .i64 a0_1, .int .i64 21, .int .i64 22] (spec_l00In.calls a0_1 21 22 false _ A33.out) ?_; rintro e w' ⟨rfl, ⟨nd, rfl⟩⟩; refine ⟨_, rfl, ?_⟩))
       go_ret
       exact ⟨sq, sb⟩
      rw [if_neg c32] at H
      have c32b0 : (a0_0 == 11) = false := beq_eq_false_iff_ne.mpr c32
      have c32b1 : (a0_0 != 11) = true := bne_iff_ne.mpr c32
      by_cases c38 : a0_0 = 13
      ·rw [if_pos c38] at H
       have c38b0 : (a0_0 == 13) = true := beq_iff_eq.mpr c38
       have c38b1 : (a0_0 != 13) = false := bne_eq_false_iff_eq.mpr c38
       clear c38
       obtain ⟨t130, A39, H⟩ := sO H
       by_cases c40 : t130 = true
       ·subst c40
        rewrite [if_pos rfl] at H
        obtain ⟨t131, A41, H⟩ := sO H
        obtain rfl := Option.some.inj H
        obtain ⟨hcz42_0, hcz42_1, hcz42_2, hfz42_0, hfz42_1, hfz42_2⟩ := cells3 BK120.out
        go_wp2_with (first | ((with_reducible refine gate_callee (f := 33) rfl ?_); refine sC (some 68) Tryd.func33 #[.int .i64 a0_1, .int .i64 0, .int .i64 6] (spec_l00In.calls a0_1 0 6 true _ A39.out) ?_; rintro e w' ⟨rfl, ⟨nd, rfl⟩⟩; refine ⟨_, rfl, ?_⟩) | (go_at_call 35; (with_reducible refine (spec_IsName.calls kj16 a0_2 t131 _ A41.out).mono ?_); rintro e w' ⟨rfl, ⟨nd, rfl⟩⟩))
        go_ret
        exact ⟨sq, sb⟩
       replace c40 := Bool.eq_false_iff.mpr c40
       subst c40
       rewrite [if_neg (show ¬ (false = true) by decide)] at H
       obtain rfl := Option.some.inj H
       obtain ⟨hcz43_0, hcz43_1, hcz43_2, hfz43_0, hfz43_1, hfz43_2⟩ := cells3 BK120.out
       go_wp2_with (first | ((with_reducible refine gate_callee (f := 33) rfl ?_); refine sC (some 68) Tryd.func33 #[.int .i64 a0_1, .int .i64 0, .int .i64 6] (spec_l00In.calls a0_1 0 6 false _ A39.out) ?_; rintro e w' ⟨rfl, ⟨nd, rfl⟩⟩; refine ⟨_, rfl, ?_⟩))
       go_ret
       exact ⟨sq, sb⟩
      rw [if_neg c38] at H
      have c38b0 : (a0_0 == 13) = false := beq_eq_false_iff_ne.mpr c38
      have c38b1 : (a0_0 != 13) = true := bne_iff_ne.mpr c38
      by_cases c44 : a0_0 = 31
      ·rw [if_pos c44] at H
       have c44b0 : (a0_0 == 31) = true := beq_iff_eq.mpr c44
       have c44b1 : (a0_0 != 31) = false := bne_eq_false_iff_eq.mpr c44
       clear c44
       obtain ⟨t132, A45, H⟩ := sO H
       obtain rfl := Option.some.inj H
       obtain ⟨hcz46_0, hcz46_1, hcz46_2, hfz46_0, hfz46_1, hfz46_2⟩ := cells3 BK120.out
       go_wp2_with (first | ((with_reducible refine gate_callee (f := 33) rfl ?_); refine sC (some 78) Tryd.func33 #[.int .i64 a0_1, .int .i64 1, .int .i64 11] (spec_l00In.calls a0_1 1 11 t132 _ A45.out) ?_; rintro e w' ⟨rfl, ⟨nd, rfl⟩⟩; refine ⟨_, rfl, ?_⟩))
       go_ret
       exact ⟨sq, sb⟩
      rw [if_neg c44] at H
      have c44b0 : (a0_0 == 31) = false := beq_eq_false_iff_ne.mpr c44
      have c44b1 : (a0_0 != 31) = true := bne_iff_ne.mpr c44
      by_cases c47 : t123 = true
      ·subst c47
       rewrite [if_pos rfl] at H
       obtain ⟨t133, A48, H⟩ := sO H
       obtain rfl := Option.some.inj H
       obtain ⟨hcz49_0, hcz49_1, hcz49_2, hfz49_0, hfz49_1, hfz49_2⟩ := cells3 BK120.out
       go_wp2_with (first | (go_at_call 35; (with_reducible refine (spec_IsName.calls kj16 a0_2 t133 _ A48.out).mono ?_); rintro e w' ⟨rfl, ⟨nd, rfl⟩⟩))
       go_ret
       exact ⟨sq, sb⟩
      replace c47 := Bool.eq_false_iff.mpr c47
      subst c47
      rewrite [if_neg (show ¬ (false = true) by decide)] at H
      obtain rfl := Option.some.inj H
      go_wp2
      go_ret
      exact ⟨sq, sb⟩
 replace c3 := Bool.eq_false_iff.mpr c3
 subst c3
 rewrite [if_neg (show ¬ (false = true) by decide)] at H
 obtain rfl := Option.some.inj H
 go_enter Tryd.func23, Tryd.ntmps23
 go_wp2_with (first | ((with_reducible refine gate_dst (N := 1) rfl ?_); refine sV (N := 1) (cs := #[.int .i64 a0_0, .int .i64 a0_1, .string a0_2]) (t := 23) ?_; intro gb120 hg w50 hbox hb; have n0_ := sB HB hb; have n1_ := Aside0.mk (hbox); have n2_ := sG HB hg; have n3_ := sG HB hg; clear HB; have HB := n0_; have BK120 := n1_; have GW120 := n2_; have GE120 := n3_; clear n0_ n1_ n2_ n3_; clear hb hbox hg; obtain ⟨hcz51_0, hcz51_1, hcz51_2, hfz51_0, hfz51_1, hfz51_2⟩ := cells3 BK120.out) | ((with_reducible refine gate_callee (f := 33) rfl ?_); refine sC (some 7) Tryd.func33 #[.int .i64 a0_0, .int .i64 1, .int .i64 31] (spec_l00In.calls a0_0 1 31 false _ A2.out) ?_; rintro e w' ⟨rfl, ⟨nd, rfl⟩⟩; refine ⟨_, rfl, ?_⟩))
 go_ret
 exact ⟨sq, sb⟩

/-! ### spec_InstrText: function 12 -/
def spec_InstrText.j0 : Nat → Bool → ByteArray → Int → Int → ByteArray → Option (ByteArray)
 | 0, _, _, _, _, _ => none
 | k + 1, x4, x5, x137000, x137001, x137002 => if x137000 = 2 then (if x5.size + 1 ≤ 9223372036854775807 then ((spec_QuoteString.f k x137002).bind fun t145 => (if x5.size + 1 + t145.size ≤ 9223372036854775807 then (some ((x5 ++ (⟨#[32]⟩ : ByteArray)) ++ t145)) else (none))) else (none)) else (if x4 = true then (if 1 + x137002.size ≤ 9223372036854775807 then (if x5.size + (1 + x137002.size) ≤ 9223372036854775807 then (some (x5 ++ ((⟨#[32]⟩ : ByteArray) ++ x137002))) else (none)) else (none)) else (some x5))
def spec_InstrText.f (k : Nat) (a0_0 : Int) (a0_1 : Int) (a0_2 : ByteArray) : Option (ByteArray) := (spec_ValidInstr.f k a0_0 a0_1 a0_2).bind fun t137 => (if t137 = true then ((spec_l24Fields.f k a0_0).bind fun bt138 => ((spec_l24Words.f).bind fun t140 => (if 0 ≤ a0_0 then (if a0_0 < (t140.length : Int) then (if bt138.1 = true then ((spec_l06Digits.f k a0_1).bind fun t144 => (if 1 + t144.size ≤ 9223372036854775807 then (if (rdOf ByteArray.empty t140 a0_0).size + (1 + t144.size) ≤ 9223372036854775807 then (spec_InstrText.j0 k bt138.2 ((rdOf ByteArray.empty t140 a0_0) ++ ((⟨#[32]⟩ : ByteArray) ++ t144)) a0_0 a0_1 a0_2) else (none)) else (none))) else (spec_InstrText.j0 k bt138.2 (rdOf ByteArray.empty t140 a0_0) a0_0 a0_1 a0_2)) else (none)) else (none)))) else (some (⟨#[]⟩ : ByteArray)))
set_option maxHeartbeats 8000000 in
set_option maxRecDepth 100000 in
theorem spec_InstrText.calls (k : Nat) (a0_0 : Int) (a0_1 : Int) (a0_2 : ByteArray) (r : ByteArray) (w : World) (h : spec_InstrText.f k a0_0 a0_1 a0_2 = some r) :
  Calls Tryd.prog 12 #[.agg #[.int .i64 a0_0, .int .i64 a0_1, .string a0_2]] w fun e w' => e = .returned (.string r) ∧ Below w.heap.size w w' := by
 have hu23 := Tryd.underlying23
 have HB := Aside0.mk (Below.refl w.heap.size w)
 have H : ((spec_ValidInstr.f k a0_0 a0_1 a0_2).bind fun t137 => (if t137 = true then ((spec_l24Fields.f k a0_0).bind fun bt138 => ((spec_l24Words.f).bind fun t140 => (if 0 ≤ a0_0 then (if a0_0 < (t140.length : Int) then (if bt138.1 = true then ((spec_l06Digits.f k a0_1).bind fun t144 => (if 1 + t144.size ≤ 9223372036854775807 then (if (rdOf ByteArray.empty t140 a0_0).size + (1 + t144.size) ≤ 9223372036854775807 then (spec_InstrText.j0 k bt138.2 ((rdOf ByteArray.empty t140 a0_0) ++ ((⟨#[32]⟩ : ByteArray) ++ t144)) a0_0 a0_1 a0_2) else (none)) else (none))) else (spec_InstrText.j0 k bt138.2 (rdOf ByteArray.empty t140 a0_0) a0_0 a0_1 a0_2)) else (none)) else (none)))) else (some (⟨#[]⟩ : ByteArray)))) = some r := h
 clear h
 obtain ⟨t137, A2, H⟩ := sO H
 by_cases c3 : t137 = true
 ·subst c3
  rewrite [if_pos rfl] at H
  replace H := Option.bind_eq_some_iff.mp H
  obtain ⟨⟨t138, t139⟩, A40, H⟩ := H
  replace H : ((spec_l24Words.f).bind fun t140 => (if 0 ≤ a0_0 then (if a0_0 < (t140.length : Int) then (if t138 = true then ((spec_l06Digits.f k a0_1).bind fun t144 => (if 1 + t144.size ≤ 9223372036854775807 then (if (rdOf ByteArray.empty t140 a0_0).size + (1 + t144.size) ≤ 9223372036854775807 then (spec_InstrText.j0 k t139 ((rdOf ByteArray.empty t140 a0_0) ++ ((⟨#[32]⟩ : ByteArray) ++ t144)) a0_0 a0_1 a0_2) else (none)) else (none))) else (spec_InstrText.j0 k t139 (rdOf ByteArray.empty t140 a0_0) a0_0 a0_1 a0_2)) else (none)) else (none))) = some r := H
  have A4 := Aside0.mk A40
  clear A40
  obtain ⟨t140, A5, H⟩ := sO H
  by_cases c6 : 0 ≤ a0_0
  ·rw [if_pos c6] at H
   have c6b0 := decide_eq_true c6
   clear c6
   by_cases c7 : a0_0 < (t140.length : Int)
   ·rw [if_pos c7] at H
    have c7b0 := decide_eq_true c7
    clear c7
    have HC8 := Aside0.mk H
    clear H
    go_enter Tryd.func12, Tryd.ntmps12
    try go_wp2_with (first | ((with_reducible refine gate_dst (N := 1) rfl ?_); refine sV (N := 1) (cs := #[.int .i64 a0_0, .int .i64 a0_1, .string a0_2]) (t := 23) ?_; intro gb136 hg w9 hbox hb; have n0_ := sB HB hb; have n1_ := Aside0.mk (hbox); have n2_ := sG HB hg; have n3_ := sG HB hg; clear HB; have HB := n0_; have BK136 := n1_; have GW136 := n2_; have GE136 := n3_; clear n0_ n1_ n2_ n3_; clear hb hbox hg; obtain ⟨hcz10_0, hcz10_1, hcz10_2, hfz10_0, hfz10_1, hfz10_2⟩ := cells3 BK136.out) | ((with_reducible refine gate_callee (f := 23) rfl ?_); refine sC (some 7) Tryd.func23 #[.agg #[.int .i64 a0_0, .int .i64 a0_1, .string a0_2]] (spec_ValidInstr.calls k a0_0 a0_1 a0_2 true _ A2.out) ?_; rintro e w11 ⟨rfl, hb⟩; refine ⟨_, rfl, ?_⟩; have n0_ := sK BK136 hb; have n1_ := sB HB hb; clear BK136; clear HB; have BK136 := n0_; have HB := n1_; clear n0_ n1_; (try clear hb); (try clear hb2); (try clear hk); (try clear hi); obtain ⟨hcz12_0, hcz12_1, hcz12_2, hfz12_0, hfz12_1, hfz12_2⟩ := cells3 BK136.out) | ((with_reducible refine gate_callee (f := 10) rfl ?_); refine sC (some 12) Tryd.func10 #[.int .i64 a0_0] (spec_l24Fields.calls k a0_0 t138 t139 _ A4.out) ?_; rintro e w' ⟨rfl, ⟨nd, rfl⟩⟩; refine ⟨_, rfl, ?_⟩))
    (try (rw [drewN_self w11]; generalize hq_ : World.drewN w11 _ = w11; have n0_ : Aside0 (w11.heap[gb136]? = some (.cells #[.int .i64 a0_0, .int .i64 a0_1, .string a0_2] 23 (0, 0))) := ⟨by rw [← hq_]; exact (sT BK136.out)⟩; have n1_ : Aside0 (Below w.heap.size w w11) := ⟨by rw [← hq_]; exact (by repeat (first | (with_reducible first | exact HB.out | apply below_alloc | apply pw_below_drewN | apply below_drew1 | refine below_set ?_ GE136.out) | exact HB.out))⟩; clear BK136 HB hq_; have BK136 := n0_; have HB := n1_; clear n0_ n1_)); obtain ⟨hrz136_0, hrz136_1, hrz136_2, hrf136_0, hrf136_1, hrf136_2⟩ := cells3 BK136.out
    have n0_ := Aside0.mk (blk_drew BK136.out)
    have n1_ := Aside0.mk (below_drew1 HB.out)
    clear BK136
    clear HB
    have BK136 := n0_
    have HB := n1_
    clear n0_ n1_
    refine start_ (n := 6) (S := fun w' => w'.cell? ⟨gb136, 0, none⟩ = some (.int .i64 a0_0) ∧ w'.cell? ⟨gb136, 1, none⟩ = some (.int .i64 a0_1) ∧ w'.cell? ⟨gb136, 2, none⟩ = some (.string a0_2)) (ds := [4]) #[false, false, false, false, false, false] (by kernel_rfl) rfl rfl ⟨(blk_cell BK136.out 0).trans rfl, (blk_cell BK136.out 1).trans rfl, (blk_cell BK136.out 2).trans rfl⟩ (fun hHeld => ?_)
    generalize w11.drew = w13 at BK136 HB hHeld ⊢
    refine pure_ (i := 1) (N := some 16) (v := ?_) (a' := ?_) #[false, true, false, false, false, false] rfl rfl (by kernel_rfl) (fun _ _ _ h => h) (Or.inl ⟨by rfl, ?_⟩) ?_ ?_
    rotate_left
    ·intro w'
     go_simp
     with_reducible rfl
    rotate_left
    ·simp only [Act.put, List.setIfInBounds_toArray, List.set_cons_zero, List.set_cons_succ, i64_w, i32_w]
     rfl
    refine take_ (i := 2) (N := some 17) (v := ?_) (a' := ?_) #[false, true, true, false, false, false] rfl rfl (by kernel_rfl) (fun _ _ _ h => h) (Or.inl ⟨by rfl, ?_⟩) hHeld ?_ ?_
    rotate_left
    ·rintro w' ⟨s0, s1, s2⟩
     go_simp
     with_reducible rfl
    rotate_left
    ·simp only [Act.put, List.setIfInBounds_toArray, List.set_cons_zero, List.set_cons_succ, i64_w, i32_w]
     rfl
    refine one_ (i := 0) (N := some 15) #[true, true, true, false, false, false] rfl rfl (by kernel_rfl) (by decide) (fun K hK => ?_)
    refine goes_ Tryd.func9 (by kernel_rfl) rfl #[] (by rfl) rfl rfl (by (try simp only [List.map_toArray, List.map_cons, List.map_nil]); first | done | rfl | (simp only [List.length_drop, List.length_take]; rfl)) ?_
    with_reducible refine (spec_l24Words.calls  t140 _ A5.out).mono ?_
    rintro e w14 ⟨v141, rfl, ho0, hb⟩
    refine ⟨_, rfl, ?_⟩
    have n0_ := Aside0.mk (Kd.R_lower ho0 (below_size (by repeat (first | (with_reducible first | exact HB.out | apply below_alloc | apply pw_below_drewN | apply below_drew1 | refine below_set ?_ GE136.out) | exact HB.out))))
    have n1_ := sK BK136 hb
    have n2_ := sB HB hb
    clear BK136
    clear HB
    have HO142 := n0_
    have BK136 := n1_
    have HB := n2_
    clear n0_ n1_ n2_
    (try clear hb)
    (try clear hb2)
    (try clear hk)
    (try clear hi)
    (try clear ho0)
    obtain ⟨Ao15, co15, eo15⟩ := Kd.R_slice HO142.out
    (first | subst eo15 | (injection eo15 with f1_ f2_ f3_; have f4_ := f1_.symm; have f5_ := f3_.symm; clear f1_ f2_ f3_; subst f4_; subst f5_))
    have p143 : 0 ≤ (a0_0 : Int) := of_decide_eq_true (by first | (with_reducible assumption) | assumption)
    have q143 : a0_0 < (t140.length : Int) := of_decide_eq_true (by first | (with_reducible assumption) | assumption)
    obtain ⟨ad143, e143, hx143_0⟩ := Kd.at_string (Kd.R_reads' HO142.out).2.2 a0_0 p143 q143
    cases e143
    replace p143 := eq_true p143
    replace q143 := eq_true q143
    refine hK.out _ _ ⟨(blk_cell BK136.out 0).trans rfl, (blk_cell BK136.out 1).trans rfl, (blk_cell BK136.out 2).trans rfl⟩ (fun hHeld => ?_)
    clear hK K
    refine norm_ (a' := ?_) ?_ ?_
    rotate_left
    ·show Act.put _ (some 15) _ = _
     simp only [Act.put, List.setIfInBounds_toArray, List.set_cons_zero, List.set_cons_succ, i64_w, i32_w]
     rfl
    refine pure_ (i := 3) (N := some 18) (v := ?_) (a' := ?_) #[true, true, true, true, false, false] rfl rfl (by kernel_rfl) (fun _ _ _ h => h) (Or.inl ⟨by rfl, ?_⟩) ?_ ?_
    rotate_left
    ·intro w'
     go_simp
     with_reducible rfl
    rotate_left
    ·simp only [Act.put, List.setIfInBounds_toArray, List.set_cons_zero, List.set_cons_succ, i64_w, i32_w]
     rfl
    refine last_ (i := 4) (N := some 19) #[true, true, true, true, true, false] rfl rfl (by kernel_rfl) (by decide) (fun K hK => ?_)
    refine value_ (w1 := ?_) (v := ?_) (by rfl) rfl ?_ ?_
    rotate_left 2
    ·go_simp
     constructor
     ·rfl
     ·rfl
    refine hK.out _ _ ?_
    clear hK K
    refine norm_ (a' := ?_) ?_ ?_
    rotate_left
    ·show Act.put _ (some 19) _ = _
     simp only [Act.put, List.setIfInBounds_toArray, List.set_cons_zero, List.set_cons_succ, i64_w, i32_w]
     rfl
    refine pure_ (i := 5) (N := some 5) (v := ?_) (a' := ?_) #[true, true, true, true, true, true] rfl rfl (by kernel_rfl) (fun _ _ _ h => h) (Or.inl ⟨by rfl, ?_⟩) ?_ ?_
    rotate_left
    ·intro w'
     go_simp
     with_reducible rfl
    rotate_left
    ·simp only [Act.put, List.setIfInBounds_toArray, List.set_cons_zero, List.set_cons_succ, i64_w, i32_w]
     rfl
    refine done_ (by kernel_rfl) ?_
    go_upto_if 20 with (fail)
    go_cut [5] (fun v5 wc => ∃ (kq : Nat) (x5_7 : ByteArray), v5 = .string x5_7 ∧ Aside0 (spec_InstrText.j0 kq t139 x5_7 a0_0 a0_1 a0_2 = some r) ∧ Aside0 (kq ≤ k) ∧ Aside0 (wc.heap[gb136]? = some (.cells #[.int .i64 a0_0, .int .i64 a0_1, .string a0_2] 23 (0, 0))) ∧ Aside0 (Below w.heap.size w wc))
    case first =>
     have H := HC8.out
     clear HC8
     by_cases c16 : t138 = true
     ·subst c16
      rewrite [if_pos rfl] at H
      obtain ⟨t144, A17, H⟩ := sO H
      by_cases c18 : 1 + t144.size ≤ 9223372036854775807
      ·rw [if_pos c18] at H
       have c18b0 := eq_true c18
       have c18b1 := decide_eq_true c18
       try have c18b2 : (9223372036854775807 < 1 + t144.size) = False := eq_false (Nat.not_lt.2 c18)
       by_cases c19 : (rdOf ByteArray.empty t140 a0_0).size + (1 + t144.size) ≤ 9223372036854775807
       ·rw [if_pos c19] at H
        have c19b0 := eq_true c19
        have c19b1 := decide_eq_true c19
        try have c19b2 : (9223372036854775807 < (rdOf ByteArray.empty t140 a0_0).size + (1 + t144.size)) = False := eq_false (Nat.not_lt.2 c19)
        have H' := Aside0.mk H
        clear H
        obtain ⟨hcz20_0, hcz20_1, hcz20_2, hfz20_0, hfz20_1, hfz20_2⟩ := cells3 BK136.out
        go_wp2_with (first | ((with_reducible refine gate_callee (f := 22) rfl ?_); refine sC (some 24) Tryd.func22 #[.int .i64 a0_1] (spec_l06Digits.calls k a0_1 t144 _ A17.out) ?_; rintro e w21 ⟨rfl, hb⟩; refine ⟨_, rfl, ?_⟩; have n0_ := Aside0.mk (Kd.R_below (sE HO142.out) hb); have n1_ := sK BK136 hb; have n2_ := sB HB hb; clear HO142; clear BK136; clear HB; have HO142 := n0_; have BK136 := n1_; have HB := n2_; clear n0_ n1_ n2_; (try clear hb); (try clear hb2); (try clear hk); (try clear hi)))
        go_meet
        case rel => exact ⟨_, ((rdOf ByteArray.empty t140 a0_0) ++ ((⟨#[32]⟩ : ByteArray) ++ t144)), sr, H', ⟨by first | omega | exact Nat.le_refl _⟩, ⟨by exact sT BK136.out⟩, ⟨sb⟩⟩
       rw [if_neg c19] at H
       exact absurd H (by simp)
      rw [if_neg c18] at H
      exact absurd H (by simp)
     replace c16 := Bool.eq_false_iff.mpr c16
     subst c16
     rewrite [if_neg (show ¬ (false = true) by decide)] at H
     have H' := Aside0.mk H
     clear H
     go_wp2
     go_meet
     case rel => exact ⟨_, (rdOf ByteArray.empty t140 a0_0), sr, H', ⟨by first | omega | exact Nat.le_refl _⟩, ⟨by exact sT BK136.out⟩, ⟨sb⟩⟩
    case rest =>
     clear HC8
     try clear c1
     try clear p1
     try clear q1
     try clear hx1
     try clear c2
     try clear p2
     try clear c3
     try clear c6
     try clear c6b0
     try clear c7
     try clear c7b0
     try clear c9
     try clear c10
     try clear c12
     try clear p14
     try clear q14
     try clear hx14
     try clear c16
     try clear c18
     try clear c18b0
     try clear c18b1
     try clear c18b2
     try clear c19
     try clear c19b0
     try clear c19b1
     try clear c19b2
     try clear hcz10_0
     try clear hcz10_1
     try clear hcz10_2
     try clear hcz12_0
     try clear hcz12_1
     try clear hcz12_2
     try clear hcz20_0
     try clear hcz20_1
     try clear hcz20_2
     try clear hfz10_0
     try clear hfz10_1
     try clear hfz10_2
     try clear hfz12_0
     try clear hfz12_1
     try clear hfz12_2
     try clear hfz20_0
     try clear hfz20_1
     try clear hfz20_2
     try clear hx143_0
     try clear p143
     try clear q143
     obtain ⟨kq, x5_7, rfl, HA, HJ7, BK136, HB⟩ := hcut
     cases kq with
     | zero => exact absurd HA.out (by simp [spec_InstrText.j0])
     | succ kj7 =>
      have H := HA.out
      clear HA
      simp only [spec_InstrText.j0] at H
      by_cases c22 : a0_0 = 2
      ·rw [if_pos c22] at H
       have c22b0 : (a0_0 == 2) = true := beq_iff_eq.mpr c22
       have c22b1 : (a0_0 != 2) = false := bne_eq_false_iff_eq.mpr c22
       clear c22
       by_cases c23 : x5_7.size + 1 ≤ 9223372036854775807
       ·rw [if_pos c23] at H
        have c23b0 := eq_true c23
        have c23b1 := decide_eq_true c23
        try have c23b2 : (9223372036854775807 < x5_7.size + 1) = False := eq_false (Nat.not_lt.2 c23)
        obtain ⟨t145, A24, H⟩ := sO H
        by_cases c25 : x5_7.size + 1 + t145.size ≤ 9223372036854775807
        ·rw [if_pos c25] at H
         have c25b0 := eq_true c25
         have c25b1 := decide_eq_true c25
         try have c25b2 : (9223372036854775807 < x5_7.size + 1 + t145.size) = False := eq_false (Nat.not_lt.2 c25)
         obtain rfl := Option.some.inj H
         obtain ⟨hcz26_0, hcz26_1, hcz26_2, hfz26_0, hfz26_1, hfz26_2⟩ := cells3 BK136.out
         go_wp2_with (first | ((with_reducible refine gate_callee (f := 24) rfl ?_); refine sC (some 34) Tryd.func24 #[.string a0_2] (spec_QuoteString.calls kj7 a0_2 t145 _ A24.out) ?_; rintro e w' ⟨rfl, ⟨nd, rfl⟩⟩; refine ⟨_, rfl, ?_⟩))
         go_ret
         exact ⟨sq, sb⟩
        rw [if_neg c25] at H
        exact absurd H (by simp)
       rw [if_neg c23] at H
       exact absurd H (by simp)
      rw [if_neg c22] at H
      have c22b0 : (a0_0 == 2) = false := beq_eq_false_iff_ne.mpr c22
      have c22b1 : (a0_0 != 2) = true := bne_iff_ne.mpr c22
      by_cases c27 : t139 = true
      ·subst c27
       rewrite [if_pos rfl] at H
       by_cases c28 : 1 + a0_2.size ≤ 9223372036854775807
       ·rw [if_pos c28] at H
        have c28b0 := eq_true c28
        have c28b1 := decide_eq_true c28
        try have c28b2 : (9223372036854775807 < 1 + a0_2.size) = False := eq_false (Nat.not_lt.2 c28)
        by_cases c29 : x5_7.size + (1 + a0_2.size) ≤ 9223372036854775807
        ·rw [if_pos c29] at H
         have c29b0 := eq_true c29
         have c29b1 := decide_eq_true c29
         try have c29b2 : (9223372036854775807 < x5_7.size + (1 + a0_2.size)) = False := eq_false (Nat.not_lt.2 c29)
         obtain rfl := Option.some.inj H
         obtain ⟨hcz30_0, hcz30_1, hcz30_2, hfz30_0, hfz30_1, hfz30_2⟩ := cells3 BK136.out
         go_wp2
         go_ret
         exact ⟨sq, sb⟩
        rw [if_neg c29] at H
        exact absurd H (by simp)
       rw [if_neg c28] at H
       exact absurd H (by simp)
      replace c27 := Bool.eq_false_iff.mpr c27
      subst c27
      rewrite [if_neg (show ¬ (false = true) by decide)] at H
      obtain rfl := Option.some.inj H
      obtain ⟨hcz31_0, hcz31_1, hcz31_2, hfz31_0, hfz31_1, hfz31_2⟩ := cells3 BK136.out
      go_wp2
      go_ret
      exact ⟨sq, sb⟩
   rw [if_neg c7] at H
   exact absurd H (by simp)
  rw [if_neg c6] at H
  exact absurd H (by simp)
 replace c3 := Bool.eq_false_iff.mpr c3
 subst c3
 rewrite [if_neg (show ¬ (false = true) by decide)] at H
 obtain rfl := Option.some.inj H
 go_enter Tryd.func12, Tryd.ntmps12
 go_wp2_with (first | ((with_reducible refine gate_dst (N := 1) rfl ?_); refine sV (N := 1) (cs := #[.int .i64 a0_0, .int .i64 a0_1, .string a0_2]) (t := 23) ?_; intro gb136 hg w32 hbox hb; have n0_ := sB HB hb; have n1_ := Aside0.mk (hbox); have n2_ := sG HB hg; have n3_ := sG HB hg; clear HB; have HB := n0_; have BK136 := n1_; have GW136 := n2_; have GE136 := n3_; clear n0_ n1_ n2_ n3_; clear hb hbox hg; obtain ⟨hcz33_0, hcz33_1, hcz33_2, hfz33_0, hfz33_1, hfz33_2⟩ := cells3 BK136.out) | ((with_reducible refine gate_callee (f := 23) rfl ?_); refine sC (some 7) Tryd.func23 #[.agg #[.int .i64 a0_0, .int .i64 a0_1, .string a0_2]] (spec_ValidInstr.calls k a0_0 a0_1 a0_2 false _ A2.out) ?_; rintro e w34 ⟨rfl, hb⟩; refine ⟨_, rfl, ?_⟩; have n0_ := sK BK136 hb; have n1_ := sB HB hb; clear BK136; clear HB; have BK136 := n0_; have HB := n1_; clear n0_ n1_; (try clear hb); (try clear hb2); (try clear hk); (try clear hi)))
 go_ret
 exact ⟨sq, sb⟩
end Go.Proofs.YtdihlgkcpooadaaDoor.PFnExactReadInstr
