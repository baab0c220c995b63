/- Printed functions: spec_l07Object. -/
import Derived.Test.YtnjkhdhaiicefaaYGfP0
import Derived.Test.YtnjkhdhaiicefaaYGfPE
import Derived.Test.YtnjkhdhaiicefaaYGfP4
import Derived.Test.YtnjkhdhaiicefaaYGfP5
import Derived.Test.YtnjkhdhaiicefaaYGfP6
import Derived.Test.YtnjkhdhaiicefaaYGfP7
namespace Go.Proofs.Ytnjkhdhaiicefaa.PFnExactGetField
open Go.RowKit Go.Proofs.YtnjkhdhaiicefaaG Go.Proofs.YtnjkhdhaiicefaaW.PrintWords Go.Proofs.YtnjkhdhaiicefaaW.PrintLast Go.Proofs.YtnjkhdhaiicefaaW.PrintMore
attribute [local go_sem] max2_int min2_int max_two min_two max_three min_three max_four min_four   -- for this text's walks alone
set_option linter.unusedVariables false
set_option linter.unusedSimpArgs false
section
attribute [local go_sem high] eqA29
/-! ### spec_l07Object: function 81 -/
def spec_l07Object.j0 : Nat → Bool → Int → Int → ByteArray → Int → List (S29) → List (S29) → Int → Int → ByteArray → Int → Option (Bool)
 | 0, _, _, _, _, _, _, _, _, _, _, _ => none
 | k + 1, x12, x190000, x190001, x190002, x190003, x190004, x190005, x190006, x190007, x190008, x190009 => if x12 = true then (some false) else (if x190001 = 1 then (if x190002.toList = ([] : List UInt8) then ((spec_l00In.f x190003 (-1000) 1000).bind fun t192 => (if t192 = true then (if (x190004.length : Int) = 0 then (some (x190006 == 0 && (x190007 == 0 && (x190008.toList.isEmpty && (x190009 == 0))))) else (some false)) else (some false))) else (some false)) else (if x190001 = 2 then (if x190002.toList = ([] : List UInt8) then (if x190003 = 0 then (if (x190004.length : Int) = (x190005.length : Int) then ((spec_l07ValidValues.f k x190004 30).bind fun t193 => (if t193 = true then ((spec_l07Distinct.f k x190004).bind fun t194 => (if t194 = true then ((spec_ValidValue.f k x190006 x190007 x190008 x190009).bind fun t195 => (some t195)) else (some false))) else (some false))) else (some false)) else (some false)) else (some false)) else (if x190001 = 3 then ((spec_IsName.f k x190002).bind fun t196 => (if t196 = true then (if x190003 = 0 then (if (x190004.length : Int) = (x190005.length : Int) then ((spec_l07FieldNames.f k x190004).bind fun t197 => (if t197 = true then (some (x190006 == 0 && (x190007 == 0 && (x190008.toList.isEmpty && (x190009 == 0))))) else (some false))) else (some false)) else (some false)) else (some false))) else (some false))))
def spec_l07Object.f (k : Nat) (a0_0 : Int) (a0_1 : Int) (a0_2 : ByteArray) (a0_3 : Int) (l0_4 : List (S29)) (l0_5 : List (S29)) (a0_6 : Int) (a0_7 : Int) (a0_8 : ByteArray) (a0_9 : Int) : Option (Bool) := (spec_l00In.f a0_0 1 1000000).bind fun t190 => (if t190 = true then ((spec_l07ValidValues.f k l0_5 30).bind fun t191 => (spec_l07Object.j0 k (!t191) a0_0 a0_1 a0_2 a0_3 l0_4 l0_5 a0_6 a0_7 a0_8 a0_9)) else (spec_l07Object.j0 k true a0_0 a0_1 a0_2 a0_3 l0_4 l0_5 a0_6 a0_7 a0_8 a0_9))
set_option maxHeartbeats 8000000 in
set_option maxRecDepth 100000 in
theorem spec_l07Object.calls (k : Nat) (a0_0 : Int) (a0_1 : Int) (a0_2 : ByteArray) (a0_3 : Int) (A0_4 : Option Addr) (c0_4 : Nat) (l0_4 : List (S29)) (A0_5 : Option Addr) (c0_5 : Nat) (l0_5 : List (S29)) (a0_6 : Int) (a0_7 : Int) (a0_8 : ByteArray) (a0_9 : Int) (r : Bool) (w : World) (hr0_4 : Kd.C k29 w A0_4 l0_4.length l0_4) (hc0_4 : l0_4.length ≤ c0_4) (hr0_5 : Kd.C k29 w A0_5 l0_5.length l0_5) (hc0_5 : l0_5.length ≤ c0_5) (h : spec_l07Object.f k a0_0 a0_1 a0_2 a0_3 l0_4 l0_5 a0_6 a0_7 a0_8 a0_9 = some r) :
  Calls Try.prog 81 #[.agg #[.int .i64 a0_0, .int .i64 a0_1, .string a0_2, .int .i64 a0_3, .slice A0_4 l0_4.length c0_4, .slice A0_5 l0_5.length c0_5, .int .i64 a0_6, .int .i64 a0_7, .string a0_8, .int .i64 a0_9]] w fun e w' => e = .returned (.bool r) ∧ Below w.heap.size w w' := by
 have hu56 := Try.underlying56
 have hu29 := Try.underlying29
 have HR0_4 := Aside0.mk hr0_4
 have HC0_4 := Aside0.mk hc0_4
 clear hr0_4 hc0_4
 have HR0_5 := Aside0.mk hr0_5
 have HC0_5 := Aside0.mk hc0_5
 clear hr0_5 hc0_5
 have HB := Aside0.mk (Below.refl w.heap.size w)
 have H : ((spec_l00In.f a0_0 1 1000000).bind fun t190 => (if t190 = true then ((spec_l07ValidValues.f k l0_5 30).bind fun t191 => (spec_l07Object.j0 k (!t191) a0_0 a0_1 a0_2 a0_3 l0_4 l0_5 a0_6 a0_7 a0_8 a0_9)) else (spec_l07Object.j0 k true a0_0 a0_1 a0_2 a0_3 l0_4 l0_5 a0_6 a0_7 a0_8 a0_9))) = some r := h
 clear h
 have HC2 := Aside0.mk H
 clear H
 go_enter Try.func81, Try.ntmps81
 go_upto_region 1 with (first | ((with_reducible refine gate_dst (N := 1) rfl ?_); (try (refine gate_guard (by rfl) ?_; dsimp only)); refine sV (N := 1) (cs := #[.int .i64 a0_0, .int .i64 a0_1, .string a0_2, .int .i64 a0_3, .slice A0_4 l0_4.length c0_4, .slice A0_5 l0_5.length c0_5, .int .i64 a0_6, .int .i64 a0_7, .string a0_8, .int .i64 a0_9]) (t := 56) ?_; intro gb189 hg w3 hbox hb; have n0_ := sB HB hb; have n1_ := Aside0.mk (hbox); have n2_ := sG HB hg; have n3_ := sG HB hg; clear HB; have HB := n0_; have BK189 := n1_; have GW189 := n2_; have GE189 := n3_; clear n0_ n1_ n2_ n3_; clear hb hbox hg))
 (try simp only [Act.put, List.setIfInBounds_toArray, List.set_cons_zero, List.set_cons_succ])
 go_cut [12] (fun v12 wc => ∃ (kq : Nat) (x12_1 : Bool), v12 = .bool x12_1 ∧ Aside0 (spec_l07Object.j0 kq x12_1 a0_0 a0_1 a0_2 a0_3 l0_4 l0_5 a0_6 a0_7 a0_8 a0_9 = some r) ∧ Aside0 (kq ≤ k) ∧ Aside0 (wc.heap[gb189]? = some (.cells #[.int .i64 a0_0, .int .i64 a0_1, .string a0_2, .int .i64 a0_3, (.slice A0_4 l0_4.length c0_4), (.slice A0_5 l0_5.length c0_5), .int .i64 a0_6, .int .i64 a0_7, .string a0_8, .int .i64 a0_9] 56 (0, 0))) ∧ Aside0 (Below w.heap.size w wc))
 case first =>
  have H := HC2.out
  clear HC2
  obtain ⟨t190, A4, H⟩ := sO H
  by_cases c5 : t190 = true
  ·subst c5
   rewrite [if_pos rfl] at H
   obtain ⟨t191, A6, H⟩ := sO H
   have H' := Aside0.mk H
   clear H
   obtain ⟨hcz7_0, hcz7_1, hcz7_2, hcz7_3, hcz7_4, hcz7_5, hcz7_6, hcz7_7, hcz7_8, hcz7_9, hfz7_0, hfz7_1, hfz7_2, hfz7_3, hfz7_4, hfz7_5, hfz7_6, hfz7_7, hfz7_8, hfz7_9⟩ := cells10 BK189.out
   go_wp2_with (first | ((with_reducible refine gate_callee (f := 112) rfl ?_); refine sC (some 5) Try.func112 #[.int .i64 a0_0, .int .i64 1, .int .i64 1000000] (spec_l00In.calls a0_0 1 1000000 true _ A4.out) ?_; rintro e w' ⟨rfl, ⟨nd, rfl⟩⟩; refine ⟨_, rfl, ?_⟩) | (go_at_call 118; (with_reducible refine (spec_l07ValidValues.calls k _ _ l0_5 30 t191 _ ?side1 ?side2 A6.out).mono ?_); (case side1 => exact sD (Kd.C_below HR0_5.out (by repeat (first | (with_reducible first | exact HB.out | apply below_alloc | apply pw_below_drewN | apply below_drew1 | refine below_set ?_ GE189.out) | exact HB.out)))); (case side2 => exact HC0_5.out); rintro e w8 ⟨rfl, hb⟩; have n0_ := sK BK189 hb; have n1_ := sB HB hb; clear BK189; clear HB; have BK189 := n0_; have HB := n1_; clear n0_ n1_; (try clear hb); (try clear hb2); (try clear hk); (try clear hi)))
   go_meet
   case rel => exact ⟨_, (!t191), sr, H', ⟨by first | omega | exact Nat.le_refl _⟩, ⟨by exact sT BK189.out⟩, ⟨sb⟩⟩
  replace c5 := Bool.eq_false_iff.mpr c5
  subst c5
  rewrite [if_neg (show ¬ (false = true) by decide)] at H
  have H' := Aside0.mk H
  clear H
  obtain ⟨hcz9_0, hcz9_1, hcz9_2, hcz9_3, hcz9_4, hcz9_5, hcz9_6, hcz9_7, hcz9_8, hcz9_9, hfz9_0, hfz9_1, hfz9_2, hfz9_3, hfz9_4, hfz9_5, hfz9_6, hfz9_7, hfz9_8, hfz9_9⟩ := cells10 BK189.out
  go_wp2_with (first | ((with_reducible refine gate_callee (f := 112) rfl ?_); refine sC (some 5) Try.func112 #[.int .i64 a0_0, .int .i64 1, .int .i64 1000000] (spec_l00In.calls a0_0 1 1000000 false _ A4.out) ?_; rintro e w' ⟨rfl, ⟨nd, rfl⟩⟩; refine ⟨_, rfl, ?_⟩))
  go_meet
  case rel => exact ⟨_, (true), sr, H', ⟨by first | omega | exact Nat.le_refl _⟩, ⟨by exact sT BK189.out⟩, ⟨sb⟩⟩
 case rest =>
  clear HC2
  try clear c1
  try clear p2
  try clear c5
  try clear c8
  try clear hcz7_0
  try clear hcz7_1
  try clear hcz7_2
  try clear hcz7_3
  try clear hcz7_4
  try clear hcz7_5
  try clear hcz7_6
  try clear hcz7_7
  try clear hcz7_8
  try clear hcz7_9
  try clear hcz9_0
  try clear hcz9_1
  try clear hcz9_2
  try clear hcz9_3
  try clear hcz9_4
  try clear hcz9_5
  try clear hcz9_6
  try clear hcz9_7
  try clear hcz9_8
  try clear hcz9_9
  try clear hfz7_0
  try clear hfz7_1
  try clear hfz7_2
  try clear hfz7_3
  try clear hfz7_4
  try clear hfz7_5
  try clear hfz7_6
  try clear hfz7_7
  try clear hfz7_8
  try clear hfz7_9
  try clear hfz9_0
  try clear hfz9_1
  try clear hfz9_2
  try clear hfz9_3
  try clear hfz9_4
  try clear hfz9_5
  try clear hfz9_6
  try clear hfz9_7
  try clear hfz9_8
  try clear hfz9_9
  obtain ⟨kq, x12_1, rfl, HA, HJ1, BK189, HB⟩ := hcut
  cases kq with
  | zero => exact absurd HA.out (by simp [spec_l07Object.j0])
  | succ kj1 =>
   have H := HA.out
   clear HA
   simp only [spec_l07Object.j0] at H
   by_cases c10 : x12_1 = true
   ·subst c10
    rewrite [if_pos rfl] at H
    obtain rfl := Option.some.inj H
    go_wp2
    go_ret
    exact ⟨sq, sb⟩
   replace c10 := Bool.eq_false_iff.mpr c10
   subst c10
   rewrite [if_neg (show ¬ (false = true) by decide)] at H
   by_cases c11 : a0_1 = 1
   ·rw [if_pos c11] at H
    have c11b0 : (a0_1 == 1) = true := beq_iff_eq.mpr c11
    have c11b1 : (a0_1 != 1) = false := bne_eq_false_iff_eq.mpr c11
    clear c11
    by_cases c12 : a0_2.toList = ([] : List UInt8)
    ·rw [if_pos c12] at H
     have c12b0 : (a0_2.toList == ([] : List UInt8)) = true := beq_iff_eq.mpr c12
     have c12b1 : (a0_2.toList != ([] : List UInt8)) = false := bne_eq_false_iff_eq.mpr c12
     have c12b2 : a0_2.toList.isEmpty = true := by simpa using c12
     clear c12
     obtain ⟨t192, A13, H⟩ := sO H
     by_cases c14 : t192 = true
     ·subst c14
      rewrite [if_pos rfl] at H
      by_cases c15 : (l0_4.length : Int) = 0
      ·rw [if_pos c15] at H
       have c15b0 : ((l0_4.length : Int) == 0) = true := beq_iff_eq.mpr c15
       have c15b1 : ((l0_4.length : Int) != 0) = false := bne_eq_false_iff_eq.mpr c15
       clear c15
       obtain rfl := Option.some.inj H
       obtain ⟨hcz16_0, hcz16_1, hcz16_2, hcz16_3, hcz16_4, hcz16_5, hcz16_6, hcz16_7, hcz16_8, hcz16_9, hfz16_0, hfz16_1, hfz16_2, hfz16_3, hfz16_4, hfz16_5, hfz16_6, hfz16_7, hfz16_8, hfz16_9⟩ := cells10 BK189.out
       go_wp2_with (first | (go_at_call 112; (with_reducible refine (spec_l00In.calls a0_3 (-1000) 1000 true _ A13.out).mono ?_); rintro e w' ⟨rfl, ⟨nd, rfl⟩⟩))
       go_ret
       exact ⟨sq, sb⟩
      rw [if_neg c15] at H
      have c15b0 : ((l0_4.length : Int) == 0) = false := beq_eq_false_iff_ne.mpr c15
      have c15b1 : ((l0_4.length : Int) != 0) = true := bne_iff_ne.mpr c15
      have c15b2 : ¬ (l0_4 = []) := fun h_ => c15 (by rw [h_]; rfl)
      obtain rfl := Option.some.inj H
      obtain ⟨hcz17_0, hcz17_1, hcz17_2, hcz17_3, hcz17_4, hcz17_5, hcz17_6, hcz17_7, hcz17_8, hcz17_9, hfz17_0, hfz17_1, hfz17_2, hfz17_3, hfz17_4, hfz17_5, hfz17_6, hfz17_7, hfz17_8, hfz17_9⟩ := cells10 BK189.out
      go_wp2_with (first | (go_at_call 112; (with_reducible refine (spec_l00In.calls a0_3 (-1000) 1000 true _ A13.out).mono ?_); rintro e w' ⟨rfl, ⟨nd, rfl⟩⟩))
      go_ret
      exact ⟨sq, sb⟩
     replace c14 := Bool.eq_false_iff.mpr c14
     subst c14
     rewrite [if_neg (show ¬ (false = true) by decide)] at H
     obtain rfl := Option.some.inj H
     obtain ⟨hcz18_0, hcz18_1, hcz18_2, hcz18_3, hcz18_4, hcz18_5, hcz18_6, hcz18_7, hcz18_8, hcz18_9, hfz18_0, hfz18_1, hfz18_2, hfz18_3, hfz18_4, hfz18_5, hfz18_6, hfz18_7, hfz18_8, hfz18_9⟩ := cells10 BK189.out
     go_wp2_with (first | (go_at_call 112; (with_reducible refine (spec_l00In.calls a0_3 (-1000) 1000 false _ A13.out).mono ?_); rintro e w' ⟨rfl, ⟨nd, rfl⟩⟩))
     go_ret
     exact ⟨sq, sb⟩
    rw [if_neg c12] at H
    have c12b0 : (a0_2.toList == ([] : List UInt8)) = false := beq_eq_false_iff_ne.mpr c12
    have c12b1 : (a0_2.toList != ([] : List UInt8)) = true := bne_iff_ne.mpr c12
    have c12b2 : a0_2.toList.isEmpty = false := by simpa using c12
    obtain rfl := Option.some.inj H
    obtain ⟨hcz19_0, hcz19_1, hcz19_2, hcz19_3, hcz19_4, hcz19_5, hcz19_6, hcz19_7, hcz19_8, hcz19_9, hfz19_0, hfz19_1, hfz19_2, hfz19_3, hfz19_4, hfz19_5, hfz19_6, hfz19_7, hfz19_8, hfz19_9⟩ := cells10 BK189.out
    go_wp2
    go_ret
    exact ⟨sq, sb⟩
   rw [if_neg c11] at H
   have c11b0 : (a0_1 == 1) = false := beq_eq_false_iff_ne.mpr c11
   have c11b1 : (a0_1 != 1) = true := bne_iff_ne.mpr c11
   by_cases c20 : a0_1 = 2
   ·rw [if_pos c20] at H
    have c20b0 : (a0_1 == 2) = true := beq_iff_eq.mpr c20
    have c20b1 : (a0_1 != 2) = false := bne_eq_false_iff_eq.mpr c20
    clear c20
    by_cases c21 : a0_2.toList = ([] : List UInt8)
    ·rw [if_pos c21] at H
     have c21b0 : (a0_2.toList == ([] : List UInt8)) = true := beq_iff_eq.mpr c21
     have c21b1 : (a0_2.toList != ([] : List UInt8)) = false := bne_eq_false_iff_eq.mpr c21
     have c21b2 : a0_2.toList.isEmpty = true := by simpa using c21
     clear c21
     by_cases c22 : a0_3 = 0
     ·rw [if_pos c22] at H
      have c22b0 : (a0_3 == 0) = true := beq_iff_eq.mpr c22
      have c22b1 : (a0_3 != 0) = false := bne_eq_false_iff_eq.mpr c22
      clear c22
      by_cases c23 : (l0_4.length : Int) = (l0_5.length : Int)
      ·rw [if_pos c23] at H
       have c23b0 : ((l0_4.length : Int) == (l0_5.length : Int)) = true := beq_iff_eq.mpr c23
       have c23b1 : ((l0_4.length : Int) != (l0_5.length : Int)) = false := bne_eq_false_iff_eq.mpr c23
       have c23b2 : (l0_4.length == l0_5.length) = true := by first | simpa using c23 | (simp at c23 ⊢; omega)
       clear c23
       obtain ⟨t193, A24, H⟩ := sO H
       by_cases c25 : t193 = true
       ·subst c25
        rewrite [if_pos rfl] at H
        obtain ⟨t194, A26, H⟩ := sO H
        by_cases c27 : t194 = true
        ·subst c27
         rewrite [if_pos rfl] at H
         obtain ⟨t195, A28, H⟩ := sO H
         obtain rfl := Option.some.inj H
         obtain ⟨hcz29_0, hcz29_1, hcz29_2, hcz29_3, hcz29_4, hcz29_5, hcz29_6, hcz29_7, hcz29_8, hcz29_9, hfz29_0, hfz29_1, hfz29_2, hfz29_3, hfz29_4, hfz29_5, hfz29_6, hfz29_7, hfz29_8, hfz29_9⟩ := cells10 BK189.out
         go_wp2_with (first | (go_at_call 118; (with_reducible refine (spec_l07ValidValues.calls kj1 _ _ l0_4 30 true _ ?side1 ?side2 A24.out).mono ?_); (case side1 => exact sD (Kd.C_below HR0_4.out HB.out)); (case side2 => exact HC0_4.out); rintro e w30 ⟨rfl, hb⟩; have n0_ := sK BK189 hb; have n1_ := sB HB hb; clear BK189; clear HB; have BK189 := n0_; have HB := n1_; clear n0_ n1_; (try clear hb); (try clear hb2); (try clear hk); (try clear hi); obtain ⟨hcz31_0, hcz31_1, hcz31_2, hcz31_3, hcz31_4, hcz31_5, hcz31_6, hcz31_7, hcz31_8, hcz31_9, hfz31_0, hfz31_1, hfz31_2, hfz31_3, hfz31_4, hfz31_5, hfz31_6, hfz31_7, hfz31_8, hfz31_9⟩ := cells10 BK189.out) | (go_at_call 119; (with_reducible refine (spec_l07Distinct.calls kj1 _ _ l0_4 true _ ?side1 ?side2 A26.out).mono ?_); (case side1 => exact sD (Kd.C_below HR0_4.out HB.out)); (case side2 => exact HC0_4.out); rintro e w32 ⟨rfl, hb⟩; have n0_ := sK BK189 hb; have n1_ := sB HB hb; clear BK189; clear HB; have BK189 := n0_; have HB := n1_; clear n0_ n1_; (try clear hb); (try clear hb2); (try clear hk); (try clear hi); obtain ⟨hcz33_0, hcz33_1, hcz33_2, hcz33_3, hcz33_4, hcz33_5, hcz33_6, hcz33_7, hcz33_8, hcz33_9, hfz33_0, hfz33_1, hfz33_2, hfz33_3, hfz33_4, hfz33_5, hfz33_6, hfz33_7, hfz33_8, hfz33_9⟩ := cells10 BK189.out) | (go_at_call 120; (with_reducible refine (spec_ValidValue.calls kj1 a0_6 a0_7 a0_8 a0_9 t195 _ A28.out).mono ?_); rintro e w34 ⟨rfl, hb⟩; have n0_ := sK BK189 hb; have n1_ := sB HB hb; clear BK189; clear HB; have BK189 := n0_; have HB := n1_; clear n0_ n1_; (try clear hb); (try clear hb2); (try clear hk); (try clear hi)))
         go_ret
         exact ⟨sq, sb⟩
        replace c27 := Bool.eq_false_iff.mpr c27
        subst c27
        rewrite [if_neg (show ¬ (false = true) by decide)] at H
        obtain rfl := Option.some.inj H
        obtain ⟨hcz35_0, hcz35_1, hcz35_2, hcz35_3, hcz35_4, hcz35_5, hcz35_6, hcz35_7, hcz35_8, hcz35_9, hfz35_0, hfz35_1, hfz35_2, hfz35_3, hfz35_4, hfz35_5, hfz35_6, hfz35_7, hfz35_8, hfz35_9⟩ := cells10 BK189.out
        go_wp2_with (first | (go_at_call 118; (with_reducible refine (spec_l07ValidValues.calls kj1 _ _ l0_4 30 true _ ?side1 ?side2 A24.out).mono ?_); (case side1 => exact sD (Kd.C_below HR0_4.out HB.out)); (case side2 => exact HC0_4.out); rintro e w36 ⟨rfl, hb⟩; have n0_ := sK BK189 hb; have n1_ := sB HB hb; clear BK189; clear HB; have BK189 := n0_; have HB := n1_; clear n0_ n1_; (try clear hb); (try clear hb2); (try clear hk); (try clear hi); obtain ⟨hcz37_0, hcz37_1, hcz37_2, hcz37_3, hcz37_4, hcz37_5, hcz37_6, hcz37_7, hcz37_8, hcz37_9, hfz37_0, hfz37_1, hfz37_2, hfz37_3, hfz37_4, hfz37_5, hfz37_6, hfz37_7, hfz37_8, hfz37_9⟩ := cells10 BK189.out) | (go_at_call 119; (with_reducible refine (spec_l07Distinct.calls kj1 _ _ l0_4 false _ ?side1 ?side2 A26.out).mono ?_); (case side1 => exact sD (Kd.C_below HR0_4.out HB.out)); (case side2 => exact HC0_4.out); rintro e w38 ⟨rfl, hb⟩; have n0_ := sK BK189 hb; have n1_ := sB HB hb; clear BK189; clear HB; have BK189 := n0_; have HB := n1_; clear n0_ n1_; (try clear hb); (try clear hb2); (try clear hk); (try clear hi)))
        go_ret
        exact ⟨sq, sb⟩
       replace c25 := Bool.eq_false_iff.mpr c25
       subst c25
       rewrite [if_neg (show ¬ (false = true) by decide)] at H
       obtain rfl := Option.some.inj H
       obtain ⟨hcz39_0, hcz39_1, hcz39_2, hcz39_3, hcz39_4, hcz39_5, hcz39_6, hcz39_7, hcz39_8, hcz39_9, hfz39_0, hfz39_1, hfz39_2, hfz39_3, hfz39_4, hfz39_5, hfz39_6, hfz39_7, hfz39_8, hfz39_9⟩ := cells10 BK189.out
       go_wp2_with (first | (go_at_call 118; (with_reducible refine (spec_l07ValidValues.calls kj1 _ _ l0_4 30 false _ ?side1 ?side2 A24.out).mono ?_); (case side1 => exact sD (Kd.C_below HR0_4.out HB.out)); (case side2 => exact HC0_4.out); rintro e w40 ⟨rfl, hb⟩; have n0_ := sK BK189 hb; have n1_ := sB HB hb; clear BK189; clear HB; have BK189 := n0_; have HB := n1_; clear n0_ n1_; (try clear hb); (try clear hb2); (try clear hk); (try clear hi)))
       go_ret
       exact ⟨sq, sb⟩
      rw [if_neg c23] at H
      have c23b0 : ((l0_4.length : Int) == (l0_5.length : Int)) = false := beq_eq_false_iff_ne.mpr c23
      have c23b1 : ((l0_4.length : Int) != (l0_5.length : Int)) = true := bne_iff_ne.mpr c23
      have c23b2 : (l0_4.length == l0_5.length) = false := by first | simpa using c23 | (simp at c23 ⊢; omega)
      obtain rfl := Option.some.inj H
      obtain ⟨hcz41_0, hcz41_1, hcz41_2, hcz41_3, hcz41_4, hcz41_5, hcz41_6, hcz41_7, hcz41_8, hcz41_9, hfz41_0, hfz41_1, hfz41_2, hfz41_3, hfz41_4, hfz41_5, hfz41_6, hfz41_7, hfz41_8, hfz41_9⟩ := cells10 BK189.out
      go_wp2
      go_ret
      exact ⟨sq, sb⟩
     rw [if_neg c22] at H
     have c22b0 : (a0_3 == 0) = false := beq_eq_false_iff_ne.mpr c22
     have c22b1 : (a0_3 != 0) = true := bne_iff_ne.mpr c22
     obtain rfl := Option.some.inj H
     obtain ⟨hcz42_0, hcz42_1, hcz42_2, hcz42_3, hcz42_4, hcz42_5, hcz42_6, hcz42_7, hcz42_8, hcz42_9, hfz42_0, hfz42_1, hfz42_2, hfz42_3, hfz42_4, hfz42_5, hfz42_6, hfz42_7, hfz42_8, hfz42_9⟩ := cells10 BK189.out
     go_wp2
     go_ret
     exact ⟨sq, sb⟩
    rw [if_neg c21] at H
    have c21b0 : (a0_2.toList == ([] : List UInt8)) = false := beq_eq_false_iff_ne.mpr c21
    have c21b1 : (a0_2.toList != ([] : List UInt8)) = true := bne_iff_ne.mpr c21
    have c21b2 : a0_2.toList.isEmpty = false := by simpa using c21
    obtain rfl := Option.some.inj H
    obtain ⟨hcz43_0, hcz43_1, hcz43_2, hcz43_3, hcz43_4, hcz43_5, hcz43_6, hcz43_7, hcz43_8, hcz43_9, hfz43_0, hfz43_1, hfz43_2, hfz43_3, hfz43_4, hfz43_5, hfz43_6, hfz43_7, hfz43_8, hfz43_9⟩ := cells10 BK189.out
    go_wp2
    go_ret
    exact ⟨sq, sb⟩
   rw [if_neg c20] at H
   have c20b0 : (a0_1 == 2) = false := beq_eq_false_iff_ne.mpr c20
   have c20b1 : (a0_1 != 2) = true := bne_iff_ne.mpr c20
   by_cases c44 : a0_1 = 3
   ·rw [if_pos c44] at H
    have c44b0 : (a0_1 == 3) = true := beq_iff_eq.mpr c44
    have c44b1 : (a0_1 != 3) = false := bne_eq_false_iff_eq.mpr c44
    clear c44
    obtain ⟨t196, A45, H⟩ := sO H
    by_cases c46 : t196 = true
    ·subst c46
     rewrite [if_pos rfl] at H
     by_cases c47 : a0_3 = 0
     ·rw [if_pos c47] at H
      have c47b0 : (a0_3 == 0) = true := beq_iff_eq.mpr c47
      have c47b1 : (a0_3 != 0) = false := bne_eq_false_iff_eq.mpr c47
      clear c47
      by_cases c48 : (l0_4.length : Int) = (l0_5.length : Int)
      ·rw [if_pos c48] at H
       have c48b0 : ((l0_4.length : Int) == (l0_5.length : Int)) = true := beq_iff_eq.mpr c48
       have c48b1 : ((l0_4.length : Int) != (l0_5.length : Int)) = false := bne_eq_false_iff_eq.mpr c48
       have c48b2 : (l0_4.length == l0_5.length) = true := by first | simpa using c48 | (simp at c48 ⊢; omega)
       clear c48
       obtain ⟨t197, A49, H⟩ := sO H
       by_cases c50 : t197 = true
       ·subst c50
        rewrite [if_pos rfl] at H
        obtain rfl := Option.some.inj H
        obtain ⟨hcz51_0, hcz51_1, hcz51_2, hcz51_3, hcz51_4, hcz51_5, hcz51_6, hcz51_7, hcz51_8, hcz51_9, hfz51_0, hfz51_1, hfz51_2, hfz51_3, hfz51_4, hfz51_5, hfz51_6, hfz51_7, hfz51_8, hfz51_9⟩ := cells10 BK189.out
        go_wp2_with (first | ((with_reducible refine gate_callee (f := 121) rfl ?_); refine sC (some 75) Try.func121 #[.string a0_2] (spec_IsName.calls kj1 a0_2 true _ A45.out) ?_; rintro e w' ⟨rfl, ⟨nd, rfl⟩⟩; refine ⟨_, rfl, ?_⟩) | (go_at_call 122; (with_reducible refine (spec_l07FieldNames.calls kj1 _ _ l0_4 true _ ?side1 ?side2 A49.out).mono ?_); (case side1 => exact sD (Kd.C_below HR0_4.out (by repeat (first | (with_reducible first | exact HB.out | apply below_alloc | apply pw_below_drewN | apply below_drew1 | refine below_set ?_ GE189.out) | exact HB.out)))); (case side2 => exact HC0_4.out); rintro e w52 ⟨rfl, hb⟩; have n0_ := sK BK189 hb; have n1_ := sB HB hb; clear BK189; clear HB; have BK189 := n0_; have HB := n1_; clear n0_ n1_; (try clear hb); (try clear hb2); (try clear hk); (try clear hi); obtain ⟨hcz53_0, hcz53_1, hcz53_2, hcz53_3, hcz53_4, hcz53_5, hcz53_6, hcz53_7, hcz53_8, hcz53_9, hfz53_0, hfz53_1, hfz53_2, hfz53_3, hfz53_4, hfz53_5, hfz53_6, hfz53_7, hfz53_8, hfz53_9⟩ := cells10 BK189.out))
        go_ret
        exact ⟨sq, sb⟩
       replace c50 := Bool.eq_false_iff.mpr c50
       subst c50
       rewrite [if_neg (show ¬ (false = true) by decide)] at H
       obtain rfl := Option.some.inj H
       obtain ⟨hcz54_0, hcz54_1, hcz54_2, hcz54_3, hcz54_4, hcz54_5, hcz54_6, hcz54_7, hcz54_8, hcz54_9, hfz54_0, hfz54_1, hfz54_2, hfz54_3, hfz54_4, hfz54_5, hfz54_6, hfz54_7, hfz54_8, hfz54_9⟩ := cells10 BK189.out
       go_wp2_with (first | ((with_reducible refine gate_callee (f := 121) rfl ?_); refine sC (some 75) Try.func121 #[.string a0_2] (spec_IsName.calls kj1 a0_2 true _ A45.out) ?_; rintro e w' ⟨rfl, ⟨nd, rfl⟩⟩; refine ⟨_, rfl, ?_⟩) | (go_at_call 122; (with_reducible refine (spec_l07FieldNames.calls kj1 _ _ l0_4 false _ ?side1 ?side2 A49.out).mono ?_); (case side1 => exact sD (Kd.C_below HR0_4.out (by repeat (first | (with_reducible first | exact HB.out | apply below_alloc | apply pw_below_drewN | apply below_drew1 | refine below_set ?_ GE189.out) | exact HB.out)))); (case side2 => exact HC0_4.out); rintro e w55 ⟨rfl, hb⟩; have n0_ := sK BK189 hb; have n1_ := sB HB hb; clear BK189; clear HB; have BK189 := n0_; have HB := n1_; clear n0_ n1_; (try clear hb); (try clear hb2); (try clear hk); (try clear hi)))
       go_ret
       exact ⟨sq, sb⟩
      rw [if_neg c48] at H
      have c48b0 : ((l0_4.length : Int) == (l0_5.length : Int)) = false := beq_eq_false_iff_ne.mpr c48
      have c48b1 : ((l0_4.length : Int) != (l0_5.length : Int)) = true := bne_iff_ne.mpr c48
      have c48b2 : (l0_4.length == l0_5.length) = false := by first | simpa using c48 | (simp at c48 ⊢; omega)
      obtain rfl := Option.some.inj H
      obtain ⟨hcz56_0, hcz56_1, hcz56_2, hcz56_3, hcz56_4, hcz56_5, hcz56_6, hcz56_7, hcz56_8, hcz56_9, hfz56_0, hfz56_1, hfz56_2, hfz56_3, hfz56_4, hfz56_5, hfz56_6, hfz56_7, hfz56_8, hfz56_9⟩ := cells10 BK189.out
      go_wp2_with (first | ((with_reducible refine gate_callee (f := 121) rfl ?_); refine sC (some 75) Try.func121 #[.string a0_2] (spec_IsName.calls kj1 a0_2 true _ A45.out) ?_; rintro e w' ⟨rfl, ⟨nd, rfl⟩⟩; refine ⟨_, rfl, ?_⟩))
      go_ret
      exact ⟨sq, sb⟩
     rw [if_neg c47] at H
     have c47b0 : (a0_3 == 0) = false := beq_eq_false_iff_ne.mpr c47
     have c47b1 : (a0_3 != 0) = true := bne_iff_ne.mpr c47
     obtain rfl := Option.some.inj H
     obtain ⟨hcz57_0, hcz57_1, hcz57_2, hcz57_3, hcz57_4, hcz57_5, hcz57_6, hcz57_7, hcz57_8, hcz57_9, hfz57_0, hfz57_1, hfz57_2, hfz57_3, hfz57_4, hfz57_5, hfz57_6, hfz57_7, hfz57_8, hfz57_9⟩ := cells10 BK189.out
     go_wp2_with (first | ((with_reducible refine gate_callee (f := 121) rfl ?_); refine sC (some 75) Try.func121 #[.string a0_2] (spec_IsName.calls kj1 a0_2 true _ A45.out) ?_; rintro e w' ⟨rfl, ⟨nd, rfl⟩⟩; refine ⟨_, rfl, ?_⟩))
     go_ret
     exact ⟨sq, sb⟩
    replace c46 := Bool.eq_false_iff.mpr c46
    subst c46
    rewrite [if_neg (show ¬ (false = true) by decide)] at H
    obtain rfl := Option.some.inj H
    obtain ⟨hcz58_0, hcz58_1, hcz58_2, hcz58_3, hcz58_4, hcz58_5, hcz58_6, hcz58_7, hcz58_8, hcz58_9, hfz58_0, hfz58_1, hfz58_2, hfz58_3, hfz58_4, hfz58_5, hfz58_6, hfz58_7, hfz58_8, hfz58_9⟩ := cells10 BK189.out
    go_wp2_with (first | ((with_reducible refine gate_callee (f := 121) rfl ?_); refine sC (some 75) Try.func121 #[.string a0_2] (spec_IsName.calls kj1 a0_2 false _ A45.out) ?_; rintro e w' ⟨rfl, ⟨nd, rfl⟩⟩; refine ⟨_, rfl, ?_⟩))
    go_ret
    exact ⟨sq, sb⟩
   rw [if_neg c44] at H
   have c44b0 : (a0_1 == 3) = false := beq_eq_false_iff_ne.mpr c44
   have c44b1 : (a0_1 != 3) = true := bne_iff_ne.mpr c44
   obtain rfl := Option.some.inj H
   obtain ⟨hcz59_0, hcz59_1, hcz59_2, hcz59_3, hcz59_4, hcz59_5, hcz59_6, hcz59_7, hcz59_8, hcz59_9, hfz59_0, hfz59_1, hfz59_2, hfz59_3, hfz59_4, hfz59_5, hfz59_6, hfz59_7, hfz59_8, hfz59_9⟩ := cells10 BK189.out
   go_wp2
   go_ret
   exact ⟨sq, sb⟩
end
end Go.Proofs.Ytnjkhdhaiicefaa.PFnExactGetField
