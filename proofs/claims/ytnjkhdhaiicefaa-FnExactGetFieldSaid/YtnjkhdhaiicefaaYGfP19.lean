/- Printed functions: impl_ValidObject. -/
import Derived.Test.YtnjkhdhaiicefaaYGfP0
import Derived.Test.YtnjkhdhaiicefaaYGfPE
import Derived.Test.YtnjkhdhaiicefaaYGfP13
import Derived.Test.YtnjkhdhaiicefaaYGfP15
import Derived.Test.YtnjkhdhaiicefaaYGfP16
import Derived.Test.YtnjkhdhaiicefaaYGfP17
import Derived.Test.YtnjkhdhaiicefaaYGfP18
namespace Go.Proofs.Ytnjkhdhaiicefaa.PFnExactGetField
open Go.RowKit Go.Proofs.YtnjkhdhaiicefaaG Go.Proofs.YtnjkhdhaiicefaaW.PrintWords Go.Proofs.YtnjkhdhaiicefaaW.PrintLast Go.Proofs.YtnjkhdhaiicefaaW.PrintMore
attribute [local go_sem] max2_int min2_int max_two min_two max_three min_three max_four min_four   -- for this text's walks alone
set_option linter.unusedVariables false
set_option linter.unusedSimpArgs false
section
attribute [local go_sem high] eqA29
/-! ### impl_ValidObject: function 84 -/
def impl_ValidObject.j0 : Nat → Bool → Int → Int → ByteArray → Int → List (S29) → List (S29) → Int → Int → ByteArray → Int → Option (Bool)
 | 0, _, _, _, _, _, _, _, _, _, _, _ => none
 | k + 1, x21, x292000, x292001, x292002, x292003, x292004, x292005, x292006, x292007, x292008, x292009 => if x21 = true then (some false) else (if x292001 = 1 then ((impl_within.f x292003 (-1000) 1000).bind fun t294 => (if t294 = true then (if (x292004.length : Int) = 0 then (if (x292006 == 0 && (x292007 == 0 && (x292008.toList.isEmpty && (x292009 == 0)))) = true then (some (x292002.toList.isEmpty)) else (some false)) else (some false)) else (some false))) else (if x292001 = 2 then (if (x292004.length : Int) = (x292005.length : Int) then ((impl_Value__impl_ValidValue.f k x292004).bind fun t295 => (if t295 = true then ((impl_areDifferent.f k x292004).bind fun t296 => (if x292003 = 0 then (if t296 = true then ((impl_ValidValue.f k x292006 x292007 x292008 x292009).bind fun t297 => (if t297 = true then (some (x292002.toList.isEmpty)) else (some false))) else (some false)) else (some false))) else (if x292003 = 0 then (some false) else (some false)))) else (if x292003 = 0 then (some false) else (some false))) else (if x292001 = 3 then (if (x292004.length : Int) ≥ 1 then (if (x292004.length : Int) ≤ 6 then (if (x292004.length : Int) = (x292005.length : Int) then ((impl_Value__impl_isField.f k x292004).bind fun t298 => (if t298 = true then ((impl_areDifferent.f k x292004).bind fun t299 => (if x292003 = 0 then (if t299 = true then (if (x292006 == 0 && (x292007 == 0 && (x292008.toList.isEmpty && (x292009 == 0)))) = true then ((impl_IsName.f k x292002).bind fun t300 => (some t300)) else (some false)) else (some false)) else (some false))) else (if x292003 = 0 then (some false) else (some false)))) else (if x292003 = 0 then (some false) else (some false))) else (if x292003 = 0 then (some false) else (some false))) else (if x292003 = 0 then (some false) else (some false))) else (some false))))
def impl_ValidObject.f (k : Nat) (a0_0 : Int) (a0_1 : Int) (a0_2 : ByteArray) (a0_3 : Int) (l0_4 : List (S29)) (l0_5 : List (S29)) (a0_6 : Int) (a0_7 : Int) (a0_8 : ByteArray) (a0_9 : Int) : Option (Bool) := (impl_isObjectId.f a0_0).bind fun t292 => (if t292 = true then (if (l0_5.length : Int) > 30 then (impl_ValidObject.j0 k true a0_0 a0_1 a0_2 a0_3 l0_4 l0_5 a0_6 a0_7 a0_8 a0_9) else ((impl_Value__impl_ValidValue.f k l0_5).bind fun t293 => (impl_ValidObject.j0 k (!t293) a0_0 a0_1 a0_2 a0_3 l0_4 l0_5 a0_6 a0_7 a0_8 a0_9))) else (impl_ValidObject.j0 k true a0_0 a0_1 a0_2 a0_3 l0_4 l0_5 a0_6 a0_7 a0_8 a0_9))
set_option maxHeartbeats 8000000 in
set_option maxRecDepth 100000 in
theorem impl_ValidObject.calls (k : Nat) (a0_0 : Int) (a0_1 : Int) (a0_2 : ByteArray) (a0_3 : Int) (A0_4 : Option Addr) (c0_4 : Nat) (l0_4 : List (S29)) (A0_5 : Option Addr) (c0_5 : Nat) (l0_5 : List (S29)) (a0_6 : Int) (a0_7 : Int) (a0_8 : ByteArray) (a0_9 : Int) (r : Bool) (w : World) (hr0_4 : Kd.C k29 w A0_4 l0_4.length l0_4) (hc0_4 : l0_4.length ≤ c0_4) (hr0_5 : Kd.C k29 w A0_5 l0_5.length l0_5) (hc0_5 : l0_5.length ≤ c0_5) (h : impl_ValidObject.f k a0_0 a0_1 a0_2 a0_3 l0_4 l0_5 a0_6 a0_7 a0_8 a0_9 = some r) :
  Calls Try.prog 84 #[.agg #[.int .i64 a0_0, .int .i64 a0_1, .string a0_2, .int .i64 a0_3, .slice A0_4 l0_4.length c0_4, .slice A0_5 l0_5.length c0_5, .int .i64 a0_6, .int .i64 a0_7, .string a0_8, .int .i64 a0_9]] w fun e w' => e = .returned (.bool r) ∧ Below w.heap.size w w' := by
 have hu56 := Try.underlying56
 have hu29 := Try.underlying29
 have HR0_4 := Aside0.mk hr0_4
 have HC0_4 := Aside0.mk hc0_4
 clear hr0_4 hc0_4
 have HR0_5 := Aside0.mk hr0_5
 have HC0_5 := Aside0.mk hc0_5
 clear hr0_5 hc0_5
 have HB := Aside0.mk (Below.refl w.heap.size w)
 have H : ((impl_isObjectId.f a0_0).bind fun t292 => (if t292 = true then (if (l0_5.length : Int) > 30 then (impl_ValidObject.j0 k true a0_0 a0_1 a0_2 a0_3 l0_4 l0_5 a0_6 a0_7 a0_8 a0_9) else ((impl_Value__impl_ValidValue.f k l0_5).bind fun t293 => (impl_ValidObject.j0 k (!t293) a0_0 a0_1 a0_2 a0_3 l0_4 l0_5 a0_6 a0_7 a0_8 a0_9))) else (impl_ValidObject.j0 k true a0_0 a0_1 a0_2 a0_3 l0_4 l0_5 a0_6 a0_7 a0_8 a0_9))) = some r := h
 clear h
 have HC2 := Aside0.mk H
 clear H
 go_enter Try.func84, Try.ntmps84
 go_upto_region 1 with (first | ((with_reducible refine gate_dst (N := 1) rfl ?_); (try (refine gate_guard (by rfl) ?_; dsimp only)); refine sV (N := 1) (cs := #[.int .i64 a0_0, .int .i64 a0_1, .string a0_2, .int .i64 a0_3, .slice A0_4 l0_4.length c0_4, .slice A0_5 l0_5.length c0_5, .int .i64 a0_6, .int .i64 a0_7, .string a0_8, .int .i64 a0_9]) (t := 56) ?_; intro gb291 hg w3 hbox hb; have n0_ := sB HB hb; have n1_ := Aside0.mk (hbox); have n2_ := sG HB hg; have n3_ := sG HB hg; clear HB; have HB := n0_; have BK291 := n1_; have GW291 := n2_; have GE291 := n3_; clear n0_ n1_ n2_ n3_; clear hb hbox hg))
 (try simp only [Act.put, List.setIfInBounds_toArray, List.set_cons_zero, List.set_cons_succ])
 go_cut [21] (fun v21 wc => ∃ (kq : Nat) (x21_1 : Bool), v21 = .bool x21_1 ∧ Aside0 (impl_ValidObject.j0 kq x21_1 a0_0 a0_1 a0_2 a0_3 l0_4 l0_5 a0_6 a0_7 a0_8 a0_9 = some r) ∧ Aside0 (kq ≤ k) ∧ Aside0 (wc.heap[gb291]? = some (.cells #[.int .i64 a0_0, .int .i64 a0_1, .string a0_2, .int .i64 a0_3, (.slice A0_4 l0_4.length c0_4), (.slice A0_5 l0_5.length c0_5), .int .i64 a0_6, .int .i64 a0_7, .string a0_8, .int .i64 a0_9] 56 (0, 0))) ∧ Aside0 (Below w.heap.size w wc))
 case first =>
  have H := HC2.out
  clear HC2
  obtain ⟨t292, A4, H⟩ := sO H
  by_cases c5 : t292 = true
  ·subst c5
   rewrite [if_pos rfl] at H
   by_cases c6 : (l0_5.length : Int) > 30
   ·rw [if_pos c6] at H
    have c6b0 : decide (30 < (l0_5.length : Int)) = true := decide_eq_true c6
    have c6b1 : decide (30 < l0_5.length) = true := decide_eq_true (by omega)
    clear c6
    (first | rw [c6b0] | (simp only [i64_w, i32_w]; rw [c6b0]) | rw [c6b2] | skip)
    have H' := Aside0.mk H
    clear H
    obtain ⟨hcz7_0, hcz7_1, hcz7_2, hcz7_3, hcz7_4, hcz7_5, hcz7_6, hcz7_7, hcz7_8, hcz7_9, hfz7_0, hfz7_1, hfz7_2, hfz7_3, hfz7_4, hfz7_5, hfz7_6, hfz7_7, hfz7_8, hfz7_9⟩ := cells10 BK291.out
    go_wp2_with (first | ((with_reducible refine gate_callee (f := 123) rfl ?_); refine sC (some 8) Try.func123 #[.int .i64 a0_0] (impl_isObjectId.calls a0_0 true _ A4.out) ?_; rintro e w' ⟨rfl, ⟨nd, rfl⟩⟩; refine ⟨_, rfl, ?_⟩))
    go_meet
    case rel => exact ⟨_, (true), sr, H', ⟨by first | omega | exact Nat.le_refl _⟩, ⟨by exact sT BK291.out⟩, ⟨sb⟩⟩
   rw [if_neg c6] at H
   have c6b0 : decide (30 < (l0_5.length : Int)) = false := decide_eq_false c6
   have c6b1 : decide (30 < l0_5.length) = false := decide_eq_false (by omega)
   clear c6
   (first | rw [c6b0] | (simp only [i64_w, i32_w]; rw [c6b0]) | rw [c6b2] | skip)
   obtain ⟨t293, A8, H⟩ := sO H
   have H' := Aside0.mk H
   clear H
   obtain ⟨hcz9_0, hcz9_1, hcz9_2, hcz9_3, hcz9_4, hcz9_5, hcz9_6, hcz9_7, hcz9_8, hcz9_9, hfz9_0, hfz9_1, hfz9_2, hfz9_3, hfz9_4, hfz9_5, hfz9_6, hfz9_7, hfz9_8, hfz9_9⟩ := cells10 BK291.out
   go_wp2_with (first | ((with_reducible refine gate_callee (f := 123) rfl ?_); refine sC (some 8) Try.func123 #[.int .i64 a0_0] (impl_isObjectId.calls a0_0 true _ A4.out) ?_; rintro e w' ⟨rfl, ⟨nd, rfl⟩⟩; refine ⟨_, rfl, ?_⟩) | (go_at_call 124; (with_reducible refine (impl_Value__impl_ValidValue.calls k _ _ l0_5  t293 _ ?side1 ?side2 A8.out).mono ?_); (case side1 => exact sD (Kd.C_below HR0_5.out (by repeat (first | (with_reducible first | exact HB.out | apply below_alloc | apply pw_below_drewN | apply below_drew1 | refine below_set ?_ GE291.out) | exact HB.out)))); (case side2 => exact HC0_5.out); rintro e w10 ⟨rfl, hb⟩; have n0_ := sK BK291 hb; have n1_ := sB HB hb; clear BK291; clear HB; have BK291 := n0_; have HB := n1_; clear n0_ n1_; (try clear hb); (try clear hb2); (try clear hk); (try clear hi)))
   go_meet
   case rel => exact ⟨_, (!t293), sr, H', ⟨by first | omega | exact Nat.le_refl _⟩, ⟨by exact sT BK291.out⟩, ⟨sb⟩⟩
  replace c5 := Bool.eq_false_iff.mpr c5
  subst c5
  rewrite [if_neg (show ¬ (false = true) by decide)] at H
  have H' := Aside0.mk H
  clear H
  obtain ⟨hcz11_0, hcz11_1, hcz11_2, hcz11_3, hcz11_4, hcz11_5, hcz11_6, hcz11_7, hcz11_8, hcz11_9, hfz11_0, hfz11_1, hfz11_2, hfz11_3, hfz11_4, hfz11_5, hfz11_6, hfz11_7, hfz11_8, hfz11_9⟩ := cells10 BK291.out
  go_wp2_with (first | ((with_reducible refine gate_callee (f := 123) rfl ?_); refine sC (some 8) Try.func123 #[.int .i64 a0_0] (impl_isObjectId.calls a0_0 false _ A4.out) ?_; rintro e w' ⟨rfl, ⟨nd, rfl⟩⟩; refine ⟨_, rfl, ?_⟩))
  go_meet
  case rel => exact ⟨_, (true), sr, H', ⟨by first | omega | exact Nat.le_refl _⟩, ⟨by exact sT BK291.out⟩, ⟨sb⟩⟩
 case rest =>
  clear HC2
  try clear c1
  try clear p2
  try clear c5
  try clear c6
  try clear c6b0
  try clear c6b1
  try clear c6b2
  try clear c8
  try clear hcz11_0
  try clear hcz11_1
  try clear hcz11_2
  try clear hcz11_3
  try clear hcz11_4
  try clear hcz11_5
  try clear hcz11_6
  try clear hcz11_7
  try clear hcz11_8
  try clear hcz11_9
  try clear hcz7_0
  try clear hcz7_1
  try clear hcz7_2
  try clear hcz7_3
  try clear hcz7_4
  try clear hcz7_5
  try clear hcz7_6
  try clear hcz7_7
  try clear hcz7_8
  try clear hcz7_9
  try clear hcz9_0
  try clear hcz9_1
  try clear hcz9_2
  try clear hcz9_3
  try clear hcz9_4
  try clear hcz9_5
  try clear hcz9_6
  try clear hcz9_7
  try clear hcz9_8
  try clear hcz9_9
  try clear hfz11_0
  try clear hfz11_1
  try clear hfz11_2
  try clear hfz11_3
  try clear hfz11_4
  try clear hfz11_5
  try clear hfz11_6
  try clear hfz11_7
  try clear hfz11_8
  try clear hfz11_9
  try clear hfz7_0
  try clear hfz7_1
  try clear hfz7_2
  try clear hfz7_3
  try clear hfz7_4
  try clear hfz7_5
  try clear hfz7_6
  try clear hfz7_7
  try clear hfz7_8
  try clear hfz7_9
  try clear hfz9_0
  try clear hfz9_1
  try clear hfz9_2
  try clear hfz9_3
  try clear hfz9_4
  try clear hfz9_5
  try clear hfz9_6
  try clear hfz9_7
  try clear hfz9_8
  try clear hfz9_9
  obtain ⟨kq, x21_1, rfl, HA, HJ1, BK291, HB⟩ := hcut
  cases kq with
  | zero => exact absurd HA.out (by simp [impl_ValidObject.j0])
  | succ kj1 =>
   have H := HA.out
   clear HA
   simp only [impl_ValidObject.j0] at H
   by_cases c12 : x21_1 = true
   ·subst c12
    rewrite [if_pos rfl] at H
    obtain rfl := Option.some.inj H
    go_wp2
    go_ret
    exact ⟨sq, sb⟩
   replace c12 := Bool.eq_false_iff.mpr c12
   subst c12
   rewrite [if_neg (show ¬ (false = true) by decide)] at H
   by_cases c13 : a0_1 = 1
   ·rw [if_pos c13] at H
    have c13b0 : (a0_1 == 1) = true := beq_iff_eq.mpr c13
    have c13b1 : (a0_1 != 1) = false := bne_eq_false_iff_eq.mpr c13
    clear c13
    obtain ⟨t294, A14, H⟩ := sO H
    by_cases c15 : t294 = true
    ·subst c15
     rewrite [if_pos rfl] at H
     by_cases c16 : (l0_4.length : Int) = 0
     ·rw [if_pos c16] at H
      have c16b0 : ((l0_4.length : Int) == 0) = true := beq_iff_eq.mpr c16
      have c16b1 : ((l0_4.length : Int) != 0) = false := bne_eq_false_iff_eq.mpr c16
      clear c16
      by_cases c17 : (a0_6 == 0 && (a0_7 == 0 && (a0_8.toList.isEmpty && (a0_9 == 0)))) = true
      ·rw [if_pos c17] at H
       have c17b0 : (a0_6 == 0 && (a0_7 == 0 && (a0_8.toList.isEmpty && (a0_9 == 0)))) = true := c17
       (try (have c17b1 : decide (a0_6 = 0 && (a0_7 == 0 && (a0_8.toList.isEmpty && (a0_9 == 0)))) = true := by simpa using c17))
       (try (have c17b2 : (a0_6 == 0 && (a0_7 == 0 && (a0_8.toList.isEmpty && (a0_9 == 0)))) = true := by simpa using c17))
       clear c17
       obtain rfl := Option.some.inj H
       obtain ⟨hcz18_0, hcz18_1, hcz18_2, hcz18_3, hcz18_4, hcz18_5, hcz18_6, hcz18_7, hcz18_8, hcz18_9, hfz18_0, hfz18_1, hfz18_2, hfz18_3, hfz18_4, hfz18_5, hfz18_6, hfz18_7, hfz18_8, hfz18_9⟩ := cells10 BK291.out
       go_wp2_with (first | ((with_reducible refine gate_callee (f := 117) rfl ?_); refine sC (some 28) Try.func117 #[.int .i64 a0_3, .int .i64 (-1000), .int .i64 1000] (impl_within.calls a0_3 (-1000) 1000 true _ A14.out) ?_; rintro e w' ⟨rfl, ⟨nd, rfl⟩⟩; refine ⟨_, rfl, ?_⟩))
       go_ret
       exact ⟨sq, sb⟩
      rw [if_neg c17] at H
      have c17b0 : (a0_6 == 0 && (a0_7 == 0 && (a0_8.toList.isEmpty && (a0_9 == 0)))) = false := by simpa using c17
      (try (have c17b1 : decide (a0_6 = 0 && (a0_7 == 0 && (a0_8.toList.isEmpty && (a0_9 == 0)))) = false := by simpa using c17))
      (try (have c17b2 : (a0_6 == 0 && (a0_7 == 0 && (a0_8.toList.isEmpty && (a0_9 == 0)))) = false := by simpa using c17))
      (try (have c17b3 : ¬ (a0_6 = 0 && (a0_7 == 0 && (a0_8.toList.isEmpty && (a0_9 == 0)))) := by simpa using c17))
      clear c17
      obtain rfl := Option.some.inj H
      obtain ⟨hcz19_0, hcz19_1, hcz19_2, hcz19_3, hcz19_4, hcz19_5, hcz19_6, hcz19_7, hcz19_8, hcz19_9, hfz19_0, hfz19_1, hfz19_2, hfz19_3, hfz19_4, hfz19_5, hfz19_6, hfz19_7, hfz19_8, hfz19_9⟩ := cells10 BK291.out
      go_wp2_with (first | ((with_reducible refine gate_callee (f := 117) rfl ?_); refine sC (some 28) Try.func117 #[.int .i64 a0_3, .int .i64 (-1000), .int .i64 1000] (impl_within.calls a0_3 (-1000) 1000 true _ A14.out) ?_; rintro e w' ⟨rfl, ⟨nd, rfl⟩⟩; refine ⟨_, rfl, ?_⟩))
      go_ret
      exact ⟨sq, sb⟩
     rw [if_neg c16] at H
     have c16b0 : ((l0_4.length : Int) == 0) = false := beq_eq_false_iff_ne.mpr c16
     have c16b1 : ((l0_4.length : Int) != 0) = true := bne_iff_ne.mpr c16
     have c16b2 : ¬ (l0_4 = []) := fun h_ => c16 (by rw [h_]; rfl)
     obtain rfl := Option.some.inj H
     obtain ⟨hcz20_0, hcz20_1, hcz20_2, hcz20_3, hcz20_4, hcz20_5, hcz20_6, hcz20_7, hcz20_8, hcz20_9, hfz20_0, hfz20_1, hfz20_2, hfz20_3, hfz20_4, hfz20_5, hfz20_6, hfz20_7, hfz20_8, hfz20_9⟩ := cells10 BK291.out
     go_wp2_with (first | ((with_reducible refine gate_callee (f := 117) rfl ?_); refine sC (some 28) Try.func117 #[.int .i64 a0_3, .int .i64 (-1000), .int .i64 1000] (impl_within.calls a0_3 (-1000) 1000 true _ A14.out) ?_; rintro e w' ⟨rfl, ⟨nd, rfl⟩⟩; refine ⟨_, rfl, ?_⟩))
     go_ret
     exact ⟨sq, sb⟩
    replace c15 := Bool.eq_false_iff.mpr c15
    subst c15
    rewrite [if_neg (show ¬ (false = true) by decide)] at H
    obtain rfl := Option.some.inj H
    obtain ⟨hcz21_0, hcz21_1, hcz21_2, hcz21_3, hcz21_4, hcz21_5, hcz21_6, hcz21_7, hcz21_8, hcz21_9, hfz21_0, hfz21_1, hfz21_2, hfz21_3, hfz21_4, hfz21_5, hfz21_6, hfz21_7, hfz21_8, hfz21_9⟩ := cells10 BK291.out
    go_wp2_with (first | ((with_reducible refine gate_callee (f := 117) rfl ?_); refine sC (some 28) Try.func117 #[.int .i64 a0_3, .int .i64 (-1000), .int .i64 1000] (impl_within.calls a0_3 (-1000) 1000 false _ A14.out) ?_; rintro e w' ⟨rfl, ⟨nd, rfl⟩⟩; refine ⟨_, rfl, ?_⟩))
    go_ret
    exact ⟨sq, sb⟩
   rw [if_neg c13] at H
   have c13b0 : (a0_1 == 1) = false := beq_eq_false_iff_ne.mpr c13
   have c13b1 : (a0_1 != 1) = true := bne_iff_ne.mpr c13
   by_cases c22 : a0_1 = 2
   ·rw [if_pos c22] at H
    have c22b0 : (a0_1 == 2) = true := beq_iff_eq.mpr c22
    have c22b1 : (a0_1 != 2) = false := bne_eq_false_iff_eq.mpr c22
    clear c22
    by_cases c23 : (l0_4.length : Int) = (l0_5.length : Int)
    ·rw [if_pos c23] at H
     have c23b0 : ((l0_4.length : Int) == (l0_5.length : Int)) = true := beq_iff_eq.mpr c23
     have c23b1 : ((l0_4.length : Int) != (l0_5.length : Int)) = false := bne_eq_false_iff_eq.mpr c23
     have c23b2 : (l0_4.length == l0_5.length) = true := by first | simpa using c23 | (simp at c23 ⊢; omega)
     clear c23
     obtain ⟨t295, A24, H⟩ := sO H
     by_cases c25 : t295 = true
     ·subst c25
      rewrite [if_pos rfl] at H
      obtain ⟨t296, A26, H⟩ := sO H
      by_cases c27 : a0_3 = 0
      ·rw [if_pos c27] at H
       have c27b0 : (a0_3 == 0) = true := beq_iff_eq.mpr c27
       have c27b1 : (a0_3 != 0) = false := bne_eq_false_iff_eq.mpr c27
       clear c27
       by_cases c28 : t296 = true
       ·subst c28
        rewrite [if_pos rfl] at H
        obtain ⟨t297, A29, H⟩ := sO H
        by_cases c30 : t297 = true
        ·subst c30
         rewrite [if_pos rfl] at H
         obtain rfl := Option.some.inj H
         obtain ⟨hcz31_0, hcz31_1, hcz31_2, hcz31_3, hcz31_4, hcz31_5, hcz31_6, hcz31_7, hcz31_8, hcz31_9, hfz31_0, hfz31_1, hfz31_2, hfz31_3, hfz31_4, hfz31_5, hfz31_6, hfz31_7, hfz31_8, hfz31_9⟩ := cells10 BK291.out
         go_wp2_with (first | (go_at_call 124; (with_reducible refine (impl_Value__impl_ValidValue.calls kj1 _ _ l0_4  true _ ?side1 ?side2 A24.out).mono ?_); (case side1 => exact sD (Kd.C_below HR0_4.out HB.out)); (case side2 => exact HC0_4.out); rintro e w32 ⟨rfl, hb⟩; have n0_ := sK BK291 hb; have n1_ := sB HB hb; clear BK291; clear HB; have BK291 := n0_; have HB := n1_; clear n0_ n1_; (try clear hb); (try clear hb2); (try clear hk); (try clear hi); obtain ⟨hcz33_0, hcz33_1, hcz33_2, hcz33_3, hcz33_4, hcz33_5, hcz33_6, hcz33_7, hcz33_8, hcz33_9, hfz33_0, hfz33_1, hfz33_2, hfz33_3, hfz33_4, hfz33_5, hfz33_6, hfz33_7, hfz33_8, hfz33_9⟩ := cells10 BK291.out) | (go_at_call 126; (with_reducible refine (impl_areDifferent.calls kj1 _ _ l0_4 true _ ?side1 ?side2 A26.out).mono ?_); (case side1 => exact sD (Kd.C_below HR0_4.out HB.out)); (case side2 => exact HC0_4.out); rintro e w34 ⟨rfl, hb⟩; have n0_ := sK BK291 hb; have n1_ := sB HB hb; clear BK291; clear HB; have BK291 := n0_; have HB := n1_; clear n0_ n1_; (try clear hb); (try clear hb2); (try clear hk); (try clear hi); obtain ⟨hcz35_0, hcz35_1, hcz35_2, hcz35_3, hcz35_4, hcz35_5, hcz35_6, hcz35_7, hcz35_8, hcz35_9, hfz35_0, hfz35_1, hfz35_2, hfz35_3, hfz35_4, hfz35_5, hfz35_6, hfz35_7, hfz35_8, hfz35_9⟩ := cells10 BK291.out) | (go_at_call 125; (with_reducible refine (impl_ValidValue.calls kj1 a0_6 a0_7 a0_8 a0_9 true _ A29.out).mono ?_); rintro e w36 ⟨rfl, hb⟩; have n0_ := sK BK291 hb; have n1_ := sB HB hb; clear BK291; clear HB; have BK291 := n0_; have HB := n1_; clear n0_ n1_; (try clear hb); (try clear hb2); (try clear hk); (try clear hi); obtain ⟨hcz37_0, hcz37_1, hcz37_2, hcz37_3, hcz37_4, hcz37_5, hcz37_6, hcz37_7, hcz37_8, hcz37_9, hfz37_0, hfz37_1, hfz37_2, hfz37_3, hfz37_4, hfz37_5, hfz37_6, hfz37_7, hfz37_8, hfz37_9⟩ := cells10 BK291.out))
         go_ret
         exact ⟨sq, sb⟩
        replace c30 := Bool.eq_false_iff.mpr c30
        subst c30
        rewrite [if_neg (show ¬ (false = true) by decide)] at H
        obtain rfl := Option.some.inj H
        obtain ⟨hcz38_0, hcz38_1, hcz38_2, hcz38_3, hcz38_4, hcz38_5, hcz38_6, hcz38_7, hcz38_8, hcz38_9, hfz38_0, hfz38_1, hfz38_2, hfz38_3, hfz38_4, hfz38_5, hfz38_6, hfz38_7, hfz38_8, hfz38_9⟩ := cells10 BK291.out
        go_wp2_with (first | (go_at_call 124; (with_reducible refine (impl_Value__impl_ValidValue.calls kj1 _ _ l0_4  true _ ?side1 ?side2 A24.out).mono ?_); (case side1 => exact sD (Kd.C_below HR0_4.out HB.out)); (case side2 => exact HC0_4.out); rintro e w39 ⟨rfl, hb⟩; have n0_ := sK BK291 hb; have n1_ := sB HB hb; clear BK291; clear HB; have BK291 := n0_; have HB := n1_; clear n0_ n1_; (try clear hb); (try clear hb2); (try clear hk); (try clear hi); obtain ⟨hcz40_0, hcz40_1, hcz40_2, hcz40_3, hcz40_4, hcz40_5, hcz40_6, hcz40_7, hcz40_8, hcz40_9, hfz40_0, hfz40_1, hfz40_2, hfz40_3, hfz40_4, hfz40_5, hfz40_6, hfz40_7, hfz40_8, hfz40_9⟩ := cells10 BK291.out) | (go_at_call 126; (with_reducible refine (impl_areDifferent.calls kj1 _ _ l0_4 true _ ?side1 ?side2 A26.out).mono ?_); (case side1 => exact sD (Kd.C_below HR0_4.out HB.out)); (case side2 => exact HC0_4.out); rintro e w41 ⟨rfl, hb⟩; have n0_ := sK BK291 hb; have n1_ := sB HB hb; clear BK291; clear HB; have BK291 := n0_; have HB := n1_; clear n0_ n1_; (try clear hb); (try clear hb2); (try clear hk); (try clear hi); obtain ⟨hcz42_0, hcz42_1, hcz42_2, hcz42_3, hcz42_4, hcz42_5, hcz42_6, hcz42_7, hcz42_8, hcz42_9, hfz42_0, hfz42_1, hfz42_2, hfz42_3, hfz42_4, hfz42_5, hfz42_6, hfz42_7, hfz42_8, hfz42_9⟩ := cells10 BK291.out) | (go_at_call 125; (with_reducible refine (impl_ValidValue.calls kj1 a0_6 a0_7 a0_8 a0_9 false _ A29.out).mono ?_); rintro e w43 ⟨rfl, hb⟩; have n0_ := sK BK291 hb; have n1_ := sB HB hb; clear BK291; clear HB; have BK291 := n0_; have HB := n1_; clear n0_ n1_; (try clear hb); (try clear hb2); (try clear hk); (try clear hi)))
        go_ret
        exact ⟨sq, sb⟩
       replace c28 := Bool.eq_false_iff.mpr c28
       subst c28
       rewrite [if_neg (show ¬ (false = true) by decide)] at H
       obtain rfl := Option.some.inj H
       obtain ⟨hcz44_0, hcz44_1, hcz44_2, hcz44_3, hcz44_4, hcz44_5, hcz44_6, hcz44_7, hcz44_8, hcz44_9, hfz44_0, hfz44_1, hfz44_2, hfz44_3, hfz44_4, hfz44_5, hfz44_6, hfz44_7, hfz44_8, hfz44_9⟩ := cells10 BK291.out
       go_wp2_with (first | (go_at_call 124; (with_reducible refine (impl_Value__impl_ValidValue.calls kj1 _ _ l0_4  true _ ?side1 ?side2 A24.out).mono ?_); (case side1 => exact sD (Kd.C_below HR0_4.out HB.out)); (case side2 => exact HC0_4.out); rintro e w45 ⟨rfl, hb⟩; have n0_ := sK BK291 hb; have n1_ := sB HB hb; clear BK291; clear HB; have BK291 := n0_; have HB := n1_; clear n0_ n1_; (try clear hb); (try clear hb2); (try clear hk); (try clear hi); obtain ⟨hcz46_0, hcz46_1, hcz46_2, hcz46_3, hcz46_4, hcz46_5, hcz46_6, hcz46_7, hcz46_8, hcz46_9, hfz46_0, hfz46_1, hfz46_2, hfz46_3, hfz46_4, hfz46_5, hfz46_6, hfz46_7, hfz46_8, hfz46_9⟩ := cells10 BK291.out) | (go_at_call 126; (with_reducible refine (impl_areDifferent.calls kj1 _ _ l0_4 false _ ?side1 ?side2 A26.out).mono ?_); (case side1 => exact sD (Kd.C_below HR0_4.out HB.out)); (case side2 => exact HC0_4.out); rintro e w47 ⟨rfl, hb⟩; have n0_ := sK BK291 hb; have n1_ := sB HB hb; clear BK291; clear HB; have BK291 := n0_; have HB := n1_; clear n0_ n1_; (try clear hb); (try clear hb2); (try clear hk); (try clear hi); obtain ⟨hcz48_0, hcz48_1, hcz48_2, hcz48_3, hcz48_4, hcz48_5, hcz48_6, hcz48_7, hcz48_8, hcz48_9, hfz48_0, hfz48_1, hfz48_2, hfz48_3, hfz48_4, hfz48_5, hfz48_6, hfz48_7, hfz48_8, hfz48_9⟩ := cells10 BK291.out))
       go_ret
       exact ⟨sq, sb⟩
      rw [if_neg c27] at H
      have c27b0 : (a0_3 == 0) = false := beq_eq_false_iff_ne.mpr c27
      have c27b1 : (a0_3 != 0) = true := bne_iff_ne.mpr c27
      obtain rfl := Option.some.inj H
      obtain ⟨hcz49_0, hcz49_1, hcz49_2, hcz49_3, hcz49_4, hcz49_5, hcz49_6, hcz49_7, hcz49_8, hcz49_9, hfz49_0, hfz49_1, hfz49_2, hfz49_3, hfz49_4, hfz49_5, hfz49_6, hfz49_7, hfz49_8, hfz49_9⟩ := cells10 BK291.out
      go_wp2_with (first | (go_at_call 124; (with_reducible refine (impl_Value__impl_ValidValue.calls kj1 _ _ l0_4  true _ ?side1 ?side2 A24.out).mono ?_); (case side1 => exact sD (Kd.C_below HR0_4.out HB.out)); (case side2 => exact HC0_4.out); rintro e w50 ⟨rfl, hb⟩; have n0_ := sK BK291 hb; have n1_ := sB HB hb; clear BK291; clear HB; have BK291 := n0_; have HB := n1_; clear n0_ n1_; (try clear hb); (try clear hb2); (try clear hk); (try clear hi); obtain ⟨hcz51_0, hcz51_1, hcz51_2, hcz51_3, hcz51_4, hcz51_5, hcz51_6, hcz51_7, hcz51_8, hcz51_9, hfz51_0, hfz51_1, hfz51_2, hfz51_3, hfz51_4, hfz51_5, hfz51_6, hfz51_7, hfz51_8, hfz51_9⟩ := cells10 BK291.out) | (go_at_call 126; (with_reducible refine (impl_areDifferent.calls kj1 _ _ l0_4 t296 _ ?side1 ?side2 A26.out).mono ?_); (case side1 => exact sD (Kd.C_below HR0_4.out HB.out)); (case side2 => exact HC0_4.out); rintro e w52 ⟨rfl, hb⟩; have n0_ := sK BK291 hb; have n1_ := sB HB hb; clear BK291; clear HB; have BK291 := n0_; have HB := n1_; clear n0_ n1_; (try clear hb); (try clear hb2); (try clear hk); (try clear hi); obtain ⟨hcz53_0, hcz53_1, hcz53_2, hcz53_3, hcz53_4, hcz53_5, hcz53_6, hcz53_7, hcz53_8, hcz53_9, hfz53_0, hfz53_1, hfz53_2, hfz53_3, hfz53_4, hfz53_5, hfz53_6, hfz53_7, hfz53_8, hfz53_9⟩ := cells10 BK291.out))
      go_ret
      exact ⟨sq, sb⟩
     replace c25 := Bool.eq_false_iff.mpr c25
     subst c25
     rewrite [if_neg (show ¬ (false = true) by decide)] at H
     by_cases c54 : a0_3 = 0
     ·rw [if_pos c54] at H
      have c54b0 : (a0_3 == 0) = true := beq_iff_eq.mpr c54
      have c54b1 : (a0_3 != 0) = false := bne_eq_false_iff_eq.mpr c54
      clear c54
      obtain rfl := Option.some.inj H
      obtain ⟨hcz55_0, hcz55_1, hcz55_2, hcz55_3, hcz55_4, hcz55_5, hcz55_6, hcz55_7, hcz55_8, hcz55_9, hfz55_0, hfz55_1, hfz55_2, hfz55_3, hfz55_4, hfz55_5, hfz55_6, hfz55_7, hfz55_8, hfz55_9⟩ := cells10 BK291.out
      go_wp2_with (first | (go_at_call 124; (with_reducible refine (impl_Value__impl_ValidValue.calls kj1 _ _ l0_4  false _ ?side1 ?side2 A24.out).mono ?_); (case side1 => exact sD (Kd.C_below HR0_4.out HB.out)); (case side2 => exact HC0_4.out); rintro e w56 ⟨rfl, hb⟩; have n0_ := sK BK291 hb; have n1_ := sB HB hb; clear BK291; clear HB; have BK291 := n0_; have HB := n1_; clear n0_ n1_; (try clear hb); (try clear hb2); (try clear hk); (try clear hi); obtain ⟨hcz57_0, hcz57_1, hcz57_2, hcz57_3, hcz57_4, hcz57_5, hcz57_6, hcz57_7, hcz57_8, hcz57_9, hfz57_0, hfz57_1, hfz57_2, hfz57_3, hfz57_4, hfz57_5, hfz57_6, hfz57_7, hfz57_8, hfz57_9⟩ := cells10 BK291.out))
      go_ret
      exact ⟨sq, sb⟩
     rw [if_neg c54] at H
     have c54b0 : (a0_3 == 0) = false := beq_eq_false_iff_ne.mpr c54
     have c54b1 : (a0_3 != 0) = true := bne_iff_ne.mpr c54
     obtain rfl := Option.some.inj H
     obtain ⟨hcz58_0, hcz58_1, hcz58_2, hcz58_3, hcz58_4, hcz58_5, hcz58_6, hcz58_7, hcz58_8, hcz58_9, hfz58_0, hfz58_1, hfz58_2, hfz58_3, hfz58_4, hfz58_5, hfz58_6, hfz58_7, hfz58_8, hfz58_9⟩ := cells10 BK291.out
     go_wp2_with (first | (go_at_call 124; (with_reducible refine (impl_Value__impl_ValidValue.calls kj1 _ _ l0_4  false _ ?side1 ?side2 A24.out).mono ?_); (case side1 => exact sD (Kd.C_below HR0_4.out HB.out)); (case side2 => exact HC0_4.out); rintro e w59 ⟨rfl, hb⟩; have n0_ := sK BK291 hb; have n1_ := sB HB hb; clear BK291; clear HB; have BK291 := n0_; have HB := n1_; clear n0_ n1_; (try clear hb); (try clear hb2); (try clear hk); (try clear hi); obtain ⟨hcz60_0, hcz60_1, hcz60_2, hcz60_3, hcz60_4, hcz60_5, hcz60_6, hcz60_7, hcz60_8, hcz60_9, hfz60_0, hfz60_1, hfz60_2, hfz60_3, hfz60_4, hfz60_5, hfz60_6, hfz60_7, hfz60_8, hfz60_9⟩ := cells10 BK291.out))
     go_ret
     exact ⟨sq, sb⟩
    rw [if_neg c23] at H
    have c23b0 : ((l0_4.length : Int) == (l0_5.length : Int)) = false := beq_eq_false_iff_ne.mpr c23
    have c23b1 : ((l0_4.length : Int) != (l0_5.length : Int)) = true := bne_iff_ne.mpr c23
    have c23b2 : (l0_4.length == l0_5.length) = false := by first | simpa using c23 | (simp at c23 ⊢; omega)
    by_cases c61 : a0_3 = 0
    ·rw [if_pos c61] at H
     have c61b0 : (a0_3 == 0) = true := beq_iff_eq.mpr c61
     have c61b1 : (a0_3 != 0) = false := bne_eq_false_iff_eq.mpr c61
     clear c61
     obtain rfl := Option.some.inj H
     obtain ⟨hcz62_0, hcz62_1, hcz62_2, hcz62_3, hcz62_4, hcz62_5, hcz62_6, hcz62_7, hcz62_8, hcz62_9, hfz62_0, hfz62_1, hfz62_2, hfz62_3, hfz62_4, hfz62_5, hfz62_6, hfz62_7, hfz62_8, hfz62_9⟩ := cells10 BK291.out
     go_wp2
     go_ret
     exact ⟨sq, sb⟩
    rw [if_neg c61] at H
    have c61b0 : (a0_3 == 0) = false := beq_eq_false_iff_ne.mpr c61
    have c61b1 : (a0_3 != 0) = true := bne_iff_ne.mpr c61
    obtain rfl := Option.some.inj H
    obtain ⟨hcz63_0, hcz63_1, hcz63_2, hcz63_3, hcz63_4, hcz63_5, hcz63_6, hcz63_7, hcz63_8, hcz63_9, hfz63_0, hfz63_1, hfz63_2, hfz63_3, hfz63_4, hfz63_5, hfz63_6, hfz63_7, hfz63_8, hfz63_9⟩ := cells10 BK291.out
    go_wp2
    go_ret
    exact ⟨sq, sb⟩
   rw [if_neg c22] at H
   have c22b0 : (a0_1 == 2) = false := beq_eq_false_iff_ne.mpr c22
   have c22b1 : (a0_1 != 2) = true := bne_iff_ne.mpr c22
   by_cases c64 : a0_1 = 3
   ·rw [if_pos c64] at H
    have c64b0 : (a0_1 == 3) = true := beq_iff_eq.mpr c64
    have c64b1 : (a0_1 != 3) = false := bne_eq_false_iff_eq.mpr c64
    clear c64
    by_cases c65 : (l0_4.length : Int) ≥ 1
    ·rw [if_pos c65] at H
     have c65b0 : decide (1 ≤ (l0_4.length : Int)) = true := decide_eq_true c65
     have c65b1 : decide (1 ≤ l0_4.length) = true := decide_eq_true (by omega)
     clear c65
     by_cases c66 : (l0_4.length : Int) ≤ 6
     ·rw [if_pos c66] at H
      have c66b0 := decide_eq_true c66
      have c66b1 : decide (l0_4.length ≤ 6) = true := decide_eq_true (by omega)
      clear c66
      by_cases c67 : (l0_4.length : Int) = (l0_5.length : Int)
      ·rw [if_pos c67] at H
       have c67b0 : ((l0_4.length : Int) == (l0_5.length : Int)) = true := beq_iff_eq.mpr c67
       have c67b1 : ((l0_4.length : Int) != (l0_5.length : Int)) = false := bne_eq_false_iff_eq.mpr c67
       have c67b2 : (l0_4.length == l0_5.length) = true := by first | simpa using c67 | (simp at c67 ⊢; omega)
       clear c67
       obtain ⟨t298, A68, H⟩ := sO H
       by_cases c69 : t298 = true
       ·subst c69
        rewrite [if_pos rfl] at H
        obtain ⟨t299, A70, H⟩ := sO H
        by_cases c71 : a0_3 = 0
        ·rw [if_pos c71] at H
         have c71b0 : (a0_3 == 0) = true := beq_iff_eq.mpr c71
         have c71b1 : (a0_3 != 0) = false := bne_eq_false_iff_eq.mpr c71
         clear c71
         by_cases c72 : t299 = true
         ·subst c72
          rewrite [if_pos rfl] at H
          by_cases c73 : (a0_6 == 0 && (a0_7 == 0 && (a0_8.toList.isEmpty && (a0_9 == 0)))) = true
          ·rw [if_pos c73] at H
           have c73b0 : (a0_6 == 0 && (a0_7 == 0 && (a0_8.toList.isEmpty && (a0_9 == 0)))) = true := c73
           (try (have c73b1 : decide (a0_6 = 0 && (a0_7 == 0 && (a0_8.toList.isEmpty && (a0_9 == 0)))) = true := by simpa using c73))
           (try (have c73b2 : (a0_6 == 0 && (a0_7 == 0 && (a0_8.toList.isEmpty && (a0_9 == 0)))) = true := by simpa using c73))
           clear c73
           obtain ⟨t300, A74, H⟩ := sO H
           obtain rfl := Option.some.inj H
           obtain ⟨hcz75_0, hcz75_1, hcz75_2, hcz75_3, hcz75_4, hcz75_5, hcz75_6, hcz75_7, hcz75_8, hcz75_9, hfz75_0, hfz75_1, hfz75_2, hfz75_3, hfz75_4, hfz75_5, hfz75_6, hfz75_7, hfz75_8, hfz75_9⟩ := cells10 BK291.out
           go_wp2_with (first | (go_at_call 124; (with_reducible refine (impl_Value__impl_isField.calls kj1 _ _ l0_4  true _ ?side1 ?side2 A68.out).mono ?_); (case side1 => exact sD (Kd.C_below HR0_4.out HB.out)); (case side2 => exact HC0_4.out); rintro e w76 ⟨rfl, hb⟩; have n0_ := sK BK291 hb; have n1_ := sB HB hb; clear BK291; clear HB; have BK291 := n0_; have HB := n1_; clear n0_ n1_; (try clear hb); (try clear hb2); (try clear hk); (try clear hi); obtain ⟨hcz77_0, hcz77_1, hcz77_2, hcz77_3, hcz77_4, hcz77_5, hcz77_6, hcz77_7, hcz77_8, hcz77_9, hfz77_0, hfz77_1, hfz77_2, hfz77_3, hfz77_4, hfz77_5, hfz77_6, hfz77_7, hfz77_8, hfz77_9⟩ := cells10 BK291.out) | (go_at_call 126; (with_reducible refine (impl_areDifferent.calls kj1 _ _ l0_4 true _ ?side1 ?side2 A70.out).mono ?_); (case side1 => exact sD (Kd.C_below HR0_4.out HB.out)); (case side2 => exact HC0_4.out); rintro e w78 ⟨rfl, hb⟩; have n0_ := sK BK291 hb; have n1_ := sB HB hb; clear BK291; clear HB; have BK291 := n0_; have HB := n1_; clear n0_ n1_; (try clear hb); (try clear hb2); (try clear hk); (try clear hi); obtain ⟨hcz79_0, hcz79_1, hcz79_2, hcz79_3, hcz79_4, hcz79_5, hcz79_6, hcz79_7, hcz79_8, hcz79_9, hfz79_0, hfz79_1, hfz79_2, hfz79_3, hfz79_4, hfz79_5, hfz79_6, hfz79_7, hfz79_8, hfz79_9⟩ := cells10 BK291.out) | (go_at_call 128; (with_reducible refine (impl_IsName.calls kj1 a0_2 t300 _ A74.out).mono ?_); rintro e w80 ⟨rfl, hb⟩; have n0_ := sK BK291 hb; have n1_ := sB HB hb; clear BK291; clear HB; have BK291 := n0_; have HB := n1_; clear n0_ n1_; (try clear hb); (try clear hb2); (try clear hk); (try clear hi)))
           go_ret
           exact ⟨sq, sb⟩
          rw [if_neg c73] at H
          have c73b0 : (a0_6 == 0 && (a0_7 == 0 && (a0_8.toList.isEmpty && (a0_9 == 0)))) = false := by simpa using c73
          (try (have c73b1 : decide (a0_6 = 0 && (a0_7 == 0 && (a0_8.toList.isEmpty && (a0_9 == 0)))) = false := by simpa using c73))
          (try (have c73b2 : (a0_6 == 0 && (a0_7 == 0 && (a0_8.toList.isEmpty && (a0_9 == 0)))) = false := by simpa using c73))
          (try (have c73b3 : ¬ (a0_6 = 0 && (a0_7 == 0 && (a0_8.toList.isEmpty && (a0_9 == 0)))) := by simpa using c73))
          clear c73
          obtain rfl := Option.some.inj H
          obtain ⟨hcz81_0, hcz81_1, hcz81_2, hcz81_3, hcz81_4, hcz81_5, hcz81_6, hcz81_7, hcz81_8, hcz81_9, hfz81_0, hfz81_1, hfz81_2, hfz81_3, hfz81_4, hfz81_5, hfz81_6, hfz81_7, hfz81_8, hfz81_9⟩ := cells10 BK291.out
          go_wp2_with (first | (go_at_call 124; (with_reducible refine (impl_Value__impl_isField.calls kj1 _ _ l0_4  true _ ?side1 ?side2 A68.out).mono ?_); (case side1 => exact sD (Kd.C_below HR0_4.out HB.out)); (case side2 => exact HC0_4.out); rintro e w82 ⟨rfl, hb⟩; have n0_ := sK BK291 hb; have n1_ := sB HB hb; clear BK291; clear HB; have BK291 := n0_; have HB := n1_; clear n0_ n1_; (try clear hb); (try clear hb2); (try clear hk); (try clear hi); obtain ⟨hcz83_0, hcz83_1, hcz83_2, hcz83_3, hcz83_4, hcz83_5, hcz83_6, hcz83_7, hcz83_8, hcz83_9, hfz83_0, hfz83_1, hfz83_2, hfz83_3, hfz83_4, hfz83_5, hfz83_6, hfz83_7, hfz83_8, hfz83_9⟩ := cells10 BK291.out) | (go_at_call 126; (with_reducible refine (impl_areDifferent.calls kj1 _ _ l0_4 true _ ?side1 ?side2 A70.out).mono ?_); (case side1 => exact sD (Kd.C_below HR0_4.out HB.out)); (case side2 => exact HC0_4.out); rintro e w84 ⟨rfl, hb⟩; have n0_ := sK BK291 hb; have n1_ := sB HB hb; clear BK291; clear HB; have BK291 := n0_; have HB := n1_; clear n0_ n1_; (try clear hb); (try clear hb2); (try clear hk); (try clear hi); obtain ⟨hcz85_0, hcz85_1, hcz85_2, hcz85_3, hcz85_4, hcz85_5, hcz85_6, hcz85_7, hcz85_8, hcz85_9, hfz85_0, hfz85_1, hfz85_2, hfz85_3, hfz85_4, hfz85_5, hfz85_6, hfz85_7, hfz85_8, hfz85_9⟩ := cells10 BK291.out))
          go_ret
          exact ⟨sq, sb⟩
         replace c72 := Bool.eq_false_iff.mpr c72
         subst c72
         rewrite [if_neg (show ¬ (false = true) by decide)] at H
         obtain rfl := Option.some.inj H
         obtain ⟨hcz86_0, hcz86_1, hcz86_2, hcz86_3, hcz86_4, hcz86_5, hcz86_6, hcz86_7, hcz86_8, hcz86_9, hfz86_0, hfz86_1, hfz86_2, hfz86_3, hfz86_4, hfz86_5, hfz86_6, hfz86_7, hfz86_8, hfz86_9⟩ := cells10 BK291.out
         go_wp2_with (first | (go_at_call 124; (with_reducible refine (impl_Value__impl_isField.calls kj1 _ _ l0_4  true _ ?side1 ?side2 A68.out).mono ?_); (case side1 => exact sD (Kd.C_below HR0_4.out HB.out)); (case side2 => exact HC0_4.out); rintro e w87 ⟨rfl, hb⟩; have n0_ := sK BK291 hb; have n1_ := sB HB hb; clear BK291; clear HB; have BK291 := n0_; have HB := n1_; clear n0_ n1_; (try clear hb); (try clear hb2); (try clear hk); (try clear hi); obtain ⟨hcz88_0, hcz88_1, hcz88_2, hcz88_3, hcz88_4, hcz88_5, hcz88_6, hcz88_7, hcz88_8, hcz88_9, hfz88_0, hfz88_1, hfz88_2, hfz88_3, hfz88_4, hfz88_5, hfz88_6, hfz88_7, hfz88_8, hfz88_9⟩ := cells10 BK291.out) | (go_at_call 126; (with_reducible refine (impl_areDifferent.calls kj1 _ _ l0_4 false _ ?side1 ?side2 A70.out).mono ?_); (case side1 => exact sD (Kd.C_below HR0_4.out HB.out)); (case side2 => exact HC0_4.out); rintro e w89 ⟨rfl, hb⟩; have n0_ := sK BK291 hb; have n1_ := sB HB hb; clear BK291; clear HB; have BK291 := n0_; have HB := n1_; clear n0_ n1_; (try clear hb); (try clear hb2); (try clear hk); (try clear hi); obtain ⟨hcz90_0, hcz90_1, hcz90_2, hcz90_3, hcz90_4, hcz90_5, hcz90_6, hcz90_7, hcz90_8, hcz90_9, hfz90_0, hfz90_1, hfz90_2, hfz90_3, hfz90_4, hfz90_5, hfz90_6, hfz90_7, hfz90_8, hfz90_9⟩ := cells10 BK291.out))
         go_ret
         exact ⟨sq, sb⟩
        rw [if_neg c71] at H
        have c71b0 : (a0_3 == 0) = false := beq_eq_false_iff_ne.mpr c71
        have c71b1 : (a0_3 != 0) = true := bne_iff_ne.mpr c71
        obtain rfl := Option.some.inj H
        obtain ⟨hcz91_0, hcz91_1, hcz91_2, hcz91_3, hcz91_4, hcz91_5, hcz91_6, hcz91_7, hcz91_8, hcz91_9, hfz91_0, hfz91_1, hfz91_2, hfz91_3, hfz91_4, hfz91_5, hfz91_6, hfz91_7, hfz91_8, hfz91_9⟩ := cells10 BK291.out
        go_wp2_with (first | (go_at_call 124; (with_reducible refine (impl_Value__impl_isField.calls kj1 _ _ l0_4  true _ ?side1 ?side2 A68.out).mono ?_); (case side1 => exact sD (Kd.C_below HR0_4.out HB.out)); (case side2 => exact HC0_4.out); rintro e w92 ⟨rfl, hb⟩; have n0_ := sK BK291 hb; have n1_ := sB HB hb; clear BK291; clear HB; have BK291 := n0_; have HB := n1_; clear n0_ n1_; (try clear hb); (try clear hb2); (try clear hk); (try clear hi); obtain ⟨hcz93_0, hcz93_1, hcz93_2, hcz93_3, hcz93_4, hcz93_5, hcz93_6, hcz93_7, hcz93_8, hcz93_9, hfz93_0, hfz93_1, hfz93_2, hfz93_3, hfz93_4, hfz93_5, hfz93_6, hfz93_7, hfz93_8, hfz93_9⟩ := cells10 BK291.out) | (go_at_call 126; (with_reducible refine (impl_areDifferent.calls kj1 _ _ l0_4 t299 _ ?side1 ?side2 A70.out).mono ?_); (case side1 => exact sD (Kd.C_below HR0_4.out HB.out)); (case side2 => exact HC0_4.out); rintro e w94 ⟨rfl, hb⟩; have n0_ := sK BK291 hb; have n1_ := sB HB hb; clear BK291; clear HB; have BK291 := n0_; have HB := n1_; clear n0_ n1_; (try clear hb); (try clear hb2); (try clear hk); (try clear hi); obtain ⟨hcz95_0, hcz95_1, hcz95_2, hcz95_3, hcz95_4, hcz95_5, hcz95_6, hcz95_7, hcz95_8, hcz95_9, hfz95_0, hfz95_1, hfz95_2, hfz95_3, hfz95_4, hfz95_5, hfz95_6, hfz95_7, hfz95_8, hfz95_9⟩ := cells10 BK291.out))
        go_ret
        exact ⟨sq, sb⟩
       replace c69 := Bool.eq_false_iff.mpr c69
       subst c69
       rewrite [if_neg (show ¬ (false = true) by decide)] at H
       by_cases c96 : a0_3 = 0
       ·rw [if_pos c96] at H
        have c96b0 : (a0_3 == 0) = true := beq_iff_eq.mpr c96
        have c96b1 : (a0_3 != 0) = false := bne_eq_false_iff_eq.mpr c96
        clear c96
        obtain rfl := Option.some.inj H
        obtain ⟨hcz97_0, hcz97_1, hcz97_2, hcz97_3, hcz97_4, hcz97_5, hcz97_6, hcz97_7, hcz97_8, hcz97_9, hfz97_0, hfz97_1, hfz97_2, hfz97_3, hfz97_4, hfz97_5, hfz97_6, hfz97_7, hfz97_8, hfz97_9⟩ := cells10 BK291.out
        go_wp2_with (first | (go_at_call 124; (with_reducible refine (impl_Value__impl_isField.calls kj1 _ _ l0_4  false _ ?side1 ?side2 A68.out).mono ?_); (case side1 => exact sD (Kd.C_below HR0_4.out HB.out)); (case side2 => exact HC0_4.out); rintro e w98 ⟨rfl, hb⟩; have n0_ := sK BK291 hb; have n1_ := sB HB hb; clear BK291; clear HB; have BK291 := n0_; have HB := n1_; clear n0_ n1_; (try clear hb); (try clear hb2); (try clear hk); (try clear hi); obtain ⟨hcz99_0, hcz99_1, hcz99_2, hcz99_3, hcz99_4, hcz99_5, hcz99_6, hcz99_7, hcz99_8, hcz99_9, hfz99_0, hfz99_1, hfz99_2, hfz99_3, hfz99_4, hfz99_5, hfz99_6, hfz99_7, hfz99_8, hfz99_9⟩ := cells10 BK291.out))
        go_ret
        exact ⟨sq, sb⟩
       rw [if_neg c96] at H
       have c96b0 : (a0_3 == 0) = false := beq_eq_false_iff_ne.mpr c96
       have c96b1 : (a0_3 != 0) = true := bne_iff_ne.mpr c96
       obtain rfl := Option.some.inj H
       obtain ⟨hcz100_0, hcz100_1, hcz100_2, hcz100_3, hcz100_4, hcz100_5, hcz100_6, hcz100_7, hcz100_8, hcz100_9, hfz100_0, hfz100_1, hfz100_2, hfz100_3, hfz100_4, hfz100_5, hfz100_6, hfz100_7, hfz100_8, hfz100_9⟩ := cells10 BK291.out
       go_wp2_with (first | (go_at_call 124; (with_reducible refine (impl_Value__impl_isField.calls kj1 _ _ l0_4  false _ ?side1 ?side2 A68.out).mono ?_); (case side1 => exact sD (Kd.C_below HR0_4.out HB.out)); (case side2 => exact HC0_4.out); rintro e w101 ⟨rfl, hb⟩; have n0_ := sK BK291 hb; have n1_ := sB HB hb; clear BK291; clear HB; have BK291 := n0_; have HB := n1_; clear n0_ n1_; (try clear hb); (try clear hb2); (try clear hk); (try clear hi); obtain ⟨hcz102_0, hcz102_1, hcz102_2, hcz102_3, hcz102_4, hcz102_5, hcz102_6, hcz102_7, hcz102_8, hcz102_9, hfz102_0, hfz102_1, hfz102_2, hfz102_3, hfz102_4, hfz102_5, hfz102_6, hfz102_7, hfz102_8, hfz102_9⟩ := cells10 BK291.out))
       go_ret
       exact ⟨sq, sb⟩
      rw [if_neg c67] at H
      have c67b0 : ((l0_4.length : Int) == (l0_5.length : Int)) = false := beq_eq_false_iff_ne.mpr c67
      have c67b1 : ((l0_4.length : Int) != (l0_5.length : Int)) = true := bne_iff_ne.mpr c67
      have c67b2 : (l0_4.length == l0_5.length) = false := by first | simpa using c67 | (simp at c67 ⊢; omega)
      by_cases c103 : a0_3 = 0
      ·rw [if_pos c103] at H
       have c103b0 : (a0_3 == 0) = true := beq_iff_eq.mpr c103
       have c103b1 : (a0_3 != 0) = false := bne_eq_false_iff_eq.mpr c103
       clear c103
       obtain rfl := Option.some.inj H
       obtain ⟨hcz104_0, hcz104_1, hcz104_2, hcz104_3, hcz104_4, hcz104_5, hcz104_6, hcz104_7, hcz104_8, hcz104_9, hfz104_0, hfz104_1, hfz104_2, hfz104_3, hfz104_4, hfz104_5, hfz104_6, hfz104_7, hfz104_8, hfz104_9⟩ := cells10 BK291.out
       go_wp2
       go_ret
       exact ⟨sq, sb⟩
      rw [if_neg c103] at H
      have c103b0 : (a0_3 == 0) = false := beq_eq_false_iff_ne.mpr c103
      have c103b1 : (a0_3 != 0) = true := bne_iff_ne.mpr c103
      obtain rfl := Option.some.inj H
      obtain ⟨hcz105_0, hcz105_1, hcz105_2, hcz105_3, hcz105_4, hcz105_5, hcz105_6, hcz105_7, hcz105_8, hcz105_9, hfz105_0, hfz105_1, hfz105_2, hfz105_3, hfz105_4, hfz105_5, hfz105_6, hfz105_7, hfz105_8, hfz105_9⟩ := cells10 BK291.out
      go_wp2
      go_ret
      exact ⟨sq, sb⟩
     rw [if_neg c66] at H
     have c66b0 := decide_eq_false c66
     have c66b1 : decide (l0_4.length ≤ 6) = false := decide_eq_false (by omega)
     clear c66
     by_cases c106 : a0_3 = 0
     ·rw [if_pos c106] at H
      have c106b0 : (a0_3 == 0) = true := beq_iff_eq.mpr c106
      have c106b1 : (a0_3 != 0) = false := bne_eq_false_iff_eq.mpr c106
      clear c106
      obtain rfl := Option.some.inj H
      obtain ⟨hcz107_0, hcz107_1, hcz107_2, hcz107_3, hcz107_4, hcz107_5, hcz107_6, hcz107_7, hcz107_8, hcz107_9, hfz107_0, hfz107_1, hfz107_2, hfz107_3, hfz107_4, hfz107_5, hfz107_6, hfz107_7, hfz107_8, hfz107_9⟩ := cells10 BK291.out
      go_wp2
      go_ret
      exact ⟨sq, sb⟩
     rw [if_neg c106] at H
     have c106b0 : (a0_3 == 0) = false := beq_eq_false_iff_ne.mpr c106
     have c106b1 : (a0_3 != 0) = true := bne_iff_ne.mpr c106
     obtain rfl := Option.some.inj H
     obtain ⟨hcz108_0, hcz108_1, hcz108_2, hcz108_3, hcz108_4, hcz108_5, hcz108_6, hcz108_7, hcz108_8, hcz108_9, hfz108_0, hfz108_1, hfz108_2, hfz108_3, hfz108_4, hfz108_5, hfz108_6, hfz108_7, hfz108_8, hfz108_9⟩ := cells10 BK291.out
     go_wp2
     go_ret
     exact ⟨sq, sb⟩
    rw [if_neg c65] at H
    have c65b0 : decide (1 ≤ (l0_4.length : Int)) = false := decide_eq_false c65
    have c65b1 : decide (1 ≤ l0_4.length) = false := decide_eq_false (by omega)
    clear c65
    by_cases c109 : a0_3 = 0
    ·rw [if_pos c109] at H
     have c109b0 : (a0_3 == 0) = true := beq_iff_eq.mpr c109
     have c109b1 : (a0_3 != 0) = false := bne_eq_false_iff_eq.mpr c109
     clear c109
     obtain rfl := Option.some.inj H
     obtain ⟨hcz110_0, hcz110_1, hcz110_2, hcz110_3, hcz110_4, hcz110_5, hcz110_6, hcz110_7, hcz110_8, hcz110_9, hfz110_0, hfz110_1, hfz110_2, hfz110_3, hfz110_4, hfz110_5, hfz110_6, hfz110_7, hfz110_8, hfz110_9⟩ := cells10 BK291.out
     go_wp2
     go_ret
     exact ⟨sq, sb⟩
    rw [if_neg c109] at H
    have c109b0 : (a0_3 == 0) = false := beq_eq_false_iff_ne.mpr c109
    have c109b1 : (a0_3 != 0) = true := bne_iff_ne.mpr c109
    obtain rfl := Option.some.inj H
    obtain ⟨hcz111_0, hcz111_1, hcz111_2, hcz111_3, hcz111_4, hcz111_5, hcz111_6, hcz111_7, hcz111_8, hcz111_9, hfz111_0, hfz111_1, hfz111_2, hfz111_3, hfz111_4, hfz111_5, hfz111_6, hfz111_7, hfz111_8, hfz111_9⟩ := cells10 BK291.out
    go_wp2
    go_ret
    exact ⟨sq, sb⟩
   rw [if_neg c64] at H
   have c64b0 : (a0_1 == 3) = false := beq_eq_false_iff_ne.mpr c64
   have c64b1 : (a0_1 != 3) = true := bne_iff_ne.mpr c64
   obtain rfl := Option.some.inj H
   obtain ⟨hcz112_0, hcz112_1, hcz112_2, hcz112_3, hcz112_4, hcz112_5, hcz112_6, hcz112_7, hcz112_8, hcz112_9, hfz112_0, hfz112_1, hfz112_2, hfz112_3, hfz112_4, hfz112_5, hfz112_6, hfz112_7, hfz112_8, hfz112_9⟩ := cells10 BK291.out
   go_wp2
   go_ret
   exact ⟨sq, sb⟩
end
end Go.Proofs.Ytnjkhdhaiicefaa.PFnExactGetField
