/- Printed functions: laws_FnTranslate. -/
import Derived.Test.YtabbpnkbhapibaaYTrP0
import Derived.Test.YtabbpnkbhapibaaYTrP1
import Derived.Test.YtabbpnkbhapibaaYTrP3
import Derived.Test.YtabbpnkbhapibaaYTrP4
namespace Go.Proofs.Ytabbpnkbhapibaa.PFnTranslate
open Go.RowKit Go.Proofs.YtabbpnkbhapibaaG Go.Proofs.YtabbpnkbhapibaaW.PrintWords Go.Proofs.YtabbpnkbhapibaaW.PrintLast Go.Proofs.YtabbpnkbhapibaaW.PrintMore
attribute [local go_sem] max2_int min2_int max_two min_two max_three min_three max_four min_four   -- for this text's walks alone
set_option linter.unusedVariables false
set_option linter.unusedSimpArgs false
/-! ### laws_FnTranslate: function 3 -/
mutual
def laws_FnTranslate.l0 : Nat → ByteArray → ByteArray → ByteArray → ByteArray → Int → Option (Bool)
 | 0, _, _, _, _, _ => none
 | k + 1, x3, x4, x5, x6, x8 => if x8 < (x6.size : Int) then (laws_FnTranslate.l1 k x3 x4 x5 x6 x8 false false 0) else ((impl_TranslateText.f k x3 x4 x4).bind fun bt166 => (if bt166.2 = true then (some (bt166.1.toList == x3.toList)) else (some false)))
def laws_FnTranslate.l1 : Nat → ByteArray → ByteArray → ByteArray → ByteArray → Int → Bool → Bool → Int → Option (Bool)
 | 0, _, _, _, _, _, _, _, _ => none
 | k + 1, x3, x4, x5, x6, x8, x9, x10, x11 => if x11 < (x4.size : Int) then (if x9 = true then (if x10 = true then (laws_FnTranslate.l1 k x3 x4 x5 x6 x8 true true (wrap64 (x11 + 1))) else (if 0 ≤ x11 then (if x11 < (x5.size : Int) then (if 0 ≤ x8 then (if x8 < (x6.size : Int) then (laws_FnTranslate.l1 k x3 x4 x5 x6 x8 true ((bt x5 x11) == (bt x6 x8)) (wrap64 (x11 + 1))) else (none)) else (none)) else (none)) else (none))) else (if 0 ≤ x11 then (if 0 ≤ x8 then (if x8 < (x6.size : Int) then (if x10 = true then (laws_FnTranslate.l1 k x3 x4 x5 x6 x8 ((bt x4 x11) == (bt x6 x8)) true (wrap64 (x11 + 1))) else (if x11 < (x5.size : Int) then (laws_FnTranslate.l1 k x3 x4 x5 x6 x8 ((bt x4 x11) == (bt x6 x8)) ((bt x5 x11) == (bt x6 x8)) (wrap64 (x11 + 1))) else (none))) else (none)) else (none)) else (none))) else (if x9 = true then (if x10 = true then (laws_FnTranslate.l0 k x3 x4 x5 x6 (wrap64 (x8 + 1))) else (some false)) else (laws_FnTranslate.l0 k x3 x4 x5 x6 (wrap64 (x8 + 1))))
end
def laws_FnTranslate.f (k : Nat) (l0 : List Int) : Option (Bool) := (laws_c2Long.f l0).bind fun t160 => (if t160 = true then (some true) else ((spec_DrawTranslateText.f k l0).bind fun bt161 => ((impl_TranslateText.f k bt161.1 bt161.2.1 bt161.2.2).bind fun bt164 => (if bt164.2 = true then (if (bt164.1.size : Int) = (bt161.1.size : Int) then (laws_FnTranslate.l0 k bt161.1 bt161.2.1 bt161.2.2 bt164.1 0) else (some false)) else (if bt161.2.1.toList = ([] : List UInt8) then (some true) else (some ((bt161.2.1.size : Int) != (bt161.2.2.size : Int))))))))
set_option maxHeartbeats 8000000 in
set_option maxRecDepth 100000 in
theorem laws_FnTranslate.calls (k : Nat) (A0 : Option Addr) (c0 : Nat) (l0 : List Int) (r : Bool) (w : World) (hr0 : Kd.C (Kd.int .u8) w A0 l0.length l0) (hc0 : l0.length ≤ c0) (h : laws_FnTranslate.f k l0 = some r) :
  Calls Try.prog 3 #[.slice A0 l0.length c0] w fun e w' => e = .returned (.bool r) ∧ Below w.heap.size w w' := by
 have HR0 := Aside0.mk hr0
 have HC0 := Aside0.mk hc0
 clear hr0 hc0
 have HB := Aside0.mk (Below.refl w.heap.size w)
 have H : ((laws_c2Long.f l0).bind fun t160 => (if t160 = true then (some true) else ((spec_DrawTranslateText.f k l0).bind fun bt161 => ((impl_TranslateText.f k bt161.1 bt161.2.1 bt161.2.2).bind fun bt164 => (if bt164.2 = true then (if (bt164.1.size : Int) = (bt161.1.size : Int) then (laws_FnTranslate.l0 k bt161.1 bt161.2.1 bt161.2.2 bt164.1 0) else (some false)) else (if bt161.2.1.toList = ([] : List UInt8) then (some true) else (some ((bt161.2.1.size : Int) != (bt161.2.2.size : Int))))))))) = some r := h
 clear h
 obtain ⟨t160, A2, H⟩ := sO H
 by_cases c3 : t160 = true
 ·subst c3
  rewrite [if_pos rfl] at H
  obtain rfl := Option.some.inj H
  go_enter Try.func3, Try.ntmps3
  go_wp2_with (first | (go_at_call 13; (with_reducible refine (laws_c2Long.calls _ _ l0 true _ ?side1 ?side2 A2.out).mono ?_); (case side1 => exact sD HR0.out); (case side2 => exact HC0.out); rintro e w' ⟨rfl, ⟨nd, rfl⟩⟩; (try first | exact ⟨rfl, _, World.drewN_drewN _ _ _⟩ | exact ⟨rfl, _, Eq.trans (World.drewN_drewN _ _ _) (congrArg (World.drewN _) (Nat.add_assoc _ _ _))⟩)))
  repeat (go_quiet (first | (go_at_call 13; (with_reducible refine (laws_c2Long.calls _ _ l0 true _ ?side1 ?side2 A2.out).mono ?_); (case side1 => exact sD HR0.out); (case side2 => exact HC0.out); rintro e w' ⟨rfl, ⟨nd, rfl⟩⟩; (try first | exact ⟨rfl, _, World.drewN_drewN _ _ _⟩ | exact ⟨rfl, _, Eq.trans (World.drewN_drewN _ _ _) (congrArg (World.drewN _) (Nat.add_assoc _ _ _))⟩))); try go_wp2_with (first | (go_at_call 13; (with_reducible refine (laws_c2Long.calls _ _ l0 true _ ?side1 ?side2 A2.out).mono ?_); (case side1 => exact sD HR0.out); (case side2 => exact HC0.out); rintro e w' ⟨rfl, ⟨nd, rfl⟩⟩; (try first | exact ⟨rfl, _, World.drewN_drewN _ _ _⟩ | exact ⟨rfl, _, Eq.trans (World.drewN_drewN _ _ _) (congrArg (World.drewN _) (Nat.add_assoc _ _ _))⟩))))
  go_ret
  exact ⟨sq, sb⟩
 replace c3 := Bool.eq_false_iff.mpr c3
 subst c3
 rewrite [if_neg (show ¬ (false = true) by decide)] at H
 replace H := Option.bind_eq_some_iff.mp H
 obtain ⟨⟨t161, t162, t163⟩, A40, H⟩ := H
 replace H : ((impl_TranslateText.f k t161 t162 t163).bind fun bt164 => (if bt164.2 = true then (if (bt164.1.size : Int) = (t161.size : Int) then (laws_FnTranslate.l0 k t161 t162 t163 bt164.1 0) else (some false)) else (if t162.toList = ([] : List UInt8) then (some true) else (some ((t162.size : Int) != (t163.size : Int)))))) = some r := H
 have A4 := Aside0.mk A40
 clear A40
 replace H := Option.bind_eq_some_iff.mp H
 obtain ⟨⟨t164, t165⟩, A50, H⟩ := H
 replace H : (if t165 = true then (if (t164.size : Int) = (t161.size : Int) then (laws_FnTranslate.l0 k t161 t162 t163 t164 0) else (some false)) else (if t162.toList = ([] : List UInt8) then (some true) else (some ((t162.size : Int) != (t163.size : Int))))) = some r := H
 have A5 := Aside0.mk A50
 clear A50
 by_cases c6 : t165 = true
 ·subst c6
  rewrite [if_pos rfl] at H
  by_cases c7 : (t164.size : Int) = (t161.size : Int)
  ·rw [if_pos c7] at H
   have c7b0 : ((t164.size : Int) == (t161.size : Int)) = true := beq_iff_eq.mpr c7
   have c7b1 : ((t164.size : Int) != (t161.size : Int)) = false := bne_eq_false_iff_eq.mpr c7
   have c7b2 : (t164.size == t161.size) = true := by first | simpa using c7 | (simp at c7 ⊢; omega)
   clear c7
   have H' := Aside0.mk H
   clear H
   go_enter Try.func3, Try.ntmps3
   go_wp2_with (first | (go_at_call 13; (with_reducible refine (laws_c2Long.calls _ _ l0 false _ ?side1 ?side2 A2.out).mono ?_); (case side1 => exact sD HR0.out); (case side2 => exact HC0.out); rintro e w' ⟨rfl, ⟨nd, rfl⟩⟩; (try first | exact ⟨rfl, _, World.drewN_drewN _ _ _⟩ | exact ⟨rfl, _, Eq.trans (World.drewN_drewN _ _ _) (congrArg (World.drewN _) (Nat.add_assoc _ _ _))⟩)) | (go_at_call 14; (with_reducible refine (spec_DrawTranslateText.calls k _ _ l0 t161 t162 t163 _ ?side1 ?side2 A4.out).mono ?_); (case side1 => exact sD HR0.out); (case side2 => exact HC0.out); rintro e w8 ⟨rfl, hb⟩; have n0_ := sB HB hb; clear HB; have HB := n0_; clear n0_; (try clear hb); (try clear hb2); (try clear hk); (try clear hi)) | (go_at_call 15; (with_reducible refine (impl_TranslateText.calls k t161 t162 t163 t164 true _ A5.out).mono ?_); rintro e w9 ⟨rfl, hb⟩; have n0_ := sB HB hb; clear HB; have HB := n0_; clear n0_; (try clear hb); (try clear hb2); (try clear hk); (try clear hi)))
   repeat (go_quiet (first | (go_at_call 13; (with_reducible refine (laws_c2Long.calls _ _ l0 false _ ?side1 ?side2 A2.out).mono ?_); (case side1 => exact sD HR0.out); (case side2 => exact HC0.out); rintro e w' ⟨rfl, ⟨nd, rfl⟩⟩; (try first | exact ⟨rfl, _, World.drewN_drewN _ _ _⟩ | exact ⟨rfl, _, Eq.trans (World.drewN_drewN _ _ _) (congrArg (World.drewN _) (Nat.add_assoc _ _ _))⟩)) | (go_at_call 14; (with_reducible refine (spec_DrawTranslateText.calls k _ _ l0 t161 t162 t163 _ ?side1 ?side2 A4.out).mono ?_); (case side1 => exact sD HR0.out); (case side2 => exact HC0.out); rintro e w8 ⟨rfl, hb⟩; have n0_ := sB HB hb; clear HB; have HB := n0_; clear n0_; (try clear hb); (try clear hb2); (try clear hk); (try clear hi)) | (go_at_call 15; (with_reducible refine (impl_TranslateText.calls k t161 t162 t163 t164 true _ A5.out).mono ?_); rintro e w9 ⟨rfl, hb⟩; have n0_ := sB HB hb; clear HB; have HB := n0_; clear n0_; (try clear hb); (try clear hb2); (try clear hk); (try clear hi))); try go_wp2_with (first | (go_at_call 13; (with_reducible refine (laws_c2Long.calls _ _ l0 false _ ?side1 ?side2 A2.out).mono ?_); (case side1 => exact sD HR0.out); (case side2 => exact HC0.out); rintro e w' ⟨rfl, ⟨nd, rfl⟩⟩; (try first | exact ⟨rfl, _, World.drewN_drewN _ _ _⟩ | exact ⟨rfl, _, Eq.trans (World.drewN_drewN _ _ _) (congrArg (World.drewN _) (Nat.add_assoc _ _ _))⟩)) | (go_at_call 14; (with_reducible refine (spec_DrawTranslateText.calls k _ _ l0 t161 t162 t163 _ ?side1 ?side2 A4.out).mono ?_); (case side1 => exact sD HR0.out); (case side2 => exact HC0.out); rintro e w8 ⟨rfl, hb⟩; have n0_ := sB HB hb; clear HB; have HB := n0_; clear n0_; (try clear hb); (try clear hb2); (try clear hk); (try clear hi)) | (go_at_call 15; (with_reducible refine (impl_TranslateText.calls k t161 t162 t163 t164 true _ A5.out).mono ?_); rintro e w9 ⟨rfl, hb⟩; have n0_ := sB HB hb; clear HB; have HB := n0_; clear n0_; (try clear hb); (try clear hb2); (try clear hk); (try clear hi))))
   go_loopg [8] k (fun kq v8 w' => ∃ (x8_1 : Int), v8 = .int .i64 x8_1 ∧ Aside0 (laws_FnTranslate.l0 kq t161 t162 t163 t164 x8_1 = some r) ∧ Aside0 (kq ≤ k) ∧ Aside0 (Below w.heap.size w w'))
   case atStart => exact ⟨(0), sr, H', ⟨Nat.le_refl _⟩, ⟨sb⟩⟩
   case round =>
    clear H'
    try clear c2
    try clear p2
    try clear c3
    try clear c6
    try clear c7
    try clear c7b0
    try clear c7b1
    try clear c7b2
    obtain ⟨x8_1, rfl, HA, HK1, HB⟩ := hrel
    cases gk with
    | zero => exact absurd HA.out (by simp [laws_FnTranslate.l0])
    | succ k1 =>
     have H := HA.out
     clear HA
     simp only [laws_FnTranslate.l0] at H
     by_cases c10 : x8_1 < (t164.size : Int)
     ·rw [if_pos c10] at H
      have c10b0 := decide_eq_true c10
      clear c10
      have H' := Aside0.mk H
      clear H
      go_wp2
      repeat (go_quiet (fail); try go_wp2)
      go_loopg [9, 10, 11] k1 (fun kq v9 v10 v11 w' => ∃ (x9_2 : Bool) (x10_2 : Bool) (x11_2 : Int), v9 = .bool x9_2 ∧ v10 = .bool x10_2 ∧ v11 = .int .i64 x11_2 ∧ Aside0 (laws_FnTranslate.l1 kq t161 t162 t163 t164 x8_1 x9_2 x10_2 x11_2 = some r) ∧ Aside0 (kq ≤ k1) ∧ Aside0 (Below w.heap.size w w'))
      case atStart => exact ⟨(false), (false), (0), sr, sr, sr, H', ⟨Nat.le_refl _⟩, ⟨sb⟩⟩
      case round =>
       clear H'
       try clear c1
       try clear c2
       try clear p2
       try clear c3
       try clear c6
       try clear c7
       try clear c7b0
       try clear c7b1
       try clear c7b2
       try clear c10
       try clear c10b0
       try clear p2
       obtain ⟨x9_2, x10_2, x11_2, rfl, rfl, rfl, HA, HK2, HB⟩ := hrel
       cases gk with
       | zero => exact absurd HA.out (by simp [laws_FnTranslate.l1])
       | succ k2 =>
        have H := HA.out
        clear HA
        simp only [laws_FnTranslate.l1] at H
        by_cases c11 : x11_2 < (t162.size : Int)
        ·rw [if_pos c11] at H
         have c11b0 := decide_eq_true c11
         clear c11
         by_cases c12 : x9_2 = true
         ·subst c12
          rewrite [if_pos rfl] at H
          by_cases c13 : x10_2 = true
          ·subst c13
           rewrite [if_pos rfl] at H
           have H' := Aside0.mk H
           clear H
           go_wp2
           repeat (go_quiet (fail); try go_wp2)
           go_roundg k2
           case measure => have := HK1.out; have := HK2.out; omega
           case rel => exact ⟨(true), (true), (wrap64 (x11_2 + 1)), sr, sr, sr, H', ⟨by have := HK1.out; have := HK2.out; omega⟩, ⟨sb⟩⟩
          replace c13 := Bool.eq_false_iff.mpr c13
          subst c13
          rewrite [if_neg (show ¬ (false = true) by decide)] at H
          by_cases c14 : 0 ≤ x11_2
          ·rw [if_pos c14] at H
           have c14b0 := decide_eq_true c14
           clear c14
           by_cases c15 : x11_2 < (t163.size : Int)
           ·rw [if_pos c15] at H
            have c15b0 := decide_eq_true c15
            clear c15
            by_cases c17 : 0 ≤ x8_1
            ·rw [if_pos c17] at H
             have c17b0 := decide_eq_true c17
             clear c17
             by_cases c18 : x8_1 < (t164.size : Int)
             ·rw [if_pos c18] at H
              have c18b0 := decide_eq_true c18
              clear c18
              have H' := Aside0.mk H
              clear H
              have p16 : 0 ≤ (x11_2 : Int) := of_decide_eq_true (by first | (with_reducible assumption) | assumption)
              have q16 : x11_2 < (t163.size : Int) := of_decide_eq_true (by first | (with_reducible assumption) | assumption)
              have hx16 := bt_at t163 x11_2
              replace p16 := eq_true p16
              replace q16 := eq_true q16
              have p19 : 0 ≤ (x8_1 : Int) := of_decide_eq_true (by first | (with_reducible assumption) | assumption)
              have q19 : x8_1 < (t164.size : Int) := of_decide_eq_true (by first | (with_reducible assumption) | assumption)
              have hx19 := bt_at t164 x8_1
              replace p19 := eq_true p19
              replace q19 := eq_true q19
              go_wp2
              repeat (go_quiet (fail); try go_wp2)
              go_roundg k2
              case measure => have := HK1.out; have := HK2.out; omega
              case rel => exact ⟨(true), (((bt t163 x11_2) == (bt t164 x8_1))), (wrap64 (x11_2 + 1)), sr, sr, sr, H', ⟨by have := HK1.out; have := HK2.out; omega⟩, ⟨sb⟩⟩
             rw [if_neg c18] at H
             exact absurd H (by simp)
            rw [if_neg c17] at H
            exact absurd H (by simp)
           rw [if_neg c15] at H
           exact absurd H (by simp)
          rw [if_neg c14] at H
          exact absurd H (by simp)
         replace c12 := Bool.eq_false_iff.mpr c12
         subst c12
         rewrite [if_neg (show ¬ (false = true) by decide)] at H
         by_cases c20 : 0 ≤ x11_2
         ·rw [if_pos c20] at H
          have c20b0 := decide_eq_true c20
          clear c20
          by_cases c22 : 0 ≤ x8_1
          ·rw [if_pos c22] at H
           have c22b0 := decide_eq_true c22
           clear c22
           by_cases c23 : x8_1 < (t164.size : Int)
           ·rw [if_pos c23] at H
            have c23b0 := decide_eq_true c23
            clear c23
            by_cases c25 : x10_2 = true
            ·subst c25
             rewrite [if_pos rfl] at H
             have H' := Aside0.mk H
             clear H
             have p21 : 0 ≤ (x11_2 : Int) := of_decide_eq_true (by first | (with_reducible assumption) | assumption)
             have q21 : x11_2 < (t162.size : Int) := of_decide_eq_true (by first | (with_reducible assumption) | assumption)
             have hx21 := bt_at t162 x11_2
             replace p21 := eq_true p21
             replace q21 := eq_true q21
             have p24 : 0 ≤ (x8_1 : Int) := of_decide_eq_true (by first | (with_reducible assumption) | assumption)
             have q24 : x8_1 < (t164.size : Int) := of_decide_eq_true (by first | (with_reducible assumption) | assumption)
             have hx24 := bt_at t164 x8_1
             replace p24 := eq_true p24
             replace q24 := eq_true q24
             go_wp2
             repeat (go_quiet (fail); try go_wp2)
             go_roundg k2
             case measure => have := HK1.out; have := HK2.out; omega
             case rel => exact ⟨(((bt t162 x11_2) == (bt t164 x8_1))), (true), (wrap64 (x11_2 + 1)), sr, sr, sr, H', ⟨by have := HK1.out; have := HK2.out; omega⟩, ⟨sb⟩⟩
            replace c25 := Bool.eq_false_iff.mpr c25
            subst c25
            rewrite [if_neg (show ¬ (false = true) by decide)] at H
            by_cases c26 : x11_2 < (t163.size : Int)
            ·rw [if_pos c26] at H
             have c26b0 := decide_eq_true c26
             clear c26
             have H' := Aside0.mk H
             clear H
             have p21 : 0 ≤ (x11_2 : Int) := of_decide_eq_true (by first | (with_reducible assumption) | assumption)
             have q21 : x11_2 < (t162.size : Int) := of_decide_eq_true (by first | (with_reducible assumption) | assumption)
             have hx21 := bt_at t162 x11_2
             replace p21 := eq_true p21
             replace q21 := eq_true q21
             have p24 : 0 ≤ (x8_1 : Int) := of_decide_eq_true (by first | (with_reducible assumption) | assumption)
             have q24 : x8_1 < (t164.size : Int) := of_decide_eq_true (by first | (with_reducible assumption) | assumption)
             have hx24 := bt_at t164 x8_1
             replace p24 := eq_true p24
             replace q24 := eq_true q24
             have p27 : 0 ≤ (x11_2 : Int) := of_decide_eq_true (by first | (with_reducible assumption) | assumption)
             have q27 : x11_2 < (t163.size : Int) := of_decide_eq_true (by first | (with_reducible assumption) | assumption)
             have hx27 := bt_at t163 x11_2
             replace p27 := eq_true p27
             replace q27 := eq_true q27
             have p28 : 0 ≤ (x8_1 : Int) := of_decide_eq_true (by first | (with_reducible assumption) | assumption)
             have q28 : x8_1 < (t164.size : Int) := of_decide_eq_true (by first | (with_reducible assumption) | assumption)
             have hx28 := bt_at t164 x8_1
             replace p28 := eq_true p28
             replace q28 := eq_true q28
             go_wp2
             repeat (go_quiet (fail); try go_wp2)
             go_roundg k2
             case measure => have := HK1.out; have := HK2.out; omega
             case rel => exact ⟨(((bt t162 x11_2) == (bt t164 x8_1))), (((bt t163 x11_2) == (bt t164 x8_1))), (wrap64 (x11_2 + 1)), sr, sr, sr, H', ⟨by have := HK1.out; have := HK2.out; omega⟩, ⟨sb⟩⟩
            rw [if_neg c26] at H
            exact absurd H (by simp)
           rw [if_neg c23] at H
           exact absurd H (by simp)
          rw [if_neg c22] at H
          exact absurd H (by simp)
         rw [if_neg c20] at H
         exact absurd H (by simp)
        rw [if_neg c11] at H
        have c11b0 := decide_eq_false c11
        clear c11
        by_cases c29 : x9_2 = true
        ·subst c29
         rewrite [if_pos rfl] at H
         by_cases c30 : x10_2 = true
         ·subst c30
          rewrite [if_pos rfl] at H
          have H' := Aside0.mk H
          clear H
          go_wp2
          repeat (go_quiet (fail); try go_wp2)
          go_roundg k2
          case measure => have := HK1.out; have := HK2.out; omega
          case rel => exact ⟨(wrap64 (x8_1 + 1)), sr, H', ⟨by have := HK1.out; have := HK2.out; omega⟩, ⟨sb⟩⟩
         replace c30 := Bool.eq_false_iff.mpr c30
         subst c30
         rewrite [if_neg (show ¬ (false = true) by decide)] at H
         obtain rfl := Option.some.inj H
         go_wp2
         repeat (go_quiet (fail); try go_wp2)
         go_ret
         exact ⟨sq, sb⟩
        replace c29 := Bool.eq_false_iff.mpr c29
        subst c29
        rewrite [if_neg (show ¬ (false = true) by decide)] at H
        have H' := Aside0.mk H
        clear H
        go_wp2
        repeat (go_quiet (fail); try go_wp2)
        go_roundg k2
        case measure => have := HK1.out; have := HK2.out; omega
        case rel => exact ⟨(wrap64 (x8_1 + 1)), sr, H', ⟨by have := HK1.out; have := HK2.out; omega⟩, ⟨sb⟩⟩
     rw [if_neg c10] at H
     have c10b0 := decide_eq_false c10
     clear c10
     replace H := Option.bind_eq_some_iff.mp H
     obtain ⟨⟨t166, t167⟩, A310, H⟩ := H
     replace H : (if t167 = true then (some (t166.toList == t161.toList)) else (some false)) = some r := H
     have A31 := Aside0.mk A310
     clear A310
     by_cases c32 : t167 = true
     ·subst c32
      rewrite [if_pos rfl] at H
      obtain rfl := Option.some.inj H
      go_wp2_with (first | (go_at_call 15; (with_reducible refine (impl_TranslateText.calls k1 t161 t162 t162 t166 true _ A31.out).mono ?_); rintro e w33 ⟨rfl, hb⟩; have n0_ := sB HB hb; clear HB; have HB := n0_; clear n0_; (try clear hb); (try clear hb2); (try clear hk); (try clear hi)))
      repeat (go_quiet (first | (go_at_call 15; (with_reducible refine (impl_TranslateText.calls k1 t161 t162 t162 t166 true _ A31.out).mono ?_); rintro e w33 ⟨rfl, hb⟩; have n0_ := sB HB hb; clear HB; have HB := n0_; clear n0_; (try clear hb); (try clear hb2); (try clear hk); (try clear hi))); try go_wp2_with (first | (go_at_call 15; (with_reducible refine (impl_TranslateText.calls k1 t161 t162 t162 t166 true _ A31.out).mono ?_); rintro e w33 ⟨rfl, hb⟩; have n0_ := sB HB hb; clear HB; have HB := n0_; clear n0_; (try clear hb); (try clear hb2); (try clear hk); (try clear hi))))
      go_ret
      exact ⟨sq, sb⟩
     replace c32 := Bool.eq_false_iff.mpr c32
     subst c32
     rewrite [if_neg (show ¬ (false = true) by decide)] at H
     obtain rfl := Option.some.inj H
     go_wp2_with (first | (go_at_call 15; (with_reducible refine (impl_TranslateText.calls k1 t161 t162 t162 t166 false _ A31.out).mono ?_); rintro e w34 ⟨rfl, hb⟩; have n0_ := sB HB hb; clear HB; have HB := n0_; clear n0_; (try clear hb); (try clear hb2); (try clear hk); (try clear hi)))
     repeat (go_quiet (first | (go_at_call 15; (with_reducible refine (impl_TranslateText.calls k1 t161 t162 t162 t166 false _ A31.out).mono ?_); rintro e w34 ⟨rfl, hb⟩; have n0_ := sB HB hb; clear HB; have HB := n0_; clear n0_; (try clear hb); (try clear hb2); (try clear hk); (try clear hi))); try go_wp2_with (first | (go_at_call 15; (with_reducible refine (impl_TranslateText.calls k1 t161 t162 t162 t166 false _ A31.out).mono ?_); rintro e w34 ⟨rfl, hb⟩; have n0_ := sB HB hb; clear HB; have HB := n0_; clear n0_; (try clear hb); (try clear hb2); (try clear hk); (try clear hi))))
     go_ret
     exact ⟨sq, sb⟩
  rw [if_neg c7] at H
  have c7b0 : ((t164.size : Int) == (t161.size : Int)) = false := beq_eq_false_iff_ne.mpr c7
  have c7b1 : ((t164.size : Int) != (t161.size : Int)) = true := bne_iff_ne.mpr c7
  have c7b2 : (t164.size == t161.size) = false := by first | simpa using c7 | (simp at c7 ⊢; omega)
  obtain rfl := Option.some.inj H
  go_enter Try.func3, Try.ntmps3
  go_wp2_with (first | (go_at_call 13; (with_reducible refine (laws_c2Long.calls _ _ l0 false _ ?side1 ?side2 A2.out).mono ?_); (case side1 => exact sD HR0.out); (case side2 => exact HC0.out); rintro e w' ⟨rfl, ⟨nd, rfl⟩⟩; (try first | exact ⟨rfl, _, World.drewN_drewN _ _ _⟩ | exact ⟨rfl, _, Eq.trans (World.drewN_drewN _ _ _) (congrArg (World.drewN _) (Nat.add_assoc _ _ _))⟩)) | (go_at_call 14; (with_reducible refine (spec_DrawTranslateText.calls k _ _ l0 t161 t162 t163 _ ?side1 ?side2 A4.out).mono ?_); (case side1 => exact sD HR0.out); (case side2 => exact HC0.out); rintro e w35 ⟨rfl, hb⟩; have n0_ := sB HB hb; clear HB; have HB := n0_; clear n0_; (try clear hb); (try clear hb2); (try clear hk); (try clear hi)) | (go_at_call 15; (with_reducible refine (impl_TranslateText.calls k t161 t162 t163 t164 true _ A5.out).mono ?_); rintro e w36 ⟨rfl, hb⟩; have n0_ := sB HB hb; clear HB; have HB := n0_; clear n0_; (try clear hb); (try clear hb2); (try clear hk); (try clear hi)))
  repeat (go_quiet (first | (go_at_call 13; (with_reducible refine (laws_c2Long.calls _ _ l0 false _ ?side1 ?side2 A2.out).mono ?_); (case side1 => exact sD HR0.out); (case side2 => exact HC0.out); rintro e w' ⟨rfl, ⟨nd, rfl⟩⟩; (try first | exact ⟨rfl, _, World.drewN_drewN _ _ _⟩ | exact ⟨rfl, _, Eq.trans (World.drewN_drewN _ _ _) (congrArg (World.drewN _) (Nat.add_assoc _ _ _))⟩)) | (go_at_call 14; (with_reducible refine (spec_DrawTranslateText.calls k _ _ l0 t161 t162 t163 _ ?side1 ?side2 A4.out).mono ?_); (case side1 => exact sD HR0.out); (case side2 => exact HC0.out); rintro e w35 ⟨rfl, hb⟩; have n0_ := sB HB hb; clear HB; have HB := n0_; clear n0_; (try clear hb); (try clear hb2); (try clear hk); (try clear hi)) | (go_at_call 15; (with_reducible refine (impl_TranslateText.calls k t161 t162 t163 t164 true _ A5.out).mono ?_); rintro e w36 ⟨rfl, hb⟩; have n0_ := sB HB hb; clear HB; have HB := n0_; clear n0_; (try clear hb); (try clear hb2); (try clear hk); (try clear hi))); try go_wp2_with (first | (go_at_call 13; (with_reducible refine (laws_c2Long.calls _ _ l0 false _ ?side1 ?side2 A2.out).mono ?_); (case side1 => exact sD HR0.out); (case side2 => exact HC0.out); rintro e w' ⟨rfl, ⟨nd, rfl⟩⟩; (try first | exact ⟨rfl, _, World.drewN_drewN _ _ _⟩ | exact ⟨rfl, _, Eq.trans (World.drewN_drewN _ _ _) (congrArg (World.drewN _) (Nat.add_assoc _ _ _))⟩)) | (go_at_call 14; (with_reducible refine (spec_DrawTranslateText.calls k _ _ l0 t161 t162 t163 _ ?side1 ?side2 A4.out).mono ?_); (case side1 => exact sD HR0.out); (case side2 => exact HC0.out); rintro e w35 ⟨rfl, hb⟩; have n0_ := sB HB hb; clear HB; have HB := n0_; clear n0_; (try clear hb); (try clear hb2); (try clear hk); (try clear hi)) | (go_at_call 15; (with_reducible refine (impl_TranslateText.calls k t161 t162 t163 t164 true _ A5.out).mono ?_); rintro e w36 ⟨rfl, hb⟩; have n0_ := sB HB hb; clear HB; have HB := n0_; clear n0_; (try clear hb); (try clear hb2); (try clear hk); (try clear hi))))
  go_ret
  exact ⟨sq, sb⟩
 replace c6 := Bool.eq_false_iff.mpr c6
 subst c6
 rewrite [if_neg (show ¬ (false = true) by decide)] at H
 by_cases c37 : t162.toList = ([] : List UInt8)
 ·rw [if_pos c37] at H
  have c37b0 : (t162.toList == ([] : List UInt8)) = true := beq_iff_eq.mpr c37
  have c37b1 : (t162.toList != ([] : List UInt8)) = false := bne_eq_false_iff_eq.mpr c37
  have c37b2 : t162.toList.isEmpty = true := by simpa using c37
  clear c37
  obtain rfl := Option.some.inj H
  go_enter Try.func3, Try.ntmps3
  go_wp2_with (first | (go_at_call 13; (with_reducible refine (laws_c2Long.calls _ _ l0 false _ ?side1 ?side2 A2.out).mono ?_); (case side1 => exact sD HR0.out); (case side2 => exact HC0.out); rintro e w' ⟨rfl, ⟨nd, rfl⟩⟩; (try first | exact ⟨rfl, _, World.drewN_drewN _ _ _⟩ | exact ⟨rfl, _, Eq.trans (World.drewN_drewN _ _ _) (congrArg (World.drewN _) (Nat.add_assoc _ _ _))⟩)) | (go_at_call 14; (with_reducible refine (spec_DrawTranslateText.calls k _ _ l0 t161 t162 t163 _ ?side1 ?side2 A4.out).mono ?_); (case side1 => exact sD HR0.out); (case side2 => exact HC0.out); rintro e w38 ⟨rfl, hb⟩; have n0_ := sB HB hb; clear HB; have HB := n0_; clear n0_; (try clear hb); (try clear hb2); (try clear hk); (try clear hi)) | (go_at_call 15; (with_reducible refine (impl_TranslateText.calls k t161 t162 t163 t164 false _ A5.out).mono ?_); rintro e w39 ⟨rfl, hb⟩; have n0_ := sB HB hb; clear HB; have HB := n0_; clear n0_; (try clear hb); (try clear hb2); (try clear hk); (try clear hi)))
  repeat (go_quiet (first | (go_at_call 13; (with_reducible refine (laws_c2Long.calls _ _ l0 false _ ?side1 ?side2 A2.out).mono ?_); (case side1 => exact sD HR0.out); (case side2 => exact HC0.out); rintro e w' ⟨rfl, ⟨nd, rfl⟩⟩; (try first | exact ⟨rfl, _, World.drewN_drewN _ _ _⟩ | exact ⟨rfl, _, Eq.trans (World.drewN_drewN _ _ _) (congrArg (World.drewN _) (Nat.add_assoc _ _ _))⟩)) | (go_at_call 14; (with_reducible refine (spec_DrawTranslateText.calls k _ _ l0 t161 t162 t163 _ ?side1 ?side2 A4.out).mono ?_); (case side1 => exact sD HR0.out); (case side2 => exact HC0.out); rintro e w38 ⟨rfl, hb⟩; have n0_ := sB HB hb; clear HB; have HB := n0_; clear n0_; (try clear hb); (try clear hb2); (try clear hk); (try clear hi)) | (go_at_call 15; (with_reducible refine (impl_TranslateText.calls k t161 t162 t163 t164 false _ A5.out).mono ?_); rintro e w39 ⟨rfl, hb⟩; have n0_ := sB HB hb; clear HB; have HB := n0_; clear n0_; (try clear hb); (try clear hb2); (try clear hk); (try clear hi))); try go_wp2_with (first | (go_at_call 13; (with_reducible refine (laws_c2Long.calls _ _ l0 false _ ?side1 ?side2 A2.out).mono ?_); (case side1 => exact sD HR0.out); (case side2 => exact HC0.out); rintro e w' ⟨rfl, ⟨nd, rfl⟩⟩; (try first | exact ⟨rfl, _, World.drewN_drewN _ _ _⟩ | exact ⟨rfl, _, Eq.trans (World.drewN_drewN _ _ _) (congrArg (World.drewN _) (Nat.add_assoc _ _ _))⟩)) | (go_at_call 14; (with_reducible refine (spec_DrawTranslateText.calls k _ _ l0 t161 t162 t163 _ ?side1 ?side2 A4.out).mono ?_); (case side1 => exact sD HR0.out); (case side2 => exact HC0.out); rintro e w38 ⟨rfl, hb⟩; have n0_ := sB HB hb; clear HB; have HB := n0_; clear n0_; (try clear hb); (try clear hb2); (try clear hk); (try clear hi)) | (go_at_call 15; (with_reducible refine (impl_TranslateText.calls k t161 t162 t163 t164 false _ A5.out).mono ?_); rintro e w39 ⟨rfl, hb⟩; have n0_ := sB HB hb; clear HB; have HB := n0_; clear n0_; (try clear hb); (try clear hb2); (try clear hk); (try clear hi))))
  go_ret
  exact ⟨sq, sb⟩
 rw [if_neg c37] at H
 have c37b0 : (t162.toList == ([] : List UInt8)) = false := beq_eq_false_iff_ne.mpr c37
 have c37b1 : (t162.toList != ([] : List UInt8)) = true := bne_iff_ne.mpr c37
 have c37b2 : t162.toList.isEmpty = false := by simpa using c37
 obtain rfl := Option.some.inj H
 go_enter Try.func3, Try.ntmps3
 go_wp2_with (first | (go_at_call 13; (with_reducible refine (laws_c2Long.calls _ _ l0 false _ ?side1 ?side2 A2.out).mono ?_); (case side1 => exact sD HR0.out); (case side2 => exact HC0.out); rintro e w' ⟨rfl, ⟨nd, rfl⟩⟩; (try first | exact ⟨rfl, _, World.drewN_drewN _ _ _⟩ | exact ⟨rfl, _, Eq.trans (World.drewN_drewN _ _ _) (congrArg (World.drewN _) (Nat.add_assoc _ _ _))⟩)) | (go_at_call 14; (with_reducible refine (spec_DrawTranslateText.calls k _ _ l0 t161 t162 t163 _ ?side1 ?side2 A4.out).mono ?_); (case side1 => exact sD HR0.out); (case side2 => exact HC0.out); rintro e w40 ⟨rfl, hb⟩; have n0_ := sB HB hb; clear HB; have HB := n0_; clear n0_; (try clear hb); (try clear hb2); (try clear hk); (try clear hi)) | (go_at_call 15; (with_reducible refine (impl_TranslateText.calls k t161 t162 t163 t164 false _ A5.out).mono ?_); rintro e w41 ⟨rfl, hb⟩; have n0_ := sB HB hb; clear HB; have HB := n0_; clear n0_; (try clear hb); (try clear hb2); (try clear hk); (try clear hi)))
 repeat (go_quiet (first | (go_at_call 13; (with_reducible refine (laws_c2Long.calls _ _ l0 false _ ?side1 ?side2 A2.out).mono ?_); (case side1 => exact sD HR0.out); (case side2 => exact HC0.out); rintro e w' ⟨rfl, ⟨nd, rfl⟩⟩; (try first | exact ⟨rfl, _, World.drewN_drewN _ _ _⟩ | exact ⟨rfl, _, Eq.trans (World.drewN_drewN _ _ _) (congrArg (World.drewN _) (Nat.add_assoc _ _ _))⟩)) | (go_at_call 14; (with_reducible refine (spec_DrawTranslateText.calls k _ _ l0 t161 t162 t163 _ ?side1 ?side2 A4.out).mono ?_); (case side1 => exact sD HR0.out); (case side2 => exact HC0.out); rintro e w40 ⟨rfl, hb⟩; have n0_ := sB HB hb; clear HB; have HB := n0_; clear n0_; (try clear hb); (try clear hb2); (try clear hk); (try clear hi)) | (go_at_call 15; (with_reducible refine (impl_TranslateText.calls k t161 t162 t163 t164 false _ A5.out).mono ?_); rintro e w41 ⟨rfl, hb⟩; have n0_ := sB HB hb; clear HB; have HB := n0_; clear n0_; (try clear hb); (try clear hb2); (try clear hk); (try clear hi))); try go_wp2_with (first | (go_at_call 13; (with_reducible refine (laws_c2Long.calls _ _ l0 false _ ?side1 ?side2 A2.out).mono ?_); (case side1 => exact sD HR0.out); (case side2 => exact HC0.out); rintro e w' ⟨rfl, ⟨nd, rfl⟩⟩; (try first | exact ⟨rfl, _, World.drewN_drewN _ _ _⟩ | exact ⟨rfl, _, Eq.trans (World.drewN_drewN _ _ _) (congrArg (World.drewN _) (Nat.add_assoc _ _ _))⟩)) | (go_at_call 14; (with_reducible refine (spec_DrawTranslateText.calls k _ _ l0 t161 t162 t163 _ ?side1 ?side2 A4.out).mono ?_); (case side1 => exact sD HR0.out); (case side2 => exact HC0.out); rintro e w40 ⟨rfl, hb⟩; have n0_ := sB HB hb; clear HB; have HB := n0_; clear n0_; (try clear hb); (try clear hb2); (try clear hk); (try clear hi)) | (go_at_call 15; (with_reducible refine (impl_TranslateText.calls k t161 t162 t163 t164 false _ A5.out).mono ?_); rintro e w41 ⟨rfl, hb⟩; have n0_ := sB HB hb; clear HB; have HB := n0_; clear n0_; (try clear hb); (try clear hb2); (try clear hk); (try clear hi))))
 go_ret
 exact ⟨sq, sb⟩

/-- THE ONE PURE STATEMENT of laws_FnTranslate: yours. -/
def laws_FnTranslate.Pure : Prop := ∀ (l0 : List Int), l0.length ≤ maxLen → l0.length * 1 ≤ 140737488351232 → (∀ x ∈ l0, (Lit.int .u8 x).wf = true) → ∃ k, laws_FnTranslate.f k l0 = some true
theorem laws_FnTranslate.walk (P : laws_FnTranslate.Pure) (a0 : Option Addr) (len0 cap0 : Nat) (z0 : List Int) (w : World) (w0 : (a0 = none ∧ len0 = 0 ∧ cap0 = 0 ∧ z0 = []) ∨ ∃ x, a0 = some x ∧ len0 ≤ cap0 ∧ cap0 ≤ maxLen ∧ z0.length = cap0 ∧ (∀ i, i < z0.length → w.cell? (x.add i) = some (.int .u8 (z0.getD i 0))) ∧ ∀ n ∈ z0, (Lit.int .u8 n).wf = true) (y0 : len0 * 1 ≤ 140737488351232) :
  Calls Try.prog 3 #[.slice a0 len0 cap0] w fun e w' => e = .returned (.bool true) ∧ Below w.heap.size w w' := by
 obtain ⟨l0, rfl, hr0, hm0, hw0, hc0⟩ := ReadsInt.ofRowC w0
 obtain ⟨k, h⟩ := P l0 hm0 y0 hw0
 refine (laws_FnTranslate.calls k _ _ l0 true w (Kd.C_of_reads (d := (0 : Int)) (h1 := fun _ => rfl) hr0) hc0 h).mono ?_
 rintro e w' ⟨rfl, hd⟩
 exact ⟨rfl, hd⟩
end Go.Proofs.Ytabbpnkbhapibaa.PFnTranslate
