/- Printed functions: impl_ValidConsole. -/
import Derived.Test.YtabbpnkbhapibaaYVcP0
import Derived.Test.YtabbpnkbhapibaaYVcP7
import Derived.Test.YtabbpnkbhapibaaYVcP8
import Derived.Test.YtabbpnkbhapibaaYVcP9
namespace Go.Proofs.Ytabbpnkbhapibaa.PFnExactValidConsole
open Go.RowKit Go.Proofs.YtabbpnkbhapibaaG Go.Proofs.YtabbpnkbhapibaaW.PrintWords Go.Proofs.YtabbpnkbhapibaaW.PrintLast Go.Proofs.YtabbpnkbhapibaaW.PrintMore
attribute [local go_sem] max2_int min2_int max_two min_two max_three min_three max_four min_four   -- for this text's walks alone
set_option linter.unusedVariables false
set_option linter.unusedSimpArgs false
/-! ### impl_ValidConsole: function 39 -/
def impl_ValidConsole.j0 : Nat → Bool → List ByteArray → Int → List ByteArray → List (S163) → List ByteArray → Option (Bool)
 | 0, _, _, _, _, _, _ => none
 | k + 1, x26, x206000, x206001, x206002, x206003, x206004 => if x26 = true then (some false) else ((impl_areAll_string__impl_isShort.f k x206000).bind fun t206 => (if t206 = true then ((impl_areAll_string__impl_isShort.f k x206002).bind fun t207 => (if t207 = true then ((impl_areAll_string__impl_ValidConsole_1.f k x206004).bind fun t208 => (if t208 = true then ((impl_within.f x206001 0 (x206000.length : Int)).bind fun t209 => (if t209 = true then ((impl_File__impl_File_isValid.f k x206003).bind fun t210 => (if t210 = true then ((impl_File__impl_nameOfFile.f k x206003).bind fun t211 => (some t211)) else (some false))) else (some false))) else (some false))) else (some false))) else (some false)))
def impl_ValidConsole.f (k : Nat) (l0_0 : List ByteArray) (a0_1 : Int) (l0_2 : List ByteArray) (l0_3 : List (S163)) (l0_4 : List ByteArray) : Option (Bool) := if (l0_0.length : Int) > 100 then (impl_ValidConsole.j0 k true l0_0 a0_1 l0_2 l0_3 l0_4) else (if (l0_2.length : Int) > 100 then (impl_ValidConsole.j0 k true l0_0 a0_1 l0_2 l0_3 l0_4) else (if (l0_3.length : Int) > 6 then (impl_ValidConsole.j0 k true l0_0 a0_1 l0_2 l0_3 l0_4) else (impl_ValidConsole.j0 k (decide ((l0_4.length : Int) > 200)) l0_0 a0_1 l0_2 l0_3 l0_4)))
set_option maxHeartbeats 8000000 in
set_option maxRecDepth 100000 in
theorem impl_ValidConsole.calls (k : Nat) (A0_0 : Option Addr) (c0_0 : Nat) (l0_0 : List ByteArray) (a0_1 : Int) (A0_2 : Option Addr) (c0_2 : Nat) (l0_2 : List ByteArray) (A0_3 : Option Addr) (c0_3 : Nat) (l0_3 : List (S163)) (A0_4 : Option Addr) (c0_4 : Nat) (l0_4 : List ByteArray) (r : Bool) (w : World) (hr0_0 : Kd.C Kd.string w A0_0 l0_0.length l0_0) (hc0_0 : l0_0.length ≤ c0_0) (hr0_2 : Kd.C Kd.string w A0_2 l0_2.length l0_2) (hc0_2 : l0_2.length ≤ c0_2) (hr0_3 : Kd.C k163 w A0_3 l0_3.length l0_3) (hc0_3 : l0_3.length ≤ c0_3) (hr0_4 : Kd.C Kd.string w A0_4 l0_4.length l0_4) (hc0_4 : l0_4.length ≤ c0_4) (h : impl_ValidConsole.f k l0_0 a0_1 l0_2 l0_3 l0_4 = some r) :
  Calls Try.prog 39 #[.agg #[.slice A0_0 l0_0.length c0_0, .int .i64 a0_1, .slice A0_2 l0_2.length c0_2, .slice A0_3 l0_3.length c0_3, .slice A0_4 l0_4.length c0_4]] w fun e w' => e = .returned (.bool r) ∧ Below w.heap.size w w' := by
 have hu74 := Try.underlying74
 have HR0_0 := Aside0.mk hr0_0
 have HC0_0 := Aside0.mk hc0_0
 clear hr0_0 hc0_0
 have HR0_2 := Aside0.mk hr0_2
 have HC0_2 := Aside0.mk hc0_2
 clear hr0_2 hc0_2
 have HR0_3 := Aside0.mk hr0_3
 have HC0_3 := Aside0.mk hc0_3
 clear hr0_3 hc0_3
 have HR0_4 := Aside0.mk hr0_4
 have HC0_4 := Aside0.mk hc0_4
 clear hr0_4 hc0_4
 have HB := Aside0.mk (Below.refl w.heap.size w)
 have H : (if (l0_0.length : Int) > 100 then (impl_ValidConsole.j0 k true l0_0 a0_1 l0_2 l0_3 l0_4) else (if (l0_2.length : Int) > 100 then (impl_ValidConsole.j0 k true l0_0 a0_1 l0_2 l0_3 l0_4) else (if (l0_3.length : Int) > 6 then (impl_ValidConsole.j0 k true l0_0 a0_1 l0_2 l0_3 l0_4) else (impl_ValidConsole.j0 k (decide ((l0_4.length : Int) > 200)) l0_0 a0_1 l0_2 l0_3 l0_4)))) = some r := h
 clear h
 have HC2 := Aside0.mk H
 clear H
 go_enter Try.func39, Try.ntmps39
 go_upto_region 2 with (first | ((with_reducible refine gate_dst (N := 1) rfl ?_); (try (refine gate_guard (by rfl) ?_; dsimp only)); refine sV (N := 1) (cs := #[.slice A0_0 l0_0.length c0_0, .int .i64 a0_1, .slice A0_2 l0_2.length c0_2, .slice A0_3 l0_3.length c0_3, .slice A0_4 l0_4.length c0_4]) (t := 74) ?_; intro gb205 hg w3 hbox hb; have n0_ := sB HB hb; have n1_ := Aside0.mk (hbox); have n2_ := sG HB hg; have n3_ := sG HB hg; clear HB; have HB := n0_; have BK205 := n1_; have GW205 := n2_; have GE205 := n3_; clear n0_ n1_ n2_ n3_; clear hb hbox hg))
 (try simp only [Act.put, List.setIfInBounds_toArray, List.set_cons_zero, List.set_cons_succ])
 go_cut [26] (fun v26 wc => ∃ (kq : Nat) (x26_1 : Bool), v26 = .bool x26_1 ∧ Aside0 (impl_ValidConsole.j0 kq x26_1 l0_0 a0_1 l0_2 l0_3 l0_4 = some r) ∧ Aside0 (kq ≤ k) ∧ Aside0 (wc.heap[gb205]? = some (.cells #[(.slice A0_0 l0_0.length c0_0), .int .i64 a0_1, (.slice A0_2 l0_2.length c0_2), (.slice A0_3 l0_3.length c0_3), (.slice A0_4 l0_4.length c0_4)] 74 (0, 0))) ∧ Aside0 (Below w.heap.size w wc))
 case first =>
  have H := HC2.out
  clear HC2
  by_cases c4 : (l0_0.length : Int) > 100
  ·rw [if_pos c4] at H
   have c4b0 : decide (100 < (l0_0.length : Int)) = true := decide_eq_true c4
   have c4b1 : decide (100 < l0_0.length) = true := decide_eq_true (by omega)
   clear c4
   (first | rw [c4b0] | (simp only [i64_w, i32_w]; rw [c4b0]) | rw [c4b2] | skip)
   have H' := Aside0.mk H
   clear H
   obtain ⟨hcz5_0, hcz5_1, hcz5_2, hcz5_3, hcz5_4, hfz5_0, hfz5_1, hfz5_2, hfz5_3, hfz5_4⟩ := cells5 BK205.out
   go_wp2
   go_meet
   case rel => exact ⟨_, (true), sr, H', ⟨by first | omega | exact Nat.le_refl _⟩, ⟨by exact sT BK205.out⟩, ⟨sb⟩⟩
  rw [if_neg c4] at H
  have c4b0 : decide (100 < (l0_0.length : Int)) = false := decide_eq_false c4
  have c4b1 : decide (100 < l0_0.length) = false := decide_eq_false (by omega)
  clear c4
  (first | rw [c4b0] | (simp only [i64_w, i32_w]; rw [c4b0]) | rw [c4b2] | skip)
  by_cases c6 : (l0_2.length : Int) > 100
  ·rw [if_pos c6] at H
   have c6b0 : decide (100 < (l0_2.length : Int)) = true := decide_eq_true c6
   have c6b1 : decide (100 < l0_2.length) = true := decide_eq_true (by omega)
   clear c6
   have H' := Aside0.mk H
   clear H
   obtain ⟨hcz7_0, hcz7_1, hcz7_2, hcz7_3, hcz7_4, hfz7_0, hfz7_1, hfz7_2, hfz7_3, hfz7_4⟩ := cells5 BK205.out
   go_wp2
   go_meet
   case rel => exact ⟨_, (true), sr, H', ⟨by first | omega | exact Nat.le_refl _⟩, ⟨by exact sT BK205.out⟩, ⟨sb⟩⟩
  rw [if_neg c6] at H
  have c6b0 : decide (100 < (l0_2.length : Int)) = false := decide_eq_false c6
  have c6b1 : decide (100 < l0_2.length) = false := decide_eq_false (by omega)
  clear c6
  by_cases c8 : (l0_3.length : Int) > 6
  ·rw [if_pos c8] at H
   have c8b0 : decide (6 < (l0_3.length : Int)) = true := decide_eq_true c8
   have c8b1 : decide (6 < l0_3.length) = true := decide_eq_true (by omega)
   clear c8
   have H' := Aside0.mk H
   clear H
   obtain ⟨hcz9_0, hcz9_1, hcz9_2, hcz9_3, hcz9_4, hfz9_0, hfz9_1, hfz9_2, hfz9_3, hfz9_4⟩ := cells5 BK205.out
   go_wp2
   go_meet
   case rel => exact ⟨_, (true), sr, H', ⟨by first | omega | exact Nat.le_refl _⟩, ⟨by exact sT BK205.out⟩, ⟨sb⟩⟩
  rw [if_neg c8] at H
  have c8b0 : decide (6 < (l0_3.length : Int)) = false := decide_eq_false c8
  have c8b1 : decide (6 < l0_3.length) = false := decide_eq_false (by omega)
  clear c8
  have H' := Aside0.mk H
  clear H
  obtain ⟨hcz10_0, hcz10_1, hcz10_2, hcz10_3, hcz10_4, hfz10_0, hfz10_1, hfz10_2, hfz10_3, hfz10_4⟩ := cells5 BK205.out
  go_wp2
  go_meet
  case rel => exact ⟨_, (decide ((l0_4.length : Int) > 200)), sr, H', ⟨by first | omega | exact Nat.le_refl _⟩, ⟨by exact sT BK205.out⟩, ⟨sb⟩⟩
 case rest =>
  clear HC2
  try clear p2
  try clear c3
  try clear c4
  try clear c4b0
  try clear c4b1
  try clear c4b2
  try clear c6
  try clear c6b0
  try clear c6b1
  try clear c8
  try clear c8b0
  try clear c8b1
  try clear hcz10_0
  try clear hcz10_1
  try clear hcz10_2
  try clear hcz10_3
  try clear hcz10_4
  try clear hcz5_0
  try clear hcz5_1
  try clear hcz5_2
  try clear hcz5_3
  try clear hcz5_4
  try clear hcz7_0
  try clear hcz7_1
  try clear hcz7_2
  try clear hcz7_3
  try clear hcz7_4
  try clear hcz9_0
  try clear hcz9_1
  try clear hcz9_2
  try clear hcz9_3
  try clear hcz9_4
  try clear hfz10_0
  try clear hfz10_1
  try clear hfz10_2
  try clear hfz10_3
  try clear hfz10_4
  try clear hfz5_0
  try clear hfz5_1
  try clear hfz5_2
  try clear hfz5_3
  try clear hfz5_4
  try clear hfz7_0
  try clear hfz7_1
  try clear hfz7_2
  try clear hfz7_3
  try clear hfz7_4
  try clear hfz9_0
  try clear hfz9_1
  try clear hfz9_2
  try clear hfz9_3
  try clear hfz9_4
  obtain ⟨kq, x26_1, rfl, HA, HJ1, BK205, HB⟩ := hcut
  cases kq with
  | zero => exact absurd HA.out (by simp [impl_ValidConsole.j0])
  | succ kj1 =>
   have H := HA.out
   clear HA
   simp only [impl_ValidConsole.j0] at H
   by_cases c11 : x26_1 = true
   ·subst c11
    rewrite [if_pos rfl] at H
    obtain rfl := Option.some.inj H
    go_wp2
    go_ret
    exact ⟨sq, sb⟩
   replace c11 := Bool.eq_false_iff.mpr c11
   subst c11
   rewrite [if_neg (show ¬ (false = true) by decide)] at H
   obtain ⟨t206, A12, H⟩ := sO H
   by_cases c13 : t206 = true
   ·subst c13
    rewrite [if_pos rfl] at H
    obtain ⟨t207, A14, H⟩ := sO H
    by_cases c15 : t207 = true
    ·subst c15
     rewrite [if_pos rfl] at H
     obtain ⟨t208, A16, H⟩ := sO H
     by_cases c17 : t208 = true
     ·subst c17
      rewrite [if_pos rfl] at H
      obtain ⟨t209, A18, H⟩ := sO H
      by_cases c19 : t209 = true
      ·subst c19
       rewrite [if_pos rfl] at H
       obtain ⟨t210, A20, H⟩ := sO H
       by_cases c21 : t210 = true
       ·subst c21
        rewrite [if_pos rfl] at H
        obtain ⟨t211, A22, H⟩ := sO H
        obtain rfl := Option.some.inj H
        obtain ⟨hcz23_0, hcz23_1, hcz23_2, hcz23_3, hcz23_4, hfz23_0, hfz23_1, hfz23_2, hfz23_3, hfz23_4⟩ := cells5 BK205.out
        go_wp2_with (first | ((with_reducible refine gate_callee (f := 90) rfl ?_); refine sC (some 29) Try.func90 #[.slice A0_0 l0_0.length c0_0, .func (.func 91) #[] #[]] (impl_areAll_string__impl_isShort.calls kj1 _ _ l0_0  true _ ?side1 ?side2 A12.out) ?_; (case side1 => exact sD (Kd.C_below HR0_0.out HB.out)); (case side2 => exact HC0_0.out); rintro e w' ⟨rfl, ⟨nd, rfl⟩⟩; refine ⟨_, rfl, ?_⟩) | (go_at_call 90; (with_reducible refine (impl_areAll_string__impl_isShort.calls kj1 _ _ l0_2  true _ ?side1 ?side2 A14.out).mono ?_); (case side1 => exact sD (Kd.C_below HR0_2.out (by repeat (first | (with_reducible first | exact HB.out | apply below_alloc | apply pw_below_drewN | apply below_drew1 | refine below_set ?_ GE205.out) | exact HB.out)))); (case side2 => exact HC0_2.out); rintro e w' ⟨rfl, ⟨nd, rfl⟩⟩) | (go_at_call 90; (with_reducible refine (impl_areAll_string__impl_ValidConsole_1.calls kj1 _ _ l0_4  true _ ?side1 ?side2 A16.out).mono ?_); (case side1 => exact sD (Kd.C_below HR0_4.out (by repeat (first | (with_reducible first | exact HB.out | apply below_alloc | apply pw_below_drewN | apply below_drew1 | refine below_set ?_ GE205.out) | exact HB.out)))); (case side2 => exact HC0_4.out); rintro e w' ⟨rfl, ⟨nd, rfl⟩⟩) | (go_at_call 92; (with_reducible refine (impl_within.calls a0_1 0 (l0_0.length : Int) true _ A18.out).mono ?_); rintro e w' ⟨rfl, ⟨nd, rfl⟩⟩) | (go_at_call 93; (with_reducible refine (impl_File__impl_File_isValid.calls kj1 _ _ l0_3  true _ ?side1 ?side2 A20.out).mono ?_); (case side1 => exact sD (Kd.C_below HR0_3.out (by repeat (first | (with_reducible first | exact HB.out | apply below_alloc | apply pw_below_drewN | apply below_drew1 | refine below_set ?_ GE205.out) | exact HB.out)))); (case side2 => exact HC0_3.out); rintro e w24 ⟨rfl, hb⟩; have n0_ := sK BK205 hb; have n1_ := sB HB hb; clear BK205; clear HB; have BK205 := n0_; have HB := n1_; clear n0_ n1_; (try clear hb); (try clear hb2); (try clear hk); (try clear hi); obtain ⟨hcz25_0, hcz25_1, hcz25_2, hcz25_3, hcz25_4, hfz25_0, hfz25_1, hfz25_2, hfz25_3, hfz25_4⟩ := cells5 BK205.out) | (go_at_call 95; (with_reducible refine (impl_File__impl_nameOfFile.calls kj1 _ _ l0_3  t211 _ ?side1 ?side2 A22.out).mono ?_); (case side1 => exact sD (Kd.C_below HR0_3.out HB.out)); (case side2 => exact HC0_3.out); rintro e w26 ⟨rfl, hb⟩; have n0_ := sK BK205 hb; have n1_ := sB HB hb; clear BK205; clear HB; have BK205 := n0_; have HB := n1_; clear n0_ n1_; (try clear hb); (try clear hb2); (try clear hk); (try clear hi)))
        go_ret
        exact ⟨sq, sb⟩
       replace c21 := Bool.eq_false_iff.mpr c21
       subst c21
       rewrite [if_neg (show ¬ (false = true) by decide)] at H
       obtain rfl := Option.some.inj H
       obtain ⟨hcz27_0, hcz27_1, hcz27_2, hcz27_3, hcz27_4, hfz27_0, hfz27_1, hfz27_2, hfz27_3, hfz27_4⟩ := cells5 BK205.out
       go_wp2_with (first | ((with_reducible refine gate_callee (f := 90) rfl ?_); refine sC (some 29) Try.func90 #[.slice A0_0 l0_0.length c0_0, .func (.func 91) #[] #[]] (impl_areAll_string__impl_isShort.calls kj1 _ _ l0_0  true _ ?side1 ?side2 A12.out) ?_; (case side1 => exact sD (Kd.C_below HR0_0.out HB.out)); (case side2 => exact HC0_0.out); rintro e w' ⟨rfl, ⟨nd, rfl⟩⟩; refine ⟨_, rfl, ?_⟩) | (go_at_call 90; (with_reducible refine (impl_areAll_string__impl_isShort.calls kj1 _ _ l0_2  true _ ?side1 ?side2 A14.out).mono ?_); (case side1 => exact sD (Kd.C_below HR0_2.out (by repeat (first | (with_reducible first | exact HB.out | apply below_alloc | apply pw_below_drewN | apply below_drew1 | refine below_set ?_ GE205.out) | exact HB.out)))); (case side2 => exact HC0_2.out); rintro e w' ⟨rfl, ⟨nd, rfl⟩⟩) | (go_at_call 90; (with_reducible refine (impl_areAll_string__impl_ValidConsole_1.calls kj1 _ _ l0_4  true _ ?side1 ?side2 A16.out).mono ?_); (case side1 => exact sD (Kd.C_below HR0_4.out (by repeat (first | (with_reducible first | exact HB.out | apply below_alloc | apply pw_below_drewN | apply below_drew1 | refine below_set ?_ GE205.out) | exact HB.out)))); (case side2 => exact HC0_4.out); rintro e w' ⟨rfl, ⟨nd, rfl⟩⟩) | (go_at_call 92; (with_reducible refine (impl_within.calls a0_1 0 (l0_0.length : Int) true _ A18.out).mono ?_); rintro e w' ⟨rfl, ⟨nd, rfl⟩⟩) | (go_at_call 93; (with_reducible refine (impl_File__impl_File_isValid.calls kj1 _ _ l0_3  false _ ?side1 ?side2 A20.out).mono ?_); (case side1 => exact sD (Kd.C_below HR0_3.out (by repeat (first | (with_reducible first | exact HB.out | apply below_alloc | apply pw_below_drewN | apply below_drew1 | refine below_set ?_ GE205.out) | exact HB.out)))); (case side2 => exact HC0_3.out); rintro e w28 ⟨rfl, hb⟩; have n0_ := sK BK205 hb; have n1_ := sB HB hb; clear BK205; clear HB; have BK205 := n0_; have HB := n1_; clear n0_ n1_; (try clear hb); (try clear hb2); (try clear hk); (try clear hi)))
       go_ret
       exact ⟨sq, sb⟩
      replace c19 := Bool.eq_false_iff.mpr c19
      subst c19
      rewrite [if_neg (show ¬ (false = true) by decide)] at H
      obtain rfl := Option.some.inj H
      obtain ⟨hcz29_0, hcz29_1, hcz29_2, hcz29_3, hcz29_4, hfz29_0, hfz29_1, hfz29_2, hfz29_3, hfz29_4⟩ := cells5 BK205.out
      go_wp2_with (first | ((with_reducible refine gate_callee (f := 90) rfl ?_); refine sC (some 29) Try.func90 #[.slice A0_0 l0_0.length c0_0, .func (.func 91) #[] #[]] (impl_areAll_string__impl_isShort.calls kj1 _ _ l0_0  true _ ?side1 ?side2 A12.out) ?_; (case side1 => exact sD (Kd.C_below HR0_0.out HB.out)); (case side2 => exact HC0_0.out); rintro e w' ⟨rfl, ⟨nd, rfl⟩⟩; refine ⟨_, rfl, ?_⟩) | (go_at_call 90; (with_reducible refine (impl_areAll_string__impl_isShort.calls kj1 _ _ l0_2  true _ ?side1 ?side2 A14.out).mono ?_); (case side1 => exact sD (Kd.C_below HR0_2.out (by repeat (first | (with_reducible first | exact HB.out | apply below_alloc | apply pw_below_drewN | apply below_drew1 | refine below_set ?_ GE205.out) | exact HB.out)))); (case side2 => exact HC0_2.out); rintro e w' ⟨rfl, ⟨nd, rfl⟩⟩) | (go_at_call 90; (with_reducible refine (impl_areAll_string__impl_ValidConsole_1.calls kj1 _ _ l0_4  true _ ?side1 ?side2 A16.out).mono ?_); (case side1 => exact sD (Kd.C_below HR0_4.out (by repeat (first | (with_reducible first | exact HB.out | apply below_alloc | apply pw_below_drewN | apply below_drew1 | refine below_set ?_ GE205.out) | exact HB.out)))); (case side2 => exact HC0_4.out); rintro e w' ⟨rfl, ⟨nd, rfl⟩⟩) | (go_at_call 92; (with_reducible refine (impl_within.calls a0_1 0 (l0_0.length : Int) false _ A18.out).mono ?_); rintro e w' ⟨rfl, ⟨nd, rfl⟩⟩))
      go_ret
      exact ⟨sq, sb⟩
     replace c17 := Bool.eq_false_iff.mpr c17
     subst c17
     rewrite [if_neg (show ¬ (false = true) by decide)] at H
     obtain rfl := Option.some.inj H
     obtain ⟨hcz30_0, hcz30_1, hcz30_2, hcz30_3, hcz30_4, hfz30_0, hfz30_1, hfz30_2, hfz30_3, hfz30_4⟩ := cells5 BK205.out
     go_wp2_with (first | ((with_reducible refine gate_callee (f := 90) rfl ?_); refine sC (some 29) Try.func90 #[.slice A0_0 l0_0.length c0_0, .func (.func 91) #[] #[]] (impl_areAll_string__impl_isShort.calls kj1 _ _ l0_0  true _ ?side1 ?side2 A12.out) ?_; (case side1 => exact sD (Kd.C_below HR0_0.out HB.out)); (case side2 => exact HC0_0.out); rintro e w' ⟨rfl, ⟨nd, rfl⟩⟩; refine ⟨_, rfl, ?_⟩) | (go_at_call 90; (with_reducible refine (impl_areAll_string__impl_isShort.calls kj1 _ _ l0_2  true _ ?side1 ?side2 A14.out).mono ?_); (case side1 => exact sD (Kd.C_below HR0_2.out (by repeat (first | (with_reducible first | exact HB.out | apply below_alloc | apply pw_below_drewN | apply below_drew1 | refine below_set ?_ GE205.out) | exact HB.out)))); (case side2 => exact HC0_2.out); rintro e w' ⟨rfl, ⟨nd, rfl⟩⟩) | (go_at_call 90; (with_reducible refine (impl_areAll_string__impl_ValidConsole_1.calls kj1 _ _ l0_4  false _ ?side1 ?side2 A16.out).mono ?_); (case side1 => exact sD (Kd.C_below HR0_4.out (by repeat (first | (with_reducible first | exact HB.out | apply below_alloc | apply pw_below_drewN | apply below_drew1 | refine below_set ?_ GE205.out) | exact HB.out)))); (case side2 => exact HC0_4.out); rintro e w' ⟨rfl, ⟨nd, rfl⟩⟩))
     go_ret
     exact ⟨sq, sb⟩
    replace c15 := Bool.eq_false_iff.mpr c15
    subst c15
    rewrite [if_neg (show ¬ (false = true) by decide)] at H
    obtain rfl := Option.some.inj H
    obtain ⟨hcz31_0, hcz31_1, hcz31_2, hcz31_3, hcz31_4, hfz31_0, hfz31_1, hfz31_2, hfz31_3, hfz31_4⟩ := cells5 BK205.out
    go_wp2_with (first | ((with_reducible refine gate_callee (f := 90) rfl ?_); refine sC (some 29) Try.func90 #[.slice A0_0 l0_0.length c0_0, .func (.func 91) #[] #[]] (impl_areAll_string__impl_isShort.calls kj1 _ _ l0_0  true _ ?side1 ?side2 A12.out) ?_; (case side1 => exact sD (Kd.C_below HR0_0.out HB.out)); (case side2 => exact HC0_0.out); rintro e w' ⟨rfl, ⟨nd, rfl⟩⟩; refine ⟨_, rfl, ?_⟩) | (go_at_call 90; (with_reducible refine (impl_areAll_string__impl_isShort.calls kj1 _ _ l0_2  false _ ?side1 ?side2 A14.out).mono ?_); (case side1 => exact sD (Kd.C_below HR0_2.out (by repeat (first | (with_reducible first | exact HB.out | apply below_alloc | apply pw_below_drewN | apply below_drew1 | refine below_set ?_ GE205.out) | exact HB.out)))); (case side2 => exact HC0_2.out); rintro e w' ⟨rfl, ⟨nd, rfl⟩⟩))
    go_ret
    exact ⟨sq, sb⟩
   replace c13 := Bool.eq_false_iff.mpr c13
   subst c13
   rewrite [if_neg (show ¬ (false = true) by decide)] at H
   obtain rfl := Option.some.inj H
   obtain ⟨hcz32_0, hcz32_1, hcz32_2, hcz32_3, hcz32_4, hfz32_0, hfz32_1, hfz32_2, hfz32_3, hfz32_4⟩ := cells5 BK205.out
   go_wp2_with (first | ((with_reducible refine gate_callee (f := 90) rfl ?_); refine sC (some 29) Try.func90 #[.slice A0_0 l0_0.length c0_0, .func (.func 91) #[] #[]] (impl_areAll_string__impl_isShort.calls kj1 _ _ l0_0  false _ ?side1 ?side2 A12.out) ?_; (case side1 => exact sD (Kd.C_below HR0_0.out HB.out)); (case side2 => exact HC0_0.out); rintro e w' ⟨rfl, ⟨nd, rfl⟩⟩; refine ⟨_, rfl, ?_⟩))
   go_ret
   exact ⟨sq, sb⟩
end Go.Proofs.Ytabbpnkbhapibaa.PFnExactValidConsole
