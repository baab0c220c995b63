/- Printed functions: impl_Value, impl_Value_157, impl_areDifferent. -/
import Derived.Test.YtnjkhdhaiicefaaYGfP0
import Derived.Test.YtnjkhdhaiicefaaYGfPE
namespace Go.Proofs.Ytnjkhdhaiicefaa.PFnExactGetField
open Go.RowKit Go.Proofs.YtnjkhdhaiicefaaG Go.Proofs.YtnjkhdhaiicefaaW.PrintWords Go.Proofs.YtnjkhdhaiicefaaW.PrintLast Go.Proofs.YtnjkhdhaiicefaaW.PrintMore
attribute [local go_sem] max2_int min2_int max_two min_two max_three min_three max_four min_four   -- for this text's walks alone
set_option linter.unusedVariables false
set_option linter.unusedSimpArgs false
section
attribute [local go_sem high] eqA29
/-! ### impl_Value: function 110 -/
def impl_Value.l0 : Nat → List (S29) → Int → Int → Int → Int → ByteArray → Int → Option (Int)
 | 0, _, _, _, _, _, _, _ => none
 | k + 1, x0, x7, x8, x271000, x271001, x271002, x271003 => if x8 < x7 then (if 0 ≤ x8 then (if x8 < (x0.length : Int) then (if (x271000 == ((rd_T29 x0 x8).f0) && (x271001 == ((rd_T29 x0 x8).f1) && (x271002.toList == (((rd_T29 x0 x8).f2).toList) && (x271003 == ((rd_T29 x0 x8).f3))))) = true then (some x8) else (impl_Value.l0 k x0 x7 (wrap64 (x8 + 1)) x271000 x271001 x271002 x271003)) else (none)) else (none)) else (some (-1))
def impl_Value.f (k : Nat) (l0 : List (S29)) (a1_0 : Int) (a1_1 : Int) (a1_2 : ByteArray) (a1_3 : Int) : Option (Int) := impl_Value.l0 k l0 (l0.length : Int) 0 a1_0 a1_1 a1_2 a1_3
set_option maxHeartbeats 8000000 in
set_option maxRecDepth 100000 in
theorem impl_Value.calls (k : Nat) (A0 : Option Addr) (c0 : Nat) (l0 : List (S29)) (a1_0 : Int) (a1_1 : Int) (a1_2 : ByteArray) (a1_3 : Int) (r : Int) (w : World) (hr0 : Kd.C k29 w A0 l0.length l0) (hc0 : l0.length ≤ c0) (h : impl_Value.f k l0 a1_0 a1_1 a1_2 a1_3 = some r) :
  Calls Try.prog 110 #[.slice A0 l0.length c0, .agg #[.int .i64 a1_0, .int .i64 a1_1, .string a1_2, .int .i64 a1_3]] w fun e w' => e = .returned (.int .i64 r) ∧ Below w.heap.size w w' := by
 have hu29 := Try.underlying29
 have HR0 := Aside0.mk hr0
 have HC0 := Aside0.mk hc0
 clear hr0 hc0
 have HB := Aside0.mk (Below.refl w.heap.size w)
 have H : (impl_Value.l0 k l0 (l0.length : Int) 0 a1_0 a1_1 a1_2 a1_3) = some r := h
 clear h
 have H' := Aside0.mk H
 clear H
 go_enter Try.func110, Try.ntmps110
 go_wp2_with (first | ((with_reducible refine gate_dst (N := 3) rfl ?_); refine sV (N := 3) (cs := #[.int .i64 a1_0, .int .i64 a1_1, .string a1_2, .int .i64 a1_3]) (t := 29) ?_; intro gb270 hg w3 hbox hb; have n0_ := sB HB hb; have n1_ := Aside0.mk (hbox); have n2_ := sG HB hg; have n3_ := sG HB hg; clear HB; have HB := n0_; have BK270 := n1_; have GW270 := n2_; have GE270 := n3_; clear n0_ n1_ n2_ n3_; clear hb hbox hg))
 repeat (go_quiet (first | ((with_reducible refine gate_dst (N := 3) rfl ?_); refine sV (N := 3) (cs := #[.int .i64 a1_0, .int .i64 a1_1, .string a1_2, .int .i64 a1_3]) (t := 29) ?_; intro gb270 hg w3 hbox hb; have n0_ := sB HB hb; have n1_ := Aside0.mk (hbox); have n2_ := sG HB hg; have n3_ := sG HB hg; clear HB; have HB := n0_; have BK270 := n1_; have GW270 := n2_; have GE270 := n3_; clear n0_ n1_ n2_ n3_; clear hb hbox hg)); try go_wp2_with (first | ((with_reducible refine gate_dst (N := 3) rfl ?_); refine sV (N := 3) (cs := #[.int .i64 a1_0, .int .i64 a1_1, .string a1_2, .int .i64 a1_3]) (t := 29) ?_; intro gb270 hg w3 hbox hb; have n0_ := sB HB hb; have n1_ := Aside0.mk (hbox); have n2_ := sG HB hg; have n3_ := sG HB hg; clear HB; have HB := n0_; have BK270 := n1_; have GW270 := n2_; have GE270 := n3_; clear n0_ n1_ n2_ n3_; clear hb hbox hg)))
 go_loopg [8] k (fun kq v8 w' => ∃ (x8_1 : Int), v8 = .int .i64 x8_1 ∧ Aside0 (impl_Value.l0 kq l0 (l0.length : Int) x8_1 a1_0 a1_1 a1_2 a1_3 = some r) ∧ Aside0 (kq ≤ k) ∧ Aside0 (w'.heap[gb270]? = some (.cells #[.int .i64 a1_0, .int .i64 a1_1, .string a1_2, .int .i64 a1_3] 29 (0, 0))) ∧ Aside0 (Below w.heap.size w w'))
 case atStart => exact ⟨(0), sr, H', ⟨Nat.le_refl _⟩, ⟨by exact sT BK270.out⟩, ⟨sb⟩⟩
 case round =>
  clear H'
  try clear c1
  try clear p2
  obtain ⟨x8_1, rfl, HA, HK1, BK270, HB⟩ := hrel
  cases gk with
  | zero => exact absurd HA.out (by simp [impl_Value.l0])
  | succ k1 =>
   have H := HA.out
   clear HA
   simp only [impl_Value.l0] at H
   by_cases c4 : x8_1 < (l0.length : Int)
   ·rw [if_pos c4] at H
    have c4b0 := decide_eq_true c4
    clear c4
    by_cases c5 : 0 ≤ x8_1
    ·rw [if_pos c5] at H
     have c5b0 := decide_eq_true c5
     clear c5
     by_cases c6 : x8_1 < (l0.length : Int)
     ·rw [if_pos c6] at H
      have c6b0 := decide_eq_true c6
      clear c6
      by_cases c7 : (a1_0 == ((rd_T29 l0 x8_1).f0) && (a1_1 == ((rd_T29 l0 x8_1).f1) && (a1_2.toList == (((rd_T29 l0 x8_1).f2).toList) && (a1_3 == ((rd_T29 l0 x8_1).f3))))) = true
      ·rw [if_pos c7] at H
       have c7b0 : (a1_0 == ((rd_T29 l0 x8_1).f0) && (a1_1 == ((rd_T29 l0 x8_1).f1) && (a1_2.toList == (((rd_T29 l0 x8_1).f2).toList) && (a1_3 == ((rd_T29 l0 x8_1).f3))))) = true := c7
       (try (have c7b1 : decide (a1_0 = ((rd_T29 l0 x8_1).f0) && (a1_1 == ((rd_T29 l0 x8_1).f1) && (a1_2.toList == (((rd_T29 l0 x8_1).f2).toList) && (a1_3 == ((rd_T29 l0 x8_1).f3))))) = true := by simpa using c7))
       (try (have c7b2 : (a1_0 == ((rd_T29 l0 x8_1).f0) && (a1_1 == ((rd_T29 l0 x8_1).f1) && (a1_2.toList == (((rd_T29 l0 x8_1).f2).toList) && (a1_3 == ((rd_T29 l0 x8_1).f3))))) = true := by simpa using c7))
       clear c7
       obtain rfl := Option.some.inj H
       obtain ⟨hcz8_0, hcz8_1, hcz8_2, hcz8_3, hfz8_0, hfz8_1, hfz8_2, hfz8_3⟩ := cells4 BK270.out
       have p271 : 0 ≤ (x8_1 : Int) := of_decide_eq_true (by first | (with_reducible assumption) | assumption)
       have q271 : x8_1 < (l0.length : Int) := of_decide_eq_true (by first | (with_reducible assumption) | assumption)
       obtain ⟨ad271, e271, hx271_0, hx271_1, hx271_2, hx271_3⟩ := at_T29 HR0.out x8_1 p271 q271
       cases e271
       replace hx271_0 := sX HB hx271_0
       replace hx271_1 := sX HB hx271_1
       replace hx271_2 := sX HB hx271_2
       replace hx271_3 := sX HB hx271_3
       replace p271 := eq_true p271
       replace q271 := eq_true q271
       go_wp2
       repeat (go_quiet (fail); try go_wp2)
       go_ret
       exact ⟨sq, sb⟩
      rw [if_neg c7] at H
      have c7b0 : (a1_0 == ((rd_T29 l0 x8_1).f0) && (a1_1 == ((rd_T29 l0 x8_1).f1) && (a1_2.toList == (((rd_T29 l0 x8_1).f2).toList) && (a1_3 == ((rd_T29 l0 x8_1).f3))))) = false := by simpa using c7
      (try (have c7b1 : decide (a1_0 = ((rd_T29 l0 x8_1).f0) && (a1_1 == ((rd_T29 l0 x8_1).f1) && (a1_2.toList == (((rd_T29 l0 x8_1).f2).toList) && (a1_3 == ((rd_T29 l0 x8_1).f3))))) = false := by simpa using c7))
      (try (have c7b2 : (a1_0 == ((rd_T29 l0 x8_1).f0) && (a1_1 == ((rd_T29 l0 x8_1).f1) && (a1_2.toList == (((rd_T29 l0 x8_1).f2).toList) && (a1_3 == ((rd_T29 l0 x8_1).f3))))) = false := by simpa using c7))
      (try (have c7b3 : ¬ (a1_0 = ((rd_T29 l0 x8_1).f0) && (a1_1 == ((rd_T29 l0 x8_1).f1) && (a1_2.toList == (((rd_T29 l0 x8_1).f2).toList) && (a1_3 == ((rd_T29 l0 x8_1).f3))))) := by simpa using c7))
      clear c7
      have H' := Aside0.mk H
      clear H
      obtain ⟨hcz9_0, hcz9_1, hcz9_2, hcz9_3, hfz9_0, hfz9_1, hfz9_2, hfz9_3⟩ := cells4 BK270.out
      have p271 : 0 ≤ (x8_1 : Int) := of_decide_eq_true (by first | (with_reducible assumption) | assumption)
      have q271 : x8_1 < (l0.length : Int) := of_decide_eq_true (by first | (with_reducible assumption) | assumption)
      obtain ⟨ad271, e271, hx271_0, hx271_1, hx271_2, hx271_3⟩ := at_T29 HR0.out x8_1 p271 q271
      cases e271
      replace hx271_0 := sX HB hx271_0
      replace hx271_1 := sX HB hx271_1
      replace hx271_2 := sX HB hx271_2
      replace hx271_3 := sX HB hx271_3
      replace p271 := eq_true p271
      replace q271 := eq_true q271
      go_wp2
      repeat (go_quiet (fail); try go_wp2)
      go_roundg k1
      case measure => have := HK1.out; omega
      case rel => exact ⟨(wrap64 (x8_1 + 1)), sr, H', ⟨by have := HK1.out; omega⟩, ⟨by exact sT BK270.out⟩, ⟨sb⟩⟩
     rw [if_neg c6] at H
     exact absurd H (by simp)
    rw [if_neg c5] at H
    exact absurd H (by simp)
   rw [if_neg c4] at H
   have c4b0 := decide_eq_false c4
   clear c4
   obtain rfl := Option.some.inj H
   go_wp2
   repeat (go_quiet (fail); try go_wp2)
   go_ret
   exact ⟨sq, sb⟩
end

section
attribute [local go_sem high] eqA29
/-! ### impl_Value_157: function 157 -/
def impl_Value_157.f (k : Nat) (l0 : List (S29)) (a1_0 : Int) (a1_1 : Int) (a1_2 : ByteArray) (a1_3 : Int) : Option (Bool) := (impl_Value.f k l0 a1_0 a1_1 a1_2 a1_3).bind fun t273 => (some (decide (t273 ≥ 0)))
set_option maxHeartbeats 8000000 in
set_option maxRecDepth 100000 in
theorem impl_Value_157.calls (k : Nat) (A0 : Option Addr) (c0 : Nat) (l0 : List (S29)) (a1_0 : Int) (a1_1 : Int) (a1_2 : ByteArray) (a1_3 : Int) (r : Bool) (w : World) (hr0 : Kd.C k29 w A0 l0.length l0) (hc0 : l0.length ≤ c0) (h : impl_Value_157.f k l0 a1_0 a1_1 a1_2 a1_3 = some r) :
  Calls Try.prog 157 #[.slice A0 l0.length c0, .agg #[.int .i64 a1_0, .int .i64 a1_1, .string a1_2, .int .i64 a1_3]] w fun e w' => e = .returned (.bool r) ∧ Below w.heap.size w w' := by
 have hu29 := Try.underlying29
 have HR0 := Aside0.mk hr0
 have HC0 := Aside0.mk hc0
 clear hr0 hc0
 have HB := Aside0.mk (Below.refl w.heap.size w)
 have H : ((impl_Value.f k l0 a1_0 a1_1 a1_2 a1_3).bind fun t273 => (some (decide (t273 ≥ 0)))) = some r := h
 clear h
 obtain ⟨t273, A3, H⟩ := sO H
 obtain rfl := Option.some.inj H
 go_enter Try.func157, Try.ntmps157
 go_wp2_with (first | ((with_reducible refine gate_dst (N := 3) rfl ?_); refine sV (N := 3) (cs := #[.int .i64 a1_0, .int .i64 a1_1, .string a1_2, .int .i64 a1_3]) (t := 29) ?_; intro gb272 hg w4 hbox hb; have n0_ := sB HB hb; have n1_ := Aside0.mk (hbox); have n2_ := sG HB hg; have n3_ := sG HB hg; clear HB; have HB := n0_; have BK272 := n1_; have GW272 := n2_; have GE272 := n3_; clear n0_ n1_ n2_ n3_; clear hb hbox hg; obtain ⟨hcz5_0, hcz5_1, hcz5_2, hcz5_3, hfz5_0, hfz5_1, hfz5_2, hfz5_3⟩ := cells4 BK272.out) | ((with_reducible refine gate_callee (f := 110) rfl ?_); refine sC (some 7) Try.func110 #[.slice A0 l0.length c0, .agg #[.int .i64 a1_0, .int .i64 a1_1, .string a1_2, .int .i64 a1_3]] (impl_Value.calls k _ _ l0 a1_0 a1_1 a1_2 a1_3 t273 _ ?side1 ?side2 A3.out) ?_; (case side1 => exact sD (Kd.C_below HR0.out HB.out)); (case side2 => exact HC0.out); rintro e w6 ⟨rfl, hb⟩; refine ⟨_, rfl, ?_⟩; have n0_ := sK BK272 hb; have n1_ := sB HB hb; clear BK272; clear HB; have BK272 := n0_; have HB := n1_; clear n0_ n1_; (try clear hb); (try clear hb2); (try clear hk); (try clear hi)))
 go_ret
 exact ⟨sq, sb⟩
end

section
attribute [local go_sem high] eqA29
/-! ### impl_areDifferent: function 126 -/
def impl_areDifferent.l0 : Nat → List (S29) → List (S29) → Int → Int → Option (Bool)
 | 0, _, _, _, _ => none
 | k + 1, x0, x5, x6, x7 => if x7 < x6 then (if 0 ≤ x7 then (if x7 < (x5.length : Int) then (if x7 ≤ (x0.length : Int) then ((impl_Value_157.f k (x0.take (x7 : Int).toNat) ((rd_T29 x5 x7).f0) ((rd_T29 x5 x7).f1) ((rd_T29 x5 x7).f2) ((rd_T29 x5 x7).f3)).bind fun t280 => (if t280 = true then (some false) else (impl_areDifferent.l0 k x0 x5 x6 (wrap64 (x7 + 1))))) else (none)) else (none)) else (none)) else (some true)
def impl_areDifferent.f (k : Nat) (l0 : List (S29)) : Option (Bool) := impl_areDifferent.l0 k l0 l0 (l0.length : Int) 0
set_option maxHeartbeats 8000000 in
set_option maxRecDepth 100000 in
theorem impl_areDifferent.calls (k : Nat) (A0 : Option Addr) (c0 : Nat) (l0 : List (S29)) (r : Bool) (w : World) (hr0 : Kd.C k29 w A0 l0.length l0) (hc0 : l0.length ≤ c0) (h : impl_areDifferent.f k l0 = some r) :
  Calls Try.prog 126 #[.slice A0 l0.length c0] w fun e w' => e = .returned (.bool r) ∧ Below w.heap.size w w' := by
 have hu29 := Try.underlying29
 have HR0 := Aside0.mk hr0
 have HC0 := Aside0.mk hc0
 clear hr0 hc0
 have HB := Aside0.mk (Below.refl w.heap.size w)
 have H : (impl_areDifferent.l0 k l0 l0 (l0.length : Int) 0) = some r := h
 clear h
 have H' := Aside0.mk H
 clear H
 go_enter Try.func126, Try.ntmps126
 go_wp2
 go_loopg [7] k (fun kq v7 w' => ∃ (x7_1 : Int), v7 = .int .i64 x7_1 ∧ Aside0 (impl_areDifferent.l0 kq l0 l0 (l0.length : Int) x7_1 = some r) ∧ Aside0 (kq ≤ k) ∧ Aside0 (Below w.heap.size w w'))
 case atStart => exact ⟨(0), sr, H', ⟨Nat.le_refl _⟩, ⟨sb⟩⟩
 case round =>
  clear H'
  try clear c1
  obtain ⟨x7_1, rfl, HA, HK1, HB⟩ := hrel
  cases gk with
  | zero => exact absurd HA.out (by simp [impl_areDifferent.l0])
  | succ k1 =>
   have H := HA.out
   clear HA
   simp only [impl_areDifferent.l0] at H
   by_cases c2 : x7_1 < (l0.length : Int)
   ·rw [if_pos c2] at H
    have c2b0 := decide_eq_true c2
    clear c2
    by_cases c3 : 0 ≤ x7_1
    ·rw [if_pos c3] at H
     have c3b0 := decide_eq_true c3
     clear c3
     by_cases c4 : x7_1 < (l0.length : Int)
     ·rw [if_pos c4] at H
      have c4b0 := decide_eq_true c4
      clear c4
      have c5b0 := eq_true (of_decide_eq_true (by first | (with_reducible assumption) | assumption) : 0 ≤ x7_1)
      by_cases c6 : x7_1 ≤ (l0.length : Int)
      ·rw [if_pos c6] at H
       have c6b0 := eq_true c6
       have c6b1 := decide_eq_true c6
       clear c6
       obtain ⟨y276, hy276⟩ : ∃ y_ : List (S29), y_ = (l0.take (x7_1 : Int).toNat) := ⟨_, rfl⟩
       replace H : ((impl_Value_157.f k1 y276 ((rd_T29 l0 x7_1).f0) ((rd_T29 l0 x7_1).f1) ((rd_T29 l0 x7_1).f2) ((rd_T29 l0 x7_1).f3)).bind fun t280 => (if t280 = true then (some false) else (impl_areDifferent.l0 k1 l0 l0 (l0.length : Int) (wrap64 (x7_1 + 1))))) = some r := by first | (rw [hy276]; with_reducible exact H) | (have H2_ := (Option.bind_some _ _).symm.trans H; rw [hy276]; with_reducible exact H2_) | (have H2_ := (Option.bind_some _ _).symm.trans H; with_reducible exact H2_) | with_reducible exact H | (rw [hy276]; exact H) | exact H
       have Ny276 := Aside0.mk hy276
       clear hy276
       obtain ⟨t280, A7, H⟩ := sO H
       by_cases c8 : t280 = true
       ·subst c8
        rewrite [if_pos rfl] at H
        obtain rfl := Option.some.inj H
        have p274 : 0 ≤ (x7_1 : Int) := of_decide_eq_true (by first | (with_reducible assumption) | assumption)
        have q274 : x7_1 < (l0.length : Int) := of_decide_eq_true (by first | (with_reducible assumption) | assumption)
        obtain ⟨ad274, e274, hx274_0, hx274_1, hx274_2, hx274_3⟩ := at_T29 HR0.out x7_1 p274 q274
        cases e274
        replace hx274_0 := sX HB hx274_0
        replace hx274_1 := sX HB hx274_1
        replace hx274_2 := sX HB hx274_2
        replace hx274_3 := sX HB hx274_3
        replace p274 := eq_true p274
        replace q274 := eq_true q274
        try go_wp2_with (first | ((with_reducible refine gate_dst (N := 4) rfl ?_); refine sV (N := 4) (cs := #[.int .i64 0, .int .i64 0, .string (⟨#[]⟩ : ByteArray), .int .i64 0]) (t := 29) ?_; intro gb275 hg w9 hbox hb; have n0_ := sB HB hb; have n1_ := Aside0.mk (hbox); have n2_ := sG HB hg; have n3_ := sG HB hg; clear HB; have HB := n0_; have BK275 := n1_; have GW275 := n2_; have GE275 := n3_; clear n0_ n1_ n2_ n3_; clear hb hbox hg; obtain ⟨hcz10_0, hcz10_1, hcz10_2, hcz10_3, hfz10_0, hfz10_1, hfz10_2, hfz10_3⟩ := cells4 BK275.out))
        have n0_ : Aside0 (((((w9.setCell ⟨gb275, 0, none⟩ (.int .i64 ((rd_T29 l0 x7_1).f0))).setCell ⟨gb275, 1, none⟩ (.int .i64 ((rd_T29 l0 x7_1).f1))).setCell ⟨gb275, 2, none⟩ (.string ((rd_T29 l0 x7_1).f2))).setCell ⟨gb275, 3, none⟩ (.int .i64 ((rd_T29 l0 x7_1).f3))).heap[gb275]? = some (.cells #[.int .i64 ((rd_T29 l0 x7_1).f0), .int .i64 ((rd_T29 l0 x7_1).f1), .string ((rd_T29 l0 x7_1).f2), .int .i64 ((rd_T29 l0 x7_1).f3)] 29 (0, 0))) := ⟨sP4 (sT BK275.out)⟩
        have n1_ : Aside0 (Below w.heap.size w ((((w9.setCell ⟨gb275, 0, none⟩ (.int .i64 ((rd_T29 l0 x7_1).f0))).setCell ⟨gb275, 1, none⟩ (.int .i64 ((rd_T29 l0 x7_1).f1))).setCell ⟨gb275, 2, none⟩ (.string ((rd_T29 l0 x7_1).f2))).setCell ⟨gb275, 3, none⟩ (.int .i64 ((rd_T29 l0 x7_1).f3)))) := ⟨sb⟩
        (try clear BK275)
        (try clear HB)
        generalize ((((w9.setCell ⟨gb275, 0, none⟩ (.int .i64 ((rd_T29 l0 x7_1).f0))).setCell ⟨gb275, 1, none⟩ (.int .i64 ((rd_T29 l0 x7_1).f1))).setCell ⟨gb275, 2, none⟩ (.string ((rd_T29 l0 x7_1).f2))).setCell ⟨gb275, 3, none⟩ (.int .i64 ((rd_T29 l0 x7_1).f3))) = w11 at n0_ n1_ ⊢
        have BK275 := n0_
        have HB := n1_
        clear n0_ n1_
        have n0_ := Aside0.mk (blk_drew BK275.out)
        have n1_ := Aside0.mk (below_drew1 HB.out)
        clear BK275
        clear HB
        have BK275 := n0_
        have HB := n1_
        clear n0_ n1_
        have q13 : (x7_1 : Int) ≤ ((l0.length : Int) : Int) := of_decide_eq_true (by first | (with_reducible assumption) | assumption)
        obtain ⟨i013, hi013, _, hsz13, _⟩ := info_parts info29
        have hroom13 : l0.length ≤ c0 := HC0.out
        have hC13 : Kd.C k29 _ (some ad274) l0.length l0 := HR0.out
        have hcut13 := cut_to (P := Try.prog) 43 29 .i64 Try.underlying43 hi013 (some ad274) l0.length c0 x7_1 (of_decide_eq_true (by first | (with_reducible assumption) | assumption)) q13 hroom13
        have hr13 := Kd.C_take (m := (x7_1 : Int).toNat) hC13 (by omega)
        have hy13 : y276.length = (x7_1 : Int).toNat := (by rw [Ny276.out, List.length_take]; omega)
        rw [← Ny276.out] at hr13
        rw [← hy13] at hcut13
        have HR279 := Aside0.mk hr13
        have HC279 := Aside0.mk (show y276.length ≤ c0 from by omega)
        clear hr13 hC13 hroom13 hi013 hsz13
        have KY13 := Aside0.mk hy13
        clear hy13
        replace q13 := eq_true q13
        refine start_ (n := 5) (S := fun w' => w'.cell? ⟨gb275, 0, none⟩ = some (.int .i64 ((rd_T29 l0 x7_1).f0)) ∧ w'.cell? ⟨gb275, 1, none⟩ = some (.int .i64 ((rd_T29 l0 x7_1).f1)) ∧ w'.cell? ⟨gb275, 2, none⟩ = some (.string ((rd_T29 l0 x7_1).f2)) ∧ w'.cell? ⟨gb275, 3, none⟩ = some (.int .i64 ((rd_T29 l0 x7_1).f3))) (ds := []) #[false, false, false, false, false] (by kernel_rfl) rfl rfl ⟨(blk_cell BK275.out 0).trans rfl, (blk_cell BK275.out 1).trans rfl, (blk_cell BK275.out 2).trans rfl, (blk_cell BK275.out 3).trans rfl⟩ (fun hHeld => ?_)
        generalize w11.drew = w12 at BK275 HB HR279 hHeld ⊢
        refine pure_ (i := 0) (N := some 12) (v := ?_) (a' := ?_) #[true, false, false, false, false] rfl rfl (by kernel_rfl) (fun _ _ _ h => h) (Or.inl ⟨by rfl, ?_⟩) ?_ ?_
        rotate_left
        ·intro w'
         go_simp
         with_reducible rfl
        rotate_left
        ·simp only [Act.put, List.setIfInBounds_toArray, List.set_cons_zero, List.set_cons_succ, i64_w, i32_w]
         rfl
        refine pure_ (i := 1) (N := some 13) (v := ?_) (a' := ?_) #[true, true, false, false, false] rfl rfl (by kernel_rfl) (fun _ _ _ h => h) (Or.inl ⟨by rfl, ?_⟩) ?_ ?_
        rotate_left
        ·intro w'
         go_simp
         with_reducible rfl
        rotate_left
        ·simp only [Act.put, List.setIfInBounds_toArray, List.set_cons_zero, List.set_cons_succ, i64_w, i32_w]
         rfl
        refine pure_ (i := 2) (N := some 14) (v := ?_) (a' := ?_) #[true, true, true, false, false] rfl rfl (by kernel_rfl) (fun _ _ _ h => h) (Or.inl ⟨by rfl, ?_⟩) ?_ ?_
        rotate_left
        ·intro w'
         go_simp
         with_reducible rfl
        rotate_left
        ·simp only [Act.put, List.setIfInBounds_toArray, List.set_cons_zero, List.set_cons_succ, i64_w, i32_w]
         rfl
        refine take_ (i := 3) (N := some 15) (v := ?_) (a' := ?_) #[true, true, true, true, false] rfl rfl (by kernel_rfl) (fun _ _ _ h => h) (Or.inl ⟨by rfl, ?_⟩) hHeld ?_ ?_
        rotate_left
        ·rintro w' ⟨s0, s1, s2, s3⟩
         go_simp
         with_reducible rfl
        rotate_left
        ·simp only [Act.put, List.setIfInBounds_toArray, List.set_cons_zero, List.set_cons_succ, i64_w, i32_w]
         rfl
        refine one_ (i := 4) (N := some 16) #[true, true, true, true, true] rfl rfl (by kernel_rfl) (by decide) (fun K hK => ?_)
        refine goes_ Try.func157 (by kernel_rfl) rfl #[.slice (some ad274) y276.length c0, .agg #[.int .i64 ((rd_T29 l0 x7_1).f0), .int .i64 ((rd_T29 l0 x7_1).f1), .string ((rd_T29 l0 x7_1).f2), .int .i64 ((rd_T29 l0 x7_1).f3)]] (by rfl) rfl rfl (by (try simp only [List.map_toArray, List.map_cons, List.map_nil]); first | done | rfl | (simp only [List.length_drop, List.length_take]; rfl)) ?_
        with_reducible refine (impl_Value_157.calls k1 _ _ y276 ((rd_T29 l0 x7_1).f0) ((rd_T29 l0 x7_1).f1) ((rd_T29 l0 x7_1).f2) ((rd_T29 l0 x7_1).f3) true _ ?side1 ?side2 A7.out).mono ?_
        (case side1 => exact sD (Kd.C_below HR279.out HB.out))
        (case side2 => exact HC279.out)
        rintro e w14 ⟨rfl, hb⟩
        refine ⟨_, rfl, ?_⟩
        have n0_ := sK BK275 hb
        have n1_ := sB HB hb
        clear BK275
        clear HB
        have BK275 := n0_
        have HB := n1_
        clear n0_ n1_
        (try clear hb)
        (try clear hb2)
        (try clear hk)
        (try clear hi)
        refine hK.out _ _ ⟨(blk_cell BK275.out 0).trans rfl, (blk_cell BK275.out 1).trans rfl, (blk_cell BK275.out 2).trans rfl, (blk_cell BK275.out 3).trans rfl⟩ (fun hHeld => ?_)
        clear hK K
        refine norm_ (a' := ?_) ?_ ?_
        rotate_left
        ·show Act.put _ (some 16) _ = _
         simp only [Act.put, List.setIfInBounds_toArray, List.set_cons_zero, List.set_cons_succ, i64_w, i32_w]
         rfl
        refine done_ (by kernel_rfl) ?_
        try go_wp2
        go_ret
        exact ⟨sq, sb⟩
       replace c8 := Bool.eq_false_iff.mpr c8
       subst c8
       rewrite [if_neg (show ¬ (false = true) by decide)] at H
       have H' := Aside0.mk H
       clear H
       have p274 : 0 ≤ (x7_1 : Int) := of_decide_eq_true (by first | (with_reducible assumption) | assumption)
       have q274 : x7_1 < (l0.length : Int) := of_decide_eq_true (by first | (with_reducible assumption) | assumption)
       obtain ⟨ad274, e274, hx274_0, hx274_1, hx274_2, hx274_3⟩ := at_T29 HR0.out x7_1 p274 q274
       cases e274
       replace hx274_0 := sX HB hx274_0
       replace hx274_1 := sX HB hx274_1
       replace hx274_2 := sX HB hx274_2
       replace hx274_3 := sX HB hx274_3
       replace p274 := eq_true p274
       replace q274 := eq_true q274
       try go_wp2_with (first | ((with_reducible refine gate_dst (N := 4) rfl ?_); refine sV (N := 4) (cs := #[.int .i64 0, .int .i64 0, .string (⟨#[]⟩ : ByteArray), .int .i64 0]) (t := 29) ?_; intro gb275 hg w15 hbox hb; have n0_ := sB HB hb; have n1_ := Aside0.mk (hbox); have n2_ := sG HB hg; have n3_ := sG HB hg; clear HB; have HB := n0_; have BK275 := n1_; have GW275 := n2_; have GE275 := n3_; clear n0_ n1_ n2_ n3_; clear hb hbox hg; obtain ⟨hcz16_0, hcz16_1, hcz16_2, hcz16_3, hfz16_0, hfz16_1, hfz16_2, hfz16_3⟩ := cells4 BK275.out))
       have n0_ : Aside0 (((((w15.setCell ⟨gb275, 0, none⟩ (.int .i64 ((rd_T29 l0 x7_1).f0))).setCell ⟨gb275, 1, none⟩ (.int .i64 ((rd_T29 l0 x7_1).f1))).setCell ⟨gb275, 2, none⟩ (.string ((rd_T29 l0 x7_1).f2))).setCell ⟨gb275, 3, none⟩ (.int .i64 ((rd_T29 l0 x7_1).f3))).heap[gb275]? = some (.cells #[.int .i64 ((rd_T29 l0 x7_1).f0), .int .i64 ((rd_T29 l0 x7_1).f1), .string ((rd_T29 l0 x7_1).f2), .int .i64 ((rd_T29 l0 x7_1).f3)] 29 (0, 0))) := ⟨sP4 (sT BK275.out)⟩
       have n1_ : Aside0 (Below w.heap.size w ((((w15.setCell ⟨gb275, 0, none⟩ (.int .i64 ((rd_T29 l0 x7_1).f0))).setCell ⟨gb275, 1, none⟩ (.int .i64 ((rd_T29 l0 x7_1).f1))).setCell ⟨gb275, 2, none⟩ (.string ((rd_T29 l0 x7_1).f2))).setCell ⟨gb275, 3, none⟩ (.int .i64 ((rd_T29 l0 x7_1).f3)))) := ⟨sb⟩
       (try clear BK275)
       (try clear HB)
       generalize ((((w15.setCell ⟨gb275, 0, none⟩ (.int .i64 ((rd_T29 l0 x7_1).f0))).setCell ⟨gb275, 1, none⟩ (.int .i64 ((rd_T29 l0 x7_1).f1))).setCell ⟨gb275, 2, none⟩ (.string ((rd_T29 l0 x7_1).f2))).setCell ⟨gb275, 3, none⟩ (.int .i64 ((rd_T29 l0 x7_1).f3))) = w17 at n0_ n1_ ⊢
       have BK275 := n0_
       have HB := n1_
       clear n0_ n1_
       have n0_ := Aside0.mk (blk_drew BK275.out)
       have n1_ := Aside0.mk (below_drew1 HB.out)
       clear BK275
       clear HB
       have BK275 := n0_
       have HB := n1_
       clear n0_ n1_
       have q19 : (x7_1 : Int) ≤ ((l0.length : Int) : Int) := of_decide_eq_true (by first | (with_reducible assumption) | assumption)
       obtain ⟨i019, hi019, _, hsz19, _⟩ := info_parts info29
       have hroom19 : l0.length ≤ c0 := HC0.out
       have hC19 : Kd.C k29 _ (some ad274) l0.length l0 := HR0.out
       have hcut19 := cut_to (P := Try.prog) 43 29 .i64 Try.underlying43 hi019 (some ad274) l0.length c0 x7_1 (of_decide_eq_true (by first | (with_reducible assumption) | assumption)) q19 hroom19
       have hr19 := Kd.C_take (m := (x7_1 : Int).toNat) hC19 (by omega)
       have hy19 : y276.length = (x7_1 : Int).toNat := (by rw [Ny276.out, List.length_take]; omega)
       rw [← Ny276.out] at hr19
       rw [← hy19] at hcut19
       have HR279 := Aside0.mk hr19
       have HC279 := Aside0.mk (show y276.length ≤ c0 from by omega)
       clear hr19 hC19 hroom19 hi019 hsz19
       have KY19 := Aside0.mk hy19
       clear hy19
       replace q19 := eq_true q19
       refine start_ (n := 5) (S := fun w' => w'.cell? ⟨gb275, 0, none⟩ = some (.int .i64 ((rd_T29 l0 x7_1).f0)) ∧ w'.cell? ⟨gb275, 1, none⟩ = some (.int .i64 ((rd_T29 l0 x7_1).f1)) ∧ w'.cell? ⟨gb275, 2, none⟩ = some (.string ((rd_T29 l0 x7_1).f2)) ∧ w'.cell? ⟨gb275, 3, none⟩ = some (.int .i64 ((rd_T29 l0 x7_1).f3))) (ds := []) #[false, false, false, false, false] (by kernel_rfl) rfl rfl ⟨(blk_cell BK275.out 0).trans rfl, (blk_cell BK275.out 1).trans rfl, (blk_cell BK275.out 2).trans rfl, (blk_cell BK275.out 3).trans rfl⟩ (fun hHeld => ?_)
       generalize w17.drew = w18 at BK275 HB HR279 hHeld ⊢
       refine pure_ (i := 0) (N := some 12) (v := ?_) (a' := ?_) #[true, false, false, false, false] rfl rfl (by kernel_rfl) (fun _ _ _ h => h) (Or.inl ⟨by rfl, ?_⟩) ?_ ?_
       rotate_left
       ·intro w'
        go_simp
        with_reducible rfl
       rotate_left
       ·simp only [Act.put, List.setIfInBounds_toArray, List.set_cons_zero, List.set_cons_succ, i64_w, i32_w]
        rfl
       refine pure_ (i := 1) (N := some 13) (v := ?_) (a' := ?_) #[true, true, false, false, false] rfl rfl (by kernel_rfl) (fun _ _ _ h => h) (Or.inl ⟨by rfl, ?_⟩) ?_ ?_
       rotate_left
       ·intro w'
        go_simp
        with_reducible rfl
       rotate_left
       ·simp only [Act.put, List.setIfInBounds_toArray, List.set_cons_zero, List.set_cons_succ, i64_w, i32_w]
        rfl
       refine pure_ (i := 2) (N := some 14) (v := ?_) (a' := ?_) #[true, true, true, false, false] rfl rfl (by kernel_rfl) (fun _ _ _ h => h) (Or.inl ⟨by rfl, ?_⟩) ?_ ?_
       rotate_left
       ·intro w'
        go_simp
        with_reducible rfl
       rotate_left
       ·simp only [Act.put, List.setIfInBounds_toArray, List.set_cons_zero, List.set_cons_succ, i64_w, i32_w]
        rfl
       refine take_ (i := 3) (N := some 15) (v := ?_) (a' := ?_) #[true, true, true, true, false] rfl rfl (by kernel_rfl) (fun _ _ _ h => h) (Or.inl ⟨by rfl, ?_⟩) hHeld ?_ ?_
       rotate_left
       ·rintro w' ⟨s0, s1, s2, s3⟩
        go_simp
        with_reducible rfl
       rotate_left
       ·simp only [Act.put, List.setIfInBounds_toArray, List.set_cons_zero, List.set_cons_succ, i64_w, i32_w]
        rfl
       refine one_ (i := 4) (N := some 16) #[true, true, true, true, true] rfl rfl (by kernel_rfl) (by decide) (fun K hK => ?_)
       refine goes_ Try.func157 (by kernel_rfl) rfl #[.slice (some ad274) y276.length c0, .agg #[.int .i64 ((rd_T29 l0 x7_1).f0), .int .i64 ((rd_T29 l0 x7_1).f1), .string ((rd_T29 l0 x7_1).f2), .int .i64 ((rd_T29 l0 x7_1).f3)]] (by rfl) rfl rfl (by (try simp only [List.map_toArray, List.map_cons, List.map_nil]); first | done | rfl | (simp only [List.length_drop, List.length_take]; rfl)) ?_
       with_reducible refine (impl_Value_157.calls k1 _ _ y276 ((rd_T29 l0 x7_1).f0) ((rd_T29 l0 x7_1).f1) ((rd_T29 l0 x7_1).f2) ((rd_T29 l0 x7_1).f3) false _ ?side1 ?side2 A7.out).mono ?_
       (case side1 => exact sD (Kd.C_below HR279.out HB.out))
       (case side2 => exact HC279.out)
       rintro e w20 ⟨rfl, hb⟩
       refine ⟨_, rfl, ?_⟩
       have n0_ := sK BK275 hb
       have n1_ := sB HB hb
       clear BK275
       clear HB
       have BK275 := n0_
       have HB := n1_
       clear n0_ n1_
       (try clear hb)
       (try clear hb2)
       (try clear hk)
       (try clear hi)
       refine hK.out _ _ ⟨(blk_cell BK275.out 0).trans rfl, (blk_cell BK275.out 1).trans rfl, (blk_cell BK275.out 2).trans rfl, (blk_cell BK275.out 3).trans rfl⟩ (fun hHeld => ?_)
       clear hK K
       refine norm_ (a' := ?_) ?_ ?_
       rotate_left
       ·show Act.put _ (some 16) _ = _
        simp only [Act.put, List.setIfInBounds_toArray, List.set_cons_zero, List.set_cons_succ, i64_w, i32_w]
        rfl
       refine done_ (by kernel_rfl) ?_
       try go_wp2
       go_roundg k1
       case measure => have := HK1.out; omega
       case rel => exact ⟨(wrap64 (x7_1 + 1)), sr, H', ⟨by have := HK1.out; omega⟩, ⟨sb⟩⟩
      rw [if_neg c6] at H
      exact absurd H (by simp)
     rw [if_neg c4] at H
     exact absurd H (by simp)
    rw [if_neg c3] at H
    exact absurd H (by simp)
   rw [if_neg c2] at H
   have c2b0 := decide_eq_false c2
   clear c2
   obtain rfl := Option.some.inj H
   go_wp2
   go_ret
   exact ⟨sq, sb⟩
end
end Go.Proofs.Ytnjkhdhaiicefaa.PFnExactGetField
