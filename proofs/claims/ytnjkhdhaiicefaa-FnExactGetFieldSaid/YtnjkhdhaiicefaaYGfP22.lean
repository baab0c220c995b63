/- Printed functions: cmp_isNaN_int64, cmp_Compare_int64, impl_Heap_find_1, impl_Object_int64__impl_Heap_find_1, impl_Heap_find. -/
import Derived.Test.YtnjkhdhaiicefaaYGfP0
import Derived.Test.YtnjkhdhaiicefaaYGfPE
namespace Go.Proofs.Ytnjkhdhaiicefaa.PFnExactGetField
open Go.RowKit Go.Proofs.YtnjkhdhaiicefaaG Go.Proofs.YtnjkhdhaiicefaaW.PrintWords Go.Proofs.YtnjkhdhaiicefaaW.PrintLast Go.Proofs.YtnjkhdhaiicefaaW.PrintMore
attribute [local go_sem] max2_int min2_int max_two min_two max_three min_three max_four min_four   -- for this text's walks alone
set_option linter.unusedVariables false
set_option linter.unusedSimpArgs false
section
attribute [local go_sem high] eqA29
/-! ### cmp_isNaN_int64: function 171 -/
def cmp_isNaN_int64.f (a0 : Int) : Option (Bool) := some (a0 != a0)
set_option maxHeartbeats 8000000 in
set_option maxRecDepth 100000 in
theorem cmp_isNaN_int64.calls (a0 : Int) (r : Bool) (w : World) (h : cmp_isNaN_int64.f a0 = some r) :
  Calls Try.prog 171 #[.int .i64 a0] w fun e w' => e = .returned (.bool r) ∧ Drawn0 w w' := by
 have H : (some (a0 != a0)) = some r := h
 clear h
 obtain rfl := Option.some.inj H
 go_enter Try.func171, Try.ntmps171
 go_wp2
 go_ret
 exact ⟨by first | rfl | (simp; done) | (simp [*]; done), by repeat (first | exact Drawn0.refl _ | apply Drawn0.step)⟩
end

/-! ### cmp_Compare_int64: function 150 -/
def cmp_Compare_int64.f (a0 : Int) (a1 : Int) : Option (Int) := (cmp_isNaN_int64.f a0).bind fun t329 => ((cmp_isNaN_int64.f a1).bind fun t330 => (if t329 = true then (if t330 = true then (some 0) else (some (-1))) else (if t330 = true then (some 1) else (if a0 < a1 then (some (-1)) else (if a0 > a1 then (some 1) else (some 0))))))
set_option maxHeartbeats 8000000 in
set_option maxRecDepth 100000 in
theorem cmp_Compare_int64.calls (a0 : Int) (a1 : Int) (r : Int) (w : World) (h : cmp_Compare_int64.f a0 a1 = some r) :
  Calls Try.prog 150 #[.int .i64 a0, .int .i64 a1] w fun e w' => e = .returned (.int .i64 r) ∧ Drawn0 w w' := by
 have H : ((cmp_isNaN_int64.f a0).bind fun t329 => ((cmp_isNaN_int64.f a1).bind fun t330 => (if t329 = true then (if t330 = true then (some 0) else (some (-1))) else (if t330 = true then (some 1) else (if a0 < a1 then (some (-1)) else (if a0 > a1 then (some 1) else (some 0))))))) = some r := h
 clear h
 obtain ⟨t329, A3, H⟩ := sO H
 obtain ⟨t330, A4, H⟩ := sO H
 by_cases c5 : t329 = true
 ·subst c5
  rewrite [if_pos rfl] at H
  by_cases c6 : t330 = true
  ·subst c6
   rewrite [if_pos rfl] at H
   obtain rfl := Option.some.inj H
   go_enter Try.func150, Try.ntmps150
   go_wp2_with (first | ((with_reducible refine gate_callee (f := 171) rfl ?_); refine sC (some 8) Try.func171 #[.int .i64 a0] (cmp_isNaN_int64.calls a0 true _ A3.out) ?_; rintro e w' ⟨rfl, ⟨nd, rfl⟩⟩; refine ⟨_, rfl, ?_⟩) | ((with_reducible refine gate_callee (f := 171) rfl ?_); refine sC (some 10) Try.func171 #[.int .i64 a1] (cmp_isNaN_int64.calls a1 true _ A4.out) ?_; rintro e w' ⟨rfl, ⟨nd, rfl⟩⟩; refine ⟨_, rfl, ?_⟩))
   go_ret
   exact ⟨by first | rfl | (simp; done) | (simp [*]; done), by repeat (first | exact Drawn0.refl _ | apply Drawn0.step)⟩
  replace c6 := Bool.eq_false_iff.mpr c6
  subst c6
  rewrite [if_neg (show ¬ (false = true) by decide)] at H
  obtain rfl := Option.some.inj H
  go_enter Try.func150, Try.ntmps150
  go_wp2_with (first | ((with_reducible refine gate_callee (f := 171) rfl ?_); refine sC (some 8) Try.func171 #[.int .i64 a0] (cmp_isNaN_int64.calls a0 true _ A3.out) ?_; rintro e w' ⟨rfl, ⟨nd, rfl⟩⟩; refine ⟨_, rfl, ?_⟩) | ((with_reducible refine gate_callee (f := 171) rfl ?_); refine sC (some 10) Try.func171 #[.int .i64 a1] (cmp_isNaN_int64.calls a1 false _ A4.out) ?_; rintro e w' ⟨rfl, ⟨nd, rfl⟩⟩; refine ⟨_, rfl, ?_⟩))
  go_ret
  exact ⟨by first | rfl | (simp; done) | (simp [*]; done), by repeat (first | exact Drawn0.refl _ | apply Drawn0.step)⟩
 replace c5 := Bool.eq_false_iff.mpr c5
 subst c5
 rewrite [if_neg (show ¬ (false = true) by decide)] at H
 by_cases c7 : t330 = true
 ·subst c7
  rewrite [if_pos rfl] at H
  obtain rfl := Option.some.inj H
  go_enter Try.func150, Try.ntmps150
  go_wp2_with (first | ((with_reducible refine gate_callee (f := 171) rfl ?_); refine sC (some 8) Try.func171 #[.int .i64 a0] (cmp_isNaN_int64.calls a0 false _ A3.out) ?_; rintro e w' ⟨rfl, ⟨nd, rfl⟩⟩; refine ⟨_, rfl, ?_⟩) | ((with_reducible refine gate_callee (f := 171) rfl ?_); refine sC (some 10) Try.func171 #[.int .i64 a1] (cmp_isNaN_int64.calls a1 true _ A4.out) ?_; rintro e w' ⟨rfl, ⟨nd, rfl⟩⟩; refine ⟨_, rfl, ?_⟩))
  go_ret
  exact ⟨by first | rfl | (simp; done) | (simp [*]; done), by repeat (first | exact Drawn0.refl _ | apply Drawn0.step)⟩
 replace c7 := Bool.eq_false_iff.mpr c7
 subst c7
 rewrite [if_neg (show ¬ (false = true) by decide)] at H
 by_cases c8 : a0 < a1
 ·rw [if_pos c8] at H
  have c8b0 := decide_eq_true c8
  clear c8
  obtain rfl := Option.some.inj H
  go_enter Try.func150, Try.ntmps150
  go_wp2_with (first | ((with_reducible refine gate_callee (f := 171) rfl ?_); refine sC (some 8) Try.func171 #[.int .i64 a0] (cmp_isNaN_int64.calls a0 false _ A3.out) ?_; rintro e w' ⟨rfl, ⟨nd, rfl⟩⟩; refine ⟨_, rfl, ?_⟩) | ((with_reducible refine gate_callee (f := 171) rfl ?_); refine sC (some 10) Try.func171 #[.int .i64 a1] (cmp_isNaN_int64.calls a1 false _ A4.out) ?_; rintro e w' ⟨rfl, ⟨nd, rfl⟩⟩; refine ⟨_, rfl, ?_⟩))
  go_ret
  exact ⟨by first | rfl | (simp; done) | (simp [*]; done), by repeat (first | exact Drawn0.refl _ | apply Drawn0.step)⟩
 rw [if_neg c8] at H
 have c8b0 := decide_eq_false c8
 clear c8
 by_cases c9 : a0 > a1
 ·rw [if_pos c9] at H
  have c9b0 : decide (a1 < a0) = true := decide_eq_true c9
  clear c9
  obtain rfl := Option.some.inj H
  go_enter Try.func150, Try.ntmps150
  go_wp2_with (first | ((with_reducible refine gate_callee (f := 171) rfl ?_); refine sC (some 8) Try.func171 #[.int .i64 a0] (cmp_isNaN_int64.calls a0 false _ A3.out) ?_; rintro e w' ⟨rfl, ⟨nd, rfl⟩⟩; refine ⟨_, rfl, ?_⟩) | ((with_reducible refine gate_callee (f := 171) rfl ?_); refine sC (some 10) Try.func171 #[.int .i64 a1] (cmp_isNaN_int64.calls a1 false _ A4.out) ?_; rintro e w' ⟨rfl, ⟨nd, rfl⟩⟩; refine ⟨_, rfl, ?_⟩))
  go_ret
  exact ⟨by first | rfl | (simp; done) | (simp [*]; done), by repeat (first | exact Drawn0.refl _ | apply Drawn0.step)⟩
 rw [if_neg c9] at H
 have c9b0 : decide (a1 < a0) = false := decide_eq_false c9
 clear c9
 obtain rfl := Option.some.inj H
 go_enter Try.func150, Try.ntmps150
 go_wp2_with (first | ((with_reducible refine gate_callee (f := 171) rfl ?_); refine sC (some 8) Try.func171 #[.int .i64 a0] (cmp_isNaN_int64.calls a0 false _ A3.out) ?_; rintro e w' ⟨rfl, ⟨nd, rfl⟩⟩; refine ⟨_, rfl, ?_⟩) | ((with_reducible refine gate_callee (f := 171) rfl ?_); refine sC (some 10) Try.func171 #[.int .i64 a1] (cmp_isNaN_int64.calls a1 false _ A4.out) ?_; rintro e w' ⟨rfl, ⟨nd, rfl⟩⟩; refine ⟨_, rfl, ?_⟩))
 go_ret
 exact ⟨by first | rfl | (simp; done) | (simp [*]; done), by repeat (first | exact Drawn0.refl _ | apply Drawn0.step)⟩

/-! ### impl_Heap_find_1: function 149 -/
def impl_Heap_find_1.f (a0_0 : Int) (a0_1 : Int) (a0_2 : ByteArray) (a0_3 : Int) (l0_4 : List (S29)) (l0_5 : List (S29)) (a0_6 : Int) (a0_7 : Int) (a0_8 : ByteArray) (a0_9 : Int) (a1 : Int) : Option (Int) := (cmp_Compare_int64.f a0_0 a1).bind fun t332 => (some t332)
set_option maxHeartbeats 8000000 in
set_option maxRecDepth 100000 in
theorem impl_Heap_find_1.calls (a0_0 : Int) (a0_1 : Int) (a0_2 : ByteArray) (a0_3 : Int) (A0_4 : Option Addr) (c0_4 : Nat) (l0_4 : List (S29)) (A0_5 : Option Addr) (c0_5 : Nat) (l0_5 : List (S29)) (a0_6 : Int) (a0_7 : Int) (a0_8 : ByteArray) (a0_9 : Int) (a1 : Int) (r : Int) (w : World) (hr0_4 : Kd.C k29 w A0_4 l0_4.length l0_4) (hc0_4 : l0_4.length ≤ c0_4) (hr0_5 : Kd.C k29 w A0_5 l0_5.length l0_5) (hc0_5 : l0_5.length ≤ c0_5) (h : impl_Heap_find_1.f a0_0 a0_1 a0_2 a0_3 l0_4 l0_5 a0_6 a0_7 a0_8 a0_9 a1 = some r) :
  Calls Try.prog 149 #[.agg #[.int .i64 a0_0, .int .i64 a0_1, .string a0_2, .int .i64 a0_3, .slice A0_4 l0_4.length c0_4, .slice A0_5 l0_5.length c0_5, .int .i64 a0_6, .int .i64 a0_7, .string a0_8, .int .i64 a0_9], .int .i64 a1] w fun e w' => e = .returned (.int .i64 r) ∧ Below w.heap.size w w' := by
 have hu56 := Try.underlying56
 have HR0_4 := Aside0.mk hr0_4
 have HC0_4 := Aside0.mk hc0_4
 clear hr0_4 hc0_4
 have HR0_5 := Aside0.mk hr0_5
 have HC0_5 := Aside0.mk hc0_5
 clear hr0_5 hc0_5
 have HB := Aside0.mk (Below.refl w.heap.size w)
 have H : ((cmp_Compare_int64.f a0_0 a1).bind fun t332 => (some t332)) = some r := h
 clear h
 obtain ⟨t332, A3, H⟩ := sO H
 obtain rfl := Option.some.inj H
 go_enter Try.func149, Try.ntmps149
 go_wp2_with (first | ((with_reducible refine gate_dst (N := 2) rfl ?_); refine sV (N := 2) (cs := #[.int .i64 a0_0, .int .i64 a0_1, .string a0_2, .int .i64 a0_3, .slice A0_4 l0_4.length c0_4, .slice A0_5 l0_5.length c0_5, .int .i64 a0_6, .int .i64 a0_7, .string a0_8, .int .i64 a0_9]) (t := 56) ?_; intro gb331 hg w4 hbox hb; have n0_ := sB HB hb; have n1_ := Aside0.mk (hbox); have n2_ := sG HB hg; have n3_ := sG HB hg; clear HB; have HB := n0_; have BK331 := n1_; have GW331 := n2_; have GE331 := n3_; clear n0_ n1_ n2_ n3_; clear hb hbox hg; obtain ⟨hcz5_0, hcz5_1, hcz5_2, hcz5_3, hcz5_4, hcz5_5, hcz5_6, hcz5_7, hcz5_8, hcz5_9, hfz5_0, hfz5_1, hfz5_2, hfz5_3, hfz5_4, hfz5_5, hfz5_6, hfz5_7, hfz5_8, hfz5_9⟩ := cells10 BK331.out) | ((with_reducible refine gate_callee (f := 150) rfl ?_); refine sC (some 8) Try.func150 #[.int .i64 a0_0, .int .i64 a1] (cmp_Compare_int64.calls a0_0 a1 t332 _ A3.out) ?_; rintro e w' ⟨rfl, ⟨nd, rfl⟩⟩; refine ⟨_, rfl, ?_⟩))
 go_ret
 exact ⟨sq, sb⟩

/-! ### impl_Object_int64__impl_Heap_find_1: function 148 -/
def impl_Object_int64__impl_Heap_find_1.l0 : Nat → List (S56) → Int → Int → Int → Int → Option (Int × Bool)
 | 0, _, _, _, _, _ => none
 | k + 1, x0, x1, x8, x9, x10 => if x9 < x10 then (if 0 ≤ (wrap64 ((IntKind.u64.wrap (wrap64 (x9 + x10))) / 2)) then (if (wrap64 ((IntKind.u64.wrap (wrap64 (x9 + x10))) / 2)) < (x0.length : Int) then ((impl_Heap_find_1.f ((rd_T56 x0 (wrap64 ((IntKind.u64.wrap (wrap64 (x9 + x10))) / 2))).f0) ((rd_T56 x0 (wrap64 ((IntKind.u64.wrap (wrap64 (x9 + x10))) / 2))).f1) ((rd_T56 x0 (wrap64 ((IntKind.u64.wrap (wrap64 (x9 + x10))) / 2))).f2) ((rd_T56 x0 (wrap64 ((IntKind.u64.wrap (wrap64 (x9 + x10))) / 2))).f3) ((rd_T56 x0 (wrap64 ((IntKind.u64.wrap (wrap64 (x9 + x10))) / 2))).f4) ((rd_T56 x0 (wrap64 ((IntKind.u64.wrap (wrap64 (x9 + x10))) / 2))).f5) ((rd_T56 x0 (wrap64 ((IntKind.u64.wrap (wrap64 (x9 + x10))) / 2))).f6.f0) ((rd_T56 x0 (wrap64 ((IntKind.u64.wrap (wrap64 (x9 + x10))) / 2))).f6.f1) ((rd_T56 x0 (wrap64 ((IntKind.u64.wrap (wrap64 (x9 + x10))) / 2))).f6.f2) ((rd_T56 x0 (wrap64 ((IntKind.u64.wrap (wrap64 (x9 + x10))) / 2))).f6.f3) x1).bind fun t334 => (if t334 < 0 then (impl_Object_int64__impl_Heap_find_1.l0 k x0 x1 x8 (wrap64 ((wrap64 ((IntKind.u64.wrap (wrap64 (x9 + x10))) / 2)) + 1)) x10) else (impl_Object_int64__impl_Heap_find_1.l0 k x0 x1 x8 x9 (wrap64 ((IntKind.u64.wrap (wrap64 (x9 + x10))) / 2))))) else (none)) else (none)) else (if x9 < x8 then (if 0 ≤ x9 then (if x9 < (x0.length : Int) then ((impl_Heap_find_1.f ((rd_T56 x0 x9).f0) ((rd_T56 x0 x9).f1) ((rd_T56 x0 x9).f2) ((rd_T56 x0 x9).f3) ((rd_T56 x0 x9).f4) ((rd_T56 x0 x9).f5) ((rd_T56 x0 x9).f6.f0) ((rd_T56 x0 x9).f6.f1) ((rd_T56 x0 x9).f6.f2) ((rd_T56 x0 x9).f6.f3) x1).bind fun t336 => (some (x9, (t336 == 0)))) else (none)) else (none)) else (some (x9, false)))
def impl_Object_int64__impl_Heap_find_1.f (k : Nat) (l0 : List (S56)) (a1 : Int)  : Option (Int × Bool) := impl_Object_int64__impl_Heap_find_1.l0 k l0 a1 (l0.length : Int) 0 (l0.length : Int)
set_option maxHeartbeats 8000000 in
set_option maxRecDepth 100000 in
theorem impl_Object_int64__impl_Heap_find_1.calls (k : Nat) (A0 : Option Addr) (c0 : Nat) (l0 : List (S56)) (a1 : Int)  (r1 : Int) (r2 : Bool) (w : World) (hr0 : Kd.C k56 w A0 l0.length l0) (hc0 : l0.length ≤ c0) (h : impl_Object_int64__impl_Heap_find_1.f k l0 a1 = some (r1, r2)) :
  Calls Try.prog 148 #[.slice A0 l0.length c0, .int .i64 a1, .func (.func 149) #[] #[]] w fun e w' => e = .returned (.tuple #[.int .i64 r1, .bool r2]) ∧ Below w.heap.size w w' := by
 have hu56 := Try.underlying56
 have HR0 := Aside0.mk hr0
 have HC0 := Aside0.mk hc0
 clear hr0 hc0
 have HB := Aside0.mk (Below.refl w.heap.size w)
 have H : (impl_Object_int64__impl_Heap_find_1.l0 k l0 a1 (l0.length : Int) 0 (l0.length : Int)) = some (r1, r2) := h
 clear h
 have H' := Aside0.mk H
 clear H
 go_enter Try.func148, Try.ntmps148
 go_wp2
 go_loopg [9, 10] k (fun kq v9 v10 w' => ∃ (x9_1 : Int) (x10_1 : Int), v9 = .int .i64 x9_1 ∧ v10 = .int .i64 x10_1 ∧ Aside0 (impl_Object_int64__impl_Heap_find_1.l0 kq l0 a1 (l0.length : Int) x9_1 x10_1 = some (r1, r2)) ∧ Aside0 (kq ≤ k) ∧ Aside0 (Below w.heap.size w w'))
 case atStart => exact ⟨(0), ((l0.length : Int)), sr, sr, H', ⟨Nat.le_refl _⟩, ⟨sb⟩⟩
 case round =>
  clear H'
  try clear p2
  obtain ⟨x9_1, x10_1, rfl, rfl, HA, HK1, HB⟩ := hrel
  cases gk with
  | zero => exact absurd HA.out (by simp [impl_Object_int64__impl_Heap_find_1.l0])
  | succ k1 =>
   have H := HA.out
   clear HA
   simp only [impl_Object_int64__impl_Heap_find_1.l0] at H
   by_cases c4 : x9_1 < x10_1
   ·rw [if_pos c4] at H
    have c4b0 := decide_eq_true c4
    clear c4
    obtain ⟨ji5, hji5⟩ : ∃ j_ : Int, (wrap64 ((IntKind.u64.wrap (wrap64 (x9_1 + x10_1))) / 2)) = j_ := ⟨_, rfl⟩
    replace H : (if 0 ≤ (ji5) then (if (ji5) < (l0.length : Int) then ((impl_Heap_find_1.f ((rd_T56 l0 (ji5)).f0) ((rd_T56 l0 (ji5)).f1) ((rd_T56 l0 (ji5)).f2) ((rd_T56 l0 (ji5)).f3) ((rd_T56 l0 (ji5)).f4) ((rd_T56 l0 (ji5)).f5) ((rd_T56 l0 (ji5)).f6.f0) ((rd_T56 l0 (ji5)).f6.f1) ((rd_T56 l0 (ji5)).f6.f2) ((rd_T56 l0 (ji5)).f6.f3) a1).bind fun t334 => (if t334 < 0 then (impl_Object_int64__impl_Heap_find_1.l0 k1 l0 a1 (l0.length : Int) (wrap64 ((ji5) + 1)) x10_1) else (impl_Object_int64__impl_Heap_find_1.l0 k1 l0 a1 (l0.length : Int) x9_1 ji5))) else (none)) else (none)) = some (r1, r2) := by first | (rw [hji5] at H; exact H) | (simp only [hji5] at H ⊢; exact H)
    have hji5w : (IntKind.i64.wrap ((IntKind.u64.wrap (wrap64 (x9_1 + x10_1))) / 2)) = ji5 := (i64_w _).trans hji5
    by_cases c6 : 0 ≤ (ji5)
    ·rw [if_pos c6] at H
     have c6b0 := decide_eq_true c6
     clear c6
     by_cases c7 : (ji5) < (l0.length : Int)
     ·rw [if_pos c7] at H
      have c7b0 := decide_eq_true c7
      clear c7
      obtain ⟨t334, A8, H⟩ := sO H
      by_cases c9 : t334 < 0
      ·rw [if_pos c9] at H
       have c9b0 := decide_eq_true c9
       clear c9
       have H' := Aside0.mk H
       clear H
       have p333 : 0 ≤ ((ji5) : Int) := of_decide_eq_true (by first | (with_reducible assumption) | assumption)
       have q333 : (ji5) < (l0.length : Int) := of_decide_eq_true (by first | (with_reducible assumption) | assumption)
       obtain ⟨ad333, A333_4, c333_4, A333_5, c333_5, e333, hx333_0, hx333_1, hx333_2, hx333_3, hx333_4, hx333_5, hx333_6, hx333_7, hx333_8, hx333_9, hl333_4, hi333_4, hl333_5, hi333_5⟩ := at_T56 HR0.out (ji5) p333 q333
       cases e333
       replace hx333_0 := sX HB hx333_0
       replace hx333_1 := sX HB hx333_1
       replace hx333_2 := sX HB hx333_2
       replace hx333_3 := sX HB hx333_3
       replace hx333_4 := sX HB hx333_4
       replace hx333_5 := sX HB hx333_5
       replace hx333_6 := sX HB hx333_6
       replace hx333_7 := sX HB hx333_7
       replace hx333_8 := sX HB hx333_8
       replace hx333_9 := sX HB hx333_9
       have HR333_4 := Aside0.mk hi333_4
       have HC333_4 := Aside0.mk hl333_4
       clear hi333_4 hl333_4
       have HR333_5 := Aside0.mk hi333_5
       have HC333_5 := Aside0.mk hl333_5
       clear hi333_5 hl333_5
       replace p333 := eq_true p333
       replace q333 := eq_true q333
       go_wp2_with (first | (go_at_call 149; (with_reducible refine (impl_Heap_find_1.calls ((rd_T56 l0 (ji5)).f0) ((rd_T56 l0 (ji5)).f1) ((rd_T56 l0 (ji5)).f2) ((rd_T56 l0 (ji5)).f3) _ _ ((rd_T56 l0 (ji5)).f4) _ _ ((rd_T56 l0 (ji5)).f5) ((rd_T56 l0 (ji5)).f6.f0) ((rd_T56 l0 (ji5)).f6.f1) ((rd_T56 l0 (ji5)).f6.f2) ((rd_T56 l0 (ji5)).f6.f3) a1 t334 _ ?side1 ?side2 ?side3 ?side4 A8.out).mono ?_); (case side1 => exact sD (Kd.C_below HR333_4.out HB.out)); (case side2 => exact HC333_4.out); (case side3 => exact sD (Kd.C_below HR333_5.out HB.out)); (case side4 => exact HC333_5.out); rintro e w10 ⟨rfl, hb⟩; have n0_ := sB HB hb; clear HB; have HB := n0_; clear n0_; (try clear hb); (try clear hb2); (try clear hk); (try clear hi)))
       go_roundg k1
       case measure => have := HK1.out; omega
       case rel => exact ⟨(wrap64 ((ji5) + 1)), (x10_1), (by first | rfl | (simp; done) | (simp only [← hji5] <;> (first | rfl | simp)) | (simp [*]; done)), sr, H', ⟨by have := HK1.out; omega⟩, ⟨sb⟩⟩
      rw [if_neg c9] at H
      have c9b0 := decide_eq_false c9
      clear c9
      have H' := Aside0.mk H
      clear H
      have p333 : 0 ≤ ((ji5) : Int) := of_decide_eq_true (by first | (with_reducible assumption) | assumption)
      have q333 : (ji5) < (l0.length : Int) := of_decide_eq_true (by first | (with_reducible assumption) | assumption)
      obtain ⟨ad333, A333_4, c333_4, A333_5, c333_5, e333, hx333_0, hx333_1, hx333_2, hx333_3, hx333_4, hx333_5, hx333_6, hx333_7, hx333_8, hx333_9, hl333_4, hi333_4, hl333_5, hi333_5⟩ := at_T56 HR0.out (ji5) p333 q333
      cases e333
      replace hx333_0 := sX HB hx333_0
      replace hx333_1 := sX HB hx333_1
      replace hx333_2 := sX HB hx333_2
      replace hx333_3 := sX HB hx333_3
      replace hx333_4 := sX HB hx333_4
      replace hx333_5 := sX HB hx333_5
      replace hx333_6 := sX HB hx333_6
      replace hx333_7 := sX HB hx333_7
      replace hx333_8 := sX HB hx333_8
      replace hx333_9 := sX HB hx333_9
      have HR333_4 := Aside0.mk hi333_4
      have HC333_4 := Aside0.mk hl333_4
      clear hi333_4 hl333_4
      have HR333_5 := Aside0.mk hi333_5
      have HC333_5 := Aside0.mk hl333_5
      clear hi333_5 hl333_5
      replace p333 := eq_true p333
      replace q333 := eq_true q333
      go_wp2_with (first | (go_at_call 149; (with_reducible refine (impl_Heap_find_1.calls ((rd_T56 l0 (ji5)).f0) ((rd_T56 l0 (ji5)).f1) ((rd_T56 l0 (ji5)).f2) ((rd_T56 l0 (ji5)).f3) _ _ ((rd_T56 l0 (ji5)).f4) _ _ ((rd_T56 l0 (ji5)).f5) ((rd_T56 l0 (ji5)).f6.f0) ((rd_T56 l0 (ji5)).f6.f1) ((rd_T56 l0 (ji5)).f6.f2) ((rd_T56 l0 (ji5)).f6.f3) a1 t334 _ ?side1 ?side2 ?side3 ?side4 A8.out).mono ?_); (case side1 => exact sD (Kd.C_below HR333_4.out HB.out)); (case side2 => exact HC333_4.out); (case side3 => exact sD (Kd.C_below HR333_5.out HB.out)); (case side4 => exact HC333_5.out); rintro e w11 ⟨rfl, hb⟩; have n0_ := sB HB hb; clear HB; have HB := n0_; clear n0_; (try clear hb); (try clear hb2); (try clear hk); (try clear hi)))
      go_roundg k1
      case measure => have := HK1.out; omega
      case rel => exact ⟨(x9_1), (ji5), sr, (by first | rfl | (simp; done) | (simp only [← hji5] <;> (first | rfl | simp)) | (simp [*]; done)), H', ⟨by have := HK1.out; omega⟩, ⟨sb⟩⟩
     rw [if_neg c7] at H
     exact absurd H (by simp)
    rw [if_neg c6] at H
    exact absurd H (by simp)
   rw [if_neg c4] at H
   have c4b0 := decide_eq_false c4
   clear c4
   by_cases c12 : x9_1 < (l0.length : Int)
   ·rw [if_pos c12] at H
    have c12b0 := decide_eq_true c12
    clear c12
    by_cases c13 : 0 ≤ x9_1
    ·rw [if_pos c13] at H
     have c13b0 := decide_eq_true c13
     clear c13
     by_cases c14 : x9_1 < (l0.length : Int)
     ·rw [if_pos c14] at H
      have c14b0 := decide_eq_true c14
      clear c14
      obtain ⟨t336, A15, H⟩ := sO H
      simp only [Option.some.injEq, Prod.mk.injEq] at H
      obtain ⟨rfl, rfl⟩ := H
      have p335 : 0 ≤ (x9_1 : Int) := of_decide_eq_true (by first | (with_reducible assumption) | assumption)
      have q335 : x9_1 < (l0.length : Int) := of_decide_eq_true (by first | (with_reducible assumption) | assumption)
      obtain ⟨ad335, A335_4, c335_4, A335_5, c335_5, e335, hx335_0, hx335_1, hx335_2, hx335_3, hx335_4, hx335_5, hx335_6, hx335_7, hx335_8, hx335_9, hl335_4, hi335_4, hl335_5, hi335_5⟩ := at_T56 HR0.out x9_1 p335 q335
      cases e335
      replace hx335_0 := sX HB hx335_0
      replace hx335_1 := sX HB hx335_1
      replace hx335_2 := sX HB hx335_2
      replace hx335_3 := sX HB hx335_3
      replace hx335_4 := sX HB hx335_4
      replace hx335_5 := sX HB hx335_5
      replace hx335_6 := sX HB hx335_6
      replace hx335_7 := sX HB hx335_7
      replace hx335_8 := sX HB hx335_8
      replace hx335_9 := sX HB hx335_9
      have HR335_4 := Aside0.mk hi335_4
      have HC335_4 := Aside0.mk hl335_4
      clear hi335_4 hl335_4
      have HR335_5 := Aside0.mk hi335_5
      have HC335_5 := Aside0.mk hl335_5
      clear hi335_5 hl335_5
      replace p335 := eq_true p335
      replace q335 := eq_true q335
      go_wp2_with (first | (go_at_call 149; (with_reducible refine (impl_Heap_find_1.calls ((rd_T56 l0 x9_1).f0) ((rd_T56 l0 x9_1).f1) ((rd_T56 l0 x9_1).f2) ((rd_T56 l0 x9_1).f3) _ _ ((rd_T56 l0 x9_1).f4) _ _ ((rd_T56 l0 x9_1).f5) ((rd_T56 l0 x9_1).f6.f0) ((rd_T56 l0 x9_1).f6.f1) ((rd_T56 l0 x9_1).f6.f2) ((rd_T56 l0 x9_1).f6.f3) a1 t336 _ ?side1 ?side2 ?side3 ?side4 A15.out).mono ?_); (case side1 => exact sD (Kd.C_below HR335_4.out HB.out)); (case side2 => exact HC335_4.out); (case side3 => exact sD (Kd.C_below HR335_5.out HB.out)); (case side4 => exact HC335_5.out); rintro e w16 ⟨rfl, hb⟩; have n0_ := sB HB hb; clear HB; have HB := n0_; clear n0_; (try clear hb); (try clear hb2); (try clear hk); (try clear hi)))
      go_ret2
      exact ⟨sq, sb⟩
     rw [if_neg c14] at H
     exact absurd H (by simp)
    rw [if_neg c13] at H
    exact absurd H (by simp)
   rw [if_neg c12] at H
   have c12b0 := decide_eq_false c12
   clear c12
   simp only [Option.some.injEq, Prod.mk.injEq] at H
   obtain ⟨rfl, rfl⟩ := H
   go_wp2
   go_ret2
   exact ⟨sq, sb⟩

/-! ### impl_Heap_find: function 113 -/
def impl_Heap_find.f (k : Nat) (a0_0 : Int) (l0_1 : List (S56)) (a1 : Int) : Option (Int) := (impl_Object_int64__impl_Heap_find_1.f k l0_1 a1).bind fun bt338 => (if bt338.2 = true then (some bt338.1) else (some (-1)))
set_option maxHeartbeats 8000000 in
set_option maxRecDepth 100000 in
theorem impl_Heap_find.calls (k : Nat) (a0_0 : Int) (A0_1 : Option Addr) (c0_1 : Nat) (l0_1 : List (S56)) (a1 : Int) (r : Int) (w : World) (hr0_1 : Kd.C k56 w A0_1 l0_1.length l0_1) (hc0_1 : l0_1.length ≤ c0_1) (h : impl_Heap_find.f k a0_0 l0_1 a1 = some r) :
  Calls Try.prog 113 #[.agg #[.int .i64 a0_0, .slice A0_1 l0_1.length c0_1], .int .i64 a1] w fun e w' => e = .returned (.int .i64 r) ∧ Below w.heap.size w w' := by
 have hu34 := Try.underlying34
 have HR0_1 := Aside0.mk hr0_1
 have HC0_1 := Aside0.mk hc0_1
 clear hr0_1 hc0_1
 have HB := Aside0.mk (Below.refl w.heap.size w)
 have H : ((impl_Object_int64__impl_Heap_find_1.f k l0_1 a1).bind fun bt338 => (if bt338.2 = true then (some bt338.1) else (some (-1)))) = some r := h
 clear h
 replace H := Option.bind_eq_some_iff.mp H
 obtain ⟨⟨t338, t339⟩, A30, H⟩ := H
 replace H : (if t339 = true then (some t338) else (some (-1))) = some r := H
 have A3 := Aside0.mk A30
 clear A30
 by_cases c4 : t339 = true
 ·subst c4
  rewrite [if_pos rfl] at H
  obtain rfl := Option.some.inj H
  go_enter Try.func113, Try.ntmps113
  go_wp2_with (first | ((with_reducible refine gate_dst (N := 2) rfl ?_); refine sV (N := 2) (cs := #[.int .i64 a0_0, .slice A0_1 l0_1.length c0_1]) (t := 34) ?_; intro gb337 hg w5 hbox hb; have n0_ := sB HB hb; have n1_ := Aside0.mk (hbox); have n2_ := sG HB hg; have n3_ := sG HB hg; clear HB; have HB := n0_; have BK337 := n1_; have GW337 := n2_; have GE337 := n3_; clear n0_ n1_ n2_ n3_; clear hb hbox hg; obtain ⟨hcz6_0, hcz6_1, hfz6_0, hfz6_1⟩ := cells2 BK337.out) | ((with_reducible refine gate_callee (f := 148) rfl ?_); refine sC (some 11) Try.func148 #[.slice A0_1 l0_1.length c0_1, .int .i64 a1, .func (.func 149) #[] #[]] (impl_Object_int64__impl_Heap_find_1.calls k _ _ l0_1 a1  t338 true _ ?side1 ?side2 A3.out) ?_; (case side1 => exact sD (Kd.C_below HR0_1.out HB.out)); (case side2 => exact HC0_1.out); rintro e w7 ⟨rfl, hb⟩; refine ⟨_, rfl, ?_⟩; have n0_ := sK BK337 hb; have n1_ := sB HB hb; clear BK337; clear HB; have BK337 := n0_; have HB := n1_; clear n0_ n1_; (try clear hb); (try clear hb2); (try clear hk); (try clear hi)))
  go_ret
  exact ⟨sq, sb⟩
 replace c4 := Bool.eq_false_iff.mpr c4
 subst c4
 rewrite [if_neg (show ¬ (false = true) by decide)] at H
 obtain rfl := Option.some.inj H
 go_enter Try.func113, Try.ntmps113
 go_wp2_with (first | ((with_reducible refine gate_dst (N := 2) rfl ?_); refine sV (N := 2) (cs := #[.int .i64 a0_0, .slice A0_1 l0_1.length c0_1]) (t := 34) ?_; intro gb337 hg w8 hbox hb; have n0_ := sB HB hb; have n1_ := Aside0.mk (hbox); have n2_ := sG HB hg; have n3_ := sG HB hg; clear HB; have HB := n0_; have BK337 := n1_; have GW337 := n2_; have GE337 := n3_; clear n0_ n1_ n2_ n3_; clear hb hbox hg; obtain ⟨hcz9_0, hcz9_1, hfz9_0, hfz9_1⟩ := cells2 BK337.out) | ((with_reducible refine gate_callee (f := 148) rfl ?_); refine sC (some 11) Try.func148 #[.slice A0_1 l0_1.length c0_1, .int .i64 a1, .func (.func 149) #[] #[]] (impl_Object_int64__impl_Heap_find_1.calls k _ _ l0_1 a1  t338 false _ ?side1 ?side2 A3.out) ?_; (case side1 => exact sD (Kd.C_below HR0_1.out HB.out)); (case side2 => exact HC0_1.out); rintro e w10 ⟨rfl, hb⟩; refine ⟨_, rfl, ?_⟩; have n0_ := sK BK337 hb; have n1_ := sB HB hb; clear BK337; clear HB; have BK337 := n0_; have HB := n1_; clear n0_ n1_; (try clear hb); (try clear hb2); (try clear hk); (try clear hi)))
 go_ret
 exact ⟨sq, sb⟩
end Go.Proofs.Ytnjkhdhaiicefaa.PFnExactGetField
