/- Printed functions: impl_Object__impl_ValidObject, impl_ValidHeap, impl_ValidRoots, impl_fitAll. -/
import Derived.Test.YtnjkhdhaiicefaaYGfP0
import Derived.Test.YtnjkhdhaiicefaaYGfPE
import Derived.Test.YtnjkhdhaiicefaaYGfP13
import Derived.Test.YtnjkhdhaiicefaaYGfP19
import Derived.Test.YtnjkhdhaiicefaaYGfP23
import Derived.Test.YtnjkhdhaiicefaaYGfP24
import Derived.Test.YtnjkhdhaiicefaaYGfP25
namespace Go.Proofs.Ytnjkhdhaiicefaa.PFnExactGetField
open Go.RowKit Go.Proofs.YtnjkhdhaiicefaaG Go.Proofs.YtnjkhdhaiicefaaW.PrintWords Go.Proofs.YtnjkhdhaiicefaaW.PrintLast Go.Proofs.YtnjkhdhaiicefaaW.PrintMore
attribute [local go_sem] max2_int min2_int max_two min_two max_three min_three max_four min_four   -- for this text's walks alone
set_option linter.unusedVariables false
set_option linter.unusedSimpArgs false
section
attribute [local go_sem high] eqA29
/-! ### impl_Object__impl_ValidObject: function 151 -/
def impl_Object__impl_ValidObject.l0 : Nat → List (S56) → Int → Int → Option (Bool)
 | 0, _, _, _ => none
 | k + 1, x7, x8, x9 => if x9 < x8 then (if 0 ≤ x9 then (if x9 < (x7.length : Int) then ((impl_ValidObject.f k ((rd_T56 x7 x9).f0) ((rd_T56 x7 x9).f1) ((rd_T56 x7 x9).f2) ((rd_T56 x7 x9).f3) ((rd_T56 x7 x9).f4) ((rd_T56 x7 x9).f5) ((rd_T56 x7 x9).f6.f0) ((rd_T56 x7 x9).f6.f1) ((rd_T56 x7 x9).f6.f2) ((rd_T56 x7 x9).f6.f3)).bind fun t303 => (if t303 = true then (impl_Object__impl_ValidObject.l0 k x7 x8 (wrap64 (x9 + 1))) else (some false))) else (none)) else (none)) else (some true)
def impl_Object__impl_ValidObject.f (k : Nat) (l0 : List (S56))  : Option (Bool) := impl_Object__impl_ValidObject.l0 k l0 (l0.length : Int) 0
set_option maxHeartbeats 8000000 in
set_option maxRecDepth 100000 in
theorem impl_Object__impl_ValidObject.calls (k : Nat) (A0 : Option Addr) (c0 : Nat) (l0 : List (S56))  (r : Bool) (w : World) (hr0 : Kd.C k56 w A0 l0.length l0) (hc0 : l0.length ≤ c0) (h : impl_Object__impl_ValidObject.f k l0 = some r) :
  Calls Try.prog 151 #[.slice A0 l0.length c0, .func (.func 84) #[] #[]] w fun e w' => e = .returned (.bool r) ∧ Below w.heap.size w w' := by
 have hu56 := Try.underlying56
 have HR0 := Aside0.mk hr0
 have HC0 := Aside0.mk hc0
 clear hr0 hc0
 have HB := Aside0.mk (Below.refl w.heap.size w)
 have H : (impl_Object__impl_ValidObject.l0 k l0 (l0.length : Int) 0) = some r := h
 clear h
 have H' := Aside0.mk H
 clear H
 go_enter Try.func151, Try.ntmps151
 go_wp2
 go_loopg [9] k (fun kq v9 w' => ∃ (x9_1 : Int), v9 = .int .i64 x9_1 ∧ Aside0 (impl_Object__impl_ValidObject.l0 kq l0 (l0.length : Int) x9_1 = some r) ∧ Aside0 (kq ≤ k) ∧ Aside0 (Below w.heap.size w w'))
 case atStart => exact ⟨(0), sr, H', ⟨Nat.le_refl _⟩, ⟨sb⟩⟩
 case round =>
  clear H'
  try clear p2
  obtain ⟨x9_1, rfl, HA, HK1, HB⟩ := hrel
  cases gk with
  | zero => exact absurd HA.out (by simp [impl_Object__impl_ValidObject.l0])
  | succ k1 =>
   have H := HA.out
   clear HA
   simp only [impl_Object__impl_ValidObject.l0] at H
   by_cases c3 : x9_1 < (l0.length : Int)
   ·rw [if_pos c3] at H
    have c3b0 := decide_eq_true c3
    clear c3
    by_cases c4 : 0 ≤ x9_1
    ·rw [if_pos c4] at H
     have c4b0 := decide_eq_true c4
     clear c4
     by_cases c5 : x9_1 < (l0.length : Int)
     ·rw [if_pos c5] at H
      have c5b0 := decide_eq_true c5
      clear c5
      obtain ⟨t303, A6, H⟩ := sO H
      by_cases c7 : t303 = true
      ·subst c7
       rewrite [if_pos rfl] at H
       have H' := Aside0.mk H
       clear H
       have p301 : 0 ≤ (x9_1 : Int) := of_decide_eq_true (by first | (with_reducible assumption) | assumption)
       have q301 : x9_1 < (l0.length : Int) := of_decide_eq_true (by first | (with_reducible assumption) | assumption)
       obtain ⟨ad301, A301_4, c301_4, A301_5, c301_5, e301, hx301_0, hx301_1, hx301_2, hx301_3, hx301_4, hx301_5, hx301_6, hx301_7, hx301_8, hx301_9, hl301_4, hi301_4, hl301_5, hi301_5⟩ := at_T56 HR0.out x9_1 p301 q301
       cases e301
       replace hx301_0 := sX HB hx301_0
       replace hx301_1 := sX HB hx301_1
       replace hx301_2 := sX HB hx301_2
       replace hx301_3 := sX HB hx301_3
       replace hx301_4 := sX HB hx301_4
       replace hx301_5 := sX HB hx301_5
       replace hx301_6 := sX HB hx301_6
       replace hx301_7 := sX HB hx301_7
       replace hx301_8 := sX HB hx301_8
       replace hx301_9 := sX HB hx301_9
       have HR301_4 := Aside0.mk hi301_4
       have HC301_4 := Aside0.mk hl301_4
       clear hi301_4 hl301_4
       have HR301_5 := Aside0.mk hi301_5
       have HC301_5 := Aside0.mk hl301_5
       clear hi301_5 hl301_5
       replace p301 := eq_true p301
       replace q301 := eq_true q301
       go_wp2_with (first | ((with_reducible refine gate_dst (N := 6) rfl ?_); refine sV (N := 6) (cs := #[.int .i64 0, .int .i64 0, .string (⟨#[]⟩ : ByteArray), .int .i64 0, .slice none 0 0, .slice none 0 0, .int .i64 0, .int .i64 0, .string (⟨#[]⟩ : ByteArray), .int .i64 0]) (t := 56) ?_; intro gb302 hg w8 hbox hb; have n0_ := sB HB hb; have n1_ := Aside0.mk (hbox); have n2_ := sG HB hg; have n3_ := sG HB hg; clear HB; have HB := n0_; have BK302 := n1_; have GW302 := n2_; have GE302 := n3_; clear n0_ n1_ n2_ n3_; clear hb hbox hg; obtain ⟨hcz9_0, hcz9_1, hcz9_2, hcz9_3, hcz9_4, hcz9_5, hcz9_6, hcz9_7, hcz9_8, hcz9_9, hfz9_0, hfz9_1, hfz9_2, hfz9_3, hfz9_4, hfz9_5, hfz9_6, hfz9_7, hfz9_8, hfz9_9⟩ := cells10 BK302.out) | (go_at_call 84; (with_reducible refine (impl_ValidObject.calls k1 ((rd_T56 l0 x9_1).f0) ((rd_T56 l0 x9_1).f1) ((rd_T56 l0 x9_1).f2) ((rd_T56 l0 x9_1).f3) _ _ ((rd_T56 l0 x9_1).f4) _ _ ((rd_T56 l0 x9_1).f5) ((rd_T56 l0 x9_1).f6.f0) ((rd_T56 l0 x9_1).f6.f1) ((rd_T56 l0 x9_1).f6.f2) ((rd_T56 l0 x9_1).f6.f3) true _ ?side1 ?side2 ?side3 ?side4 A6.out).mono ?_); (case side1 => exact Kd.C_below HR301_4.out (by repeat (first | (with_reducible first | exact HB.out | apply below_alloc | apply pw_below_drewN | apply below_drew1 | refine below_set ?_ GE302.out) | exact HB.out))); (case side2 => exact HC301_4.out); (case side3 => exact Kd.C_below HR301_5.out (by repeat (first | (with_reducible first | exact HB.out | apply below_alloc | apply pw_below_drewN | apply below_drew1 | refine below_set ?_ GE302.out) | exact HB.out))); (case side4 => exact HC301_5.out); rintro e w10 ⟨rfl, hb⟩; have n0_ := Aside0.mk (blk_below (g := gb302) (o := .cells #[.int .i64 ((rd_T56 l0 x9_1).f0), .int .i64 ((rd_T56 l0 x9_1).f1), .string ((rd_T56 l0 x9_1).f2), .int .i64 ((rd_T56 l0 x9_1).f3), .slice A301_4 ((rd_T56 l0 x9_1).f4).length c301_4, .slice A301_5 ((rd_T56 l0 x9_1).f5).length c301_5, .int .i64 ((rd_T56 l0 x9_1).f6.f0), .int .i64 ((rd_T56 l0 x9_1).f6.f1), .string ((rd_T56 l0 x9_1).f6.f2), .int .i64 ((rd_T56 l0 x9_1).f6.f3)] 56 (0, 0)) (by exact sP10 (sT BK302.out)) hb); have n1_ := sB HB hb; clear BK302; clear HB; have BK302 := n0_; have HB := n1_; clear n0_ n1_; (try clear hb); (try clear hb2); (try clear hk); (try clear hi)))
       go_roundg k1
       case measure => have := HK1.out; omega
       case rel => exact ⟨(wrap64 (x9_1 + 1)), sr, H', ⟨by have := HK1.out; omega⟩, ⟨sb⟩⟩
      replace c7 := Bool.eq_false_iff.mpr c7
      subst c7
      rewrite [if_neg (show ¬ (false = true) by decide)] at H
      obtain rfl := Option.some.inj H
      have p301 : 0 ≤ (x9_1 : Int) := of_decide_eq_true (by first | (with_reducible assumption) | assumption)
      have q301 : x9_1 < (l0.length : Int) := of_decide_eq_true (by first | (with_reducible assumption) | assumption)
      obtain ⟨ad301, A301_4, c301_4, A301_5, c301_5, e301, hx301_0, hx301_1, hx301_2, hx301_3, hx301_4, hx301_5, hx301_6, hx301_7, hx301_8, hx301_9, hl301_4, hi301_4, hl301_5, hi301_5⟩ := at_T56 HR0.out x9_1 p301 q301
      cases e301
      replace hx301_0 := sX HB hx301_0
      replace hx301_1 := sX HB hx301_1
      replace hx301_2 := sX HB hx301_2
      replace hx301_3 := sX HB hx301_3
      replace hx301_4 := sX HB hx301_4
      replace hx301_5 := sX HB hx301_5
      replace hx301_6 := sX HB hx301_6
      replace hx301_7 := sX HB hx301_7
      replace hx301_8 := sX HB hx301_8
      replace hx301_9 := sX HB hx301_9
      have HR301_4 := Aside0.mk hi301_4
      have HC301_4 := Aside0.mk hl301_4
      clear hi301_4 hl301_4
      have HR301_5 := Aside0.mk hi301_5
      have HC301_5 := Aside0.mk hl301_5
      clear hi301_5 hl301_5
      replace p301 := eq_true p301
      replace q301 := eq_true q301
      go_wp2_with (first | ((with_reducible refine gate_dst (N := 6) rfl ?_); refine sV (N := 6) (cs := #[.int .i64 0, .int .i64 0, .string (⟨#[]⟩ : ByteArray), .int .i64 0, .slice none 0 0, .slice none 0 0, .int .i64 0, .int .i64 0, .string (⟨#[]⟩ : ByteArray), .int .i64 0]) (t := 56) ?_; intro gb302 hg w11 hbox hb; have n0_ := sB HB hb; have n1_ := Aside0.mk (hbox); have n2_ := sG HB hg; have n3_ := sG HB hg; clear HB; have HB := n0_; have BK302 := n1_; have GW302 := n2_; have GE302 := n3_; clear n0_ n1_ n2_ n3_; clear hb hbox hg; obtain ⟨hcz12_0, hcz12_1, hcz12_2, hcz12_3, hcz12_4, hcz12_5, hcz12_6, hcz12_7, hcz12_8, hcz12_9, hfz12_0, hfz12_1, hfz12_2, hfz12_3, hfz12_4, hfz12_5, hfz12_6, hfz12_7, hfz12_8, hfz12_9⟩ := cells10 BK302.out) | (go_at_call 84; (with_reducible refine (impl_ValidObject.calls k1 ((rd_T56 l0 x9_1).f0) ((rd_T56 l0 x9_1).f1) ((rd_T56 l0 x9_1).f2) ((rd_T56 l0 x9_1).f3) _ _ ((rd_T56 l0 x9_1).f4) _ _ ((rd_T56 l0 x9_1).f5) ((rd_T56 l0 x9_1).f6.f0) ((rd_T56 l0 x9_1).f6.f1) ((rd_T56 l0 x9_1).f6.f2) ((rd_T56 l0 x9_1).f6.f3) false _ ?side1 ?side2 ?side3 ?side4 A6.out).mono ?_); (case side1 => exact Kd.C_below HR301_4.out (by repeat (first | (with_reducible first | exact HB.out | apply below_alloc | apply pw_below_drewN | apply below_drew1 | refine below_set ?_ GE302.out) | exact HB.out))); (case side2 => exact HC301_4.out); (case side3 => exact Kd.C_below HR301_5.out (by repeat (first | (with_reducible first | exact HB.out | apply below_alloc | apply pw_below_drewN | apply below_drew1 | refine below_set ?_ GE302.out) | exact HB.out))); (case side4 => exact HC301_5.out); rintro e w13 ⟨rfl, hb⟩; have n0_ := Aside0.mk (blk_below (g := gb302) (o := .cells #[.int .i64 ((rd_T56 l0 x9_1).f0), .int .i64 ((rd_T56 l0 x9_1).f1), .string ((rd_T56 l0 x9_1).f2), .int .i64 ((rd_T56 l0 x9_1).f3), .slice A301_4 ((rd_T56 l0 x9_1).f4).length c301_4, .slice A301_5 ((rd_T56 l0 x9_1).f5).length c301_5, .int .i64 ((rd_T56 l0 x9_1).f6.f0), .int .i64 ((rd_T56 l0 x9_1).f6.f1), .string ((rd_T56 l0 x9_1).f6.f2), .int .i64 ((rd_T56 l0 x9_1).f6.f3)] 56 (0, 0)) (by exact sP10 (sT BK302.out)) hb); have n1_ := sB HB hb; clear BK302; clear HB; have BK302 := n0_; have HB := n1_; clear n0_ n1_; (try clear hb); (try clear hb2); (try clear hk); (try clear hi)))
      go_ret
      exact ⟨sq, sb⟩
     rw [if_neg c5] at H
     exact absurd H (by simp)
    rw [if_neg c4] at H
    exact absurd H (by simp)
   rw [if_neg c3] at H
   have c3b0 := decide_eq_false c3
   clear c3
   obtain rfl := Option.some.inj H
   go_wp2
   go_ret
   exact ⟨sq, sb⟩
end

/-! ### impl_ValidHeap: function 115 -/
mutual
def impl_ValidHeap.j0 : Nat → Bool → Int → List (S56) → Option (Bool)
 | 0, _, _, _ => none
 | k + 1, x21, x361000, x361001 => if x21 = true then (some false) else (impl_ValidHeap.l0 k 0 x361001 (x361001.length : Int) 0 x361000 x361001)
def impl_ValidHeap.l0 : Nat → Int → List (S56) → Int → Int → Int → List (S56) → Option (Bool)
 | 0, _, _, _, _, _, _ => none
 | k + 1, x3, x23, x24, x25, x361000, x361001 => if x25 < x24 then (if 0 ≤ x25 then (if x25 < (x23.length : Int) then (if ((rd_T56 x23 x25).f0) ≤ x3 then (some false) else (if ((rd_T56 x23 x25).f0) > x361000 then (some false) else (impl_ValidHeap.l0 k ((rd_T56 x23 x25).f0) x23 x24 (wrap64 (x25 + 1)) x361000 x361001))) else (none)) else (none)) else ((impl_Object__impl_ValidHeap_1.f k x361001 [(⟨x361000, x361001⟩ : S34)]).bind fun t365 => (some t365))
end
def impl_ValidHeap.f (k : Nat) (a0_0 : Int) (l0_1 : List (S56)) : Option (Bool) := (impl_within.f a0_0 0 1000000).bind fun t361 => (if t361 = true then (if (l0_1.length : Int) > 40 then (impl_ValidHeap.j0 k true a0_0 l0_1) else ((impl_Object__impl_ValidObject.f k l0_1).bind fun t362 => (impl_ValidHeap.j0 k (!t362) a0_0 l0_1))) else (impl_ValidHeap.j0 k true a0_0 l0_1))
set_option maxHeartbeats 8000000 in
set_option maxRecDepth 100000 in
theorem impl_ValidHeap.calls (k : Nat) (a0_0 : Int) (A0_1 : Option Addr) (c0_1 : Nat) (l0_1 : List (S56)) (r : Bool) (w : World) (hr0_1 : Kd.C k56 w A0_1 l0_1.length l0_1) (hc0_1 : l0_1.length ≤ c0_1) (h : impl_ValidHeap.f k a0_0 l0_1 = some r) :
  Calls Try.prog 115 #[.agg #[.int .i64 a0_0, .slice A0_1 l0_1.length c0_1]] w fun e w' => e = .returned (.bool r) ∧ Below w.heap.size w w' := by
 have hu34 := Try.underlying34
 have hu56 := Try.underlying56
 have HR0_1 := Aside0.mk hr0_1
 have HC0_1 := Aside0.mk hc0_1
 clear hr0_1 hc0_1
 have HB := Aside0.mk (Below.refl w.heap.size w)
 have H : ((impl_within.f a0_0 0 1000000).bind fun t361 => (if t361 = true then (if (l0_1.length : Int) > 40 then (impl_ValidHeap.j0 k true a0_0 l0_1) else ((impl_Object__impl_ValidObject.f k l0_1).bind fun t362 => (impl_ValidHeap.j0 k (!t362) a0_0 l0_1))) else (impl_ValidHeap.j0 k true a0_0 l0_1))) = some r := h
 clear h
 have HC2 := Aside0.mk H
 clear H
 go_enter Try.func115, Try.ntmps115
 go_upto_region 1 with (first | ((with_reducible refine gate_dst (N := 1) rfl ?_); (try (refine gate_guard (by rfl) ?_; dsimp only)); refine sV (N := 1) (cs := #[.int .i64 a0_0, .slice A0_1 l0_1.length c0_1]) (t := 34) ?_; intro gb360 hg w3 hbox hb; have n0_ := sB HB hb; have n1_ := Aside0.mk (hbox); have n2_ := sG HB hg; have n3_ := sG HB hg; clear HB; have HB := n0_; have BK360 := n1_; have GW360 := n2_; have GE360 := n3_; clear n0_ n1_ n2_ n3_; clear hb hbox hg))
 (try simp only [Act.put, List.setIfInBounds_toArray, List.set_cons_zero, List.set_cons_succ])
 go_cut [21] (fun v21 wc => ∃ (kq : Nat) (x21_1 : Bool), v21 = .bool x21_1 ∧ Aside0 (impl_ValidHeap.j0 kq x21_1 a0_0 l0_1 = some r) ∧ Aside0 (kq ≤ k) ∧ Aside0 (wc.heap[gb360]? = some (.cells #[.int .i64 a0_0, (.slice A0_1 l0_1.length c0_1)] 34 (0, 0))) ∧ Aside0 (Below w.heap.size w wc))
 case first =>
  have H := HC2.out
  clear HC2
  obtain ⟨t361, A4, H⟩ := sO H
  by_cases c5 : t361 = true
  ·subst c5
   rewrite [if_pos rfl] at H
   by_cases c6 : (l0_1.length : Int) > 40
   ·rw [if_pos c6] at H
    have c6b0 : decide (40 < (l0_1.length : Int)) = true := decide_eq_true c6
    have c6b1 : decide (40 < l0_1.length) = true := decide_eq_true (by omega)
    clear c6
    (first | rw [c6b0] | (simp only [i64_w, i32_w]; rw [c6b0]) | rw [c6b2] | skip)
    have H' := Aside0.mk H
    clear H
    obtain ⟨hcz7_0, hcz7_1, hfz7_0, hfz7_1⟩ := cells2 BK360.out
    go_wp2_with (first | ((with_reducible refine gate_callee (f := 117) rfl ?_); refine sC (some 8) Try.func117 #[.int .i64 a0_0, .int .i64 0, .int .i64 1000000] (impl_within.calls a0_0 0 1000000 true _ A4.out) ?_; rintro e w' ⟨rfl, ⟨nd, rfl⟩⟩; refine ⟨_, rfl, ?_⟩))
    go_meet
    case rel => exact ⟨_, (true), sr, H', ⟨by first | omega | exact Nat.le_refl _⟩, ⟨by exact sT BK360.out⟩, ⟨sb⟩⟩
   rw [if_neg c6] at H
   have c6b0 : decide (40 < (l0_1.length : Int)) = false := decide_eq_false c6
   have c6b1 : decide (40 < l0_1.length) = false := decide_eq_false (by omega)
   clear c6
   (first | rw [c6b0] | (simp only [i64_w, i32_w]; rw [c6b0]) | rw [c6b2] | skip)
   obtain ⟨t362, A8, H⟩ := sO H
   have H' := Aside0.mk H
   clear H
   obtain ⟨hcz9_0, hcz9_1, hfz9_0, hfz9_1⟩ := cells2 BK360.out
   go_wp2_with (first | ((with_reducible refine gate_callee (f := 117) rfl ?_); refine sC (some 8) Try.func117 #[.int .i64 a0_0, .int .i64 0, .int .i64 1000000] (impl_within.calls a0_0 0 1000000 true _ A4.out) ?_; rintro e w' ⟨rfl, ⟨nd, rfl⟩⟩; refine ⟨_, rfl, ?_⟩) | (go_at_call 151; (with_reducible refine (impl_Object__impl_ValidObject.calls k _ _ l0_1  t362 _ ?side1 ?side2 A8.out).mono ?_); (case side1 => exact sD (Kd.C_below HR0_1.out (by repeat (first | (with_reducible first | exact HB.out | apply below_alloc | apply pw_below_drewN | apply below_drew1 | refine below_set ?_ GE360.out) | exact HB.out)))); (case side2 => exact HC0_1.out); rintro e w10 ⟨rfl, hb⟩; have n0_ := sK BK360 hb; have n1_ := sB HB hb; clear BK360; clear HB; have BK360 := n0_; have HB := n1_; clear n0_ n1_; (try clear hb); (try clear hb2); (try clear hk); (try clear hi)))
   go_meet
   case rel => exact ⟨_, (!t362), sr, H', ⟨by first | omega | exact Nat.le_refl _⟩, ⟨by exact sT BK360.out⟩, ⟨sb⟩⟩
  replace c5 := Bool.eq_false_iff.mpr c5
  subst c5
  rewrite [if_neg (show ¬ (false = true) by decide)] at H
  have H' := Aside0.mk H
  clear H
  obtain ⟨hcz11_0, hcz11_1, hfz11_0, hfz11_1⟩ := cells2 BK360.out
  go_wp2_with (first | ((with_reducible refine gate_callee (f := 117) rfl ?_); refine sC (some 8) Try.func117 #[.int .i64 a0_0, .int .i64 0, .int .i64 1000000] (impl_within.calls a0_0 0 1000000 false _ A4.out) ?_; rintro e w' ⟨rfl, ⟨nd, rfl⟩⟩; refine ⟨_, rfl, ?_⟩))
  go_meet
  case rel => exact ⟨_, (true), sr, H', ⟨by first | omega | exact Nat.le_refl _⟩, ⟨by exact sT BK360.out⟩, ⟨sb⟩⟩
 case rest =>
  clear HC2
  try clear c1
  try clear p2
  try clear c5
  try clear c6
  try clear c6b0
  try clear c6b1
  try clear c6b2
  try clear c11
  try clear hcz11_0
  try clear hcz11_1
  try clear hcz7_0
  try clear hcz7_1
  try clear hcz9_0
  try clear hcz9_1
  try clear hfz11_0
  try clear hfz11_1
  try clear hfz7_0
  try clear hfz7_1
  try clear hfz9_0
  try clear hfz9_1
  obtain ⟨kq, x21_1, rfl, HA, HJ1, BK360, HB⟩ := hcut
  cases kq with
  | zero => exact absurd HA.out (by simp [impl_ValidHeap.j0])
  | succ kj1 =>
   have H := HA.out
   clear HA
   simp only [impl_ValidHeap.j0] at H
   by_cases c12 : x21_1 = true
   ·subst c12
    rewrite [if_pos rfl] at H
    obtain rfl := Option.some.inj H
    go_wp2
    go_ret
    exact ⟨sq, sb⟩
   replace c12 := Bool.eq_false_iff.mpr c12
   subst c12
   rewrite [if_neg (show ¬ (false = true) by decide)] at H
   have H' := Aside0.mk H
   clear H
   obtain ⟨hcz13_0, hcz13_1, hfz13_0, hfz13_1⟩ := cells2 BK360.out
   go_wp2
   go_loopg [3, 25] kj1 (fun kq v3 v25 w' => ∃ (x3_2 : Int) (x25_2 : Int), v3 = .int .i64 x3_2 ∧ v25 = .int .i64 x25_2 ∧ Aside0 (impl_ValidHeap.l0 kq x3_2 l0_1 (l0_1.length : Int) x25_2 a0_0 l0_1 = some r) ∧ Aside0 (kq ≤ kj1) ∧ Aside0 (w'.heap[gb360]? = some (.cells #[.int .i64 a0_0, (.slice A0_1 l0_1.length c0_1)] 34 (0, 0))) ∧ Aside0 (Below w.heap.size w w'))
   case atStart => exact ⟨(0), (0), sr, sr, H', ⟨Nat.le_refl _⟩, ⟨by exact sT BK360.out⟩, ⟨sb⟩⟩
   case round =>
    clear H'
    try clear c1
    try clear p2
    try clear c5
    try clear c6
    try clear c6b0
    try clear c6b1
    try clear c6b2
    try clear c11
    try clear c12
    try clear hcz11_0
    try clear hcz11_1
    try clear hcz13_0
    try clear hcz13_1
    try clear hcz7_0
    try clear hcz7_1
    try clear hcz9_0
    try clear hcz9_1
    try clear hfz11_0
    try clear hfz11_1
    try clear hfz13_0
    try clear hfz13_1
    try clear hfz7_0
    try clear hfz7_1
    try clear hfz9_0
    try clear hfz9_1
    try clear p2
    obtain ⟨x3_2, x25_2, rfl, rfl, HA, HK2, BK360, HB⟩ := hrel
    cases gk with
    | zero => exact absurd HA.out (by simp [impl_ValidHeap.l0])
    | succ k2 =>
     have H := HA.out
     clear HA
     simp only [impl_ValidHeap.l0] at H
     by_cases c14 : x25_2 < (l0_1.length : Int)
     ·rw [if_pos c14] at H
      have c14b0 := decide_eq_true c14
      clear c14
      by_cases c15 : 0 ≤ x25_2
      ·rw [if_pos c15] at H
       have c15b0 := decide_eq_true c15
       clear c15
       by_cases c16 : x25_2 < (l0_1.length : Int)
       ·rw [if_pos c16] at H
        have c16b0 := decide_eq_true c16
        clear c16
        by_cases c17 : ((rd_T56 l0_1 x25_2).f0) ≤ x3_2
        ·rw [if_pos c17] at H
         have c17b0 := decide_eq_true c17
         clear c17
         obtain rfl := Option.some.inj H
         have p363 : 0 ≤ (x25_2 : Int) := of_decide_eq_true (by first | (with_reducible assumption) | assumption)
         have q363 : x25_2 < (l0_1.length : Int) := of_decide_eq_true (by first | (with_reducible assumption) | assumption)
         obtain ⟨ad363, A363_4, c363_4, A363_5, c363_5, e363, hx363_0, hx363_1, hx363_2, hx363_3, hx363_4, hx363_5, hx363_6, hx363_7, hx363_8, hx363_9, hl363_4, hi363_4, hl363_5, hi363_5⟩ := at_T56 HR0_1.out x25_2 p363 q363
         cases e363
         replace hx363_0 := sX HB hx363_0
         replace hx363_1 := sX HB hx363_1
         replace hx363_2 := sX HB hx363_2
         replace hx363_3 := sX HB hx363_3
         replace hx363_4 := sX HB hx363_4
         replace hx363_5 := sX HB hx363_5
         replace hx363_6 := sX HB hx363_6
         replace hx363_7 := sX HB hx363_7
         replace hx363_8 := sX HB hx363_8
         replace hx363_9 := sX HB hx363_9
         have HR363_4 := Aside0.mk hi363_4
         have HC363_4 := Aside0.mk hl363_4
         clear hi363_4 hl363_4
         have HR363_5 := Aside0.mk hi363_5
         have HC363_5 := Aside0.mk hl363_5
         clear hi363_5 hl363_5
         replace p363 := eq_true p363
         replace q363 := eq_true q363
         go_wp2_with (first | ((with_reducible refine gate_dst (N := 5) rfl ?_); (try (refine gate_guard (by rfl) ?_; dsimp only)); refine sV (N := 5) (cs := #[.int .i64 0, .int .i64 0, .string (⟨#[]⟩ : ByteArray), .int .i64 0, .slice none 0 0, .slice none 0 0, .int .i64 0, .int .i64 0, .string (⟨#[]⟩ : ByteArray), .int .i64 0]) (t := 56) ?_; intro gb364 hg w18 hbox hb; have n0_ := sK BK360 hb; have n1_ := sB HB hb; have n2_ := Aside0.mk (hbox); have n3_ := sG HB hg; have n4_ := sG HB hg; have n5_ := sN BK360 hg; have n6_ := sM BK360 hg; clear BK360; clear HB; have BK360 := n0_; have HB := n1_; have BK364 := n2_; have GW364 := n3_; have GE364 := n4_; have NB360_364 := n5_; have NB364_360 := n6_; clear n0_ n1_ n2_ n3_ n4_ n5_ n6_; clear hb hbox hg; have hnb19 := NB364_360.out; have hnc19 := NB360_364.out; obtain ⟨hcz20_0, hcz20_1, hcz20_2, hcz20_3, hcz20_4, hcz20_5, hcz20_6, hcz20_7, hcz20_8, hcz20_9, hfz20_0, hfz20_1, hfz20_2, hfz20_3, hfz20_4, hfz20_5, hfz20_6, hfz20_7, hfz20_8, hfz20_9⟩ := cells10 BK364.out))
         go_ret
         exact ⟨sq, sb⟩
        rw [if_neg c17] at H
        have c17b0 := decide_eq_false c17
        clear c17
        by_cases c21 : ((rd_T56 l0_1 x25_2).f0) > a0_0
        ·rw [if_pos c21] at H
         have c21b0 : decide (a0_0 < ((rd_T56 l0_1 x25_2).f0)) = true := decide_eq_true c21
         clear c21
         obtain rfl := Option.some.inj H
         have p363 : 0 ≤ (x25_2 : Int) := of_decide_eq_true (by first | (with_reducible assumption) | assumption)
         have q363 : x25_2 < (l0_1.length : Int) := of_decide_eq_true (by first | (with_reducible assumption) | assumption)
         obtain ⟨ad363, A363_4, c363_4, A363_5, c363_5, e363, hx363_0, hx363_1, hx363_2, hx363_3, hx363_4, hx363_5, hx363_6, hx363_7, hx363_8, hx363_9, hl363_4, hi363_4, hl363_5, hi363_5⟩ := at_T56 HR0_1.out x25_2 p363 q363
         cases e363
         replace hx363_0 := sX HB hx363_0
         replace hx363_1 := sX HB hx363_1
         replace hx363_2 := sX HB hx363_2
         replace hx363_3 := sX HB hx363_3
         replace hx363_4 := sX HB hx363_4
         replace hx363_5 := sX HB hx363_5
         replace hx363_6 := sX HB hx363_6
         replace hx363_7 := sX HB hx363_7
         replace hx363_8 := sX HB hx363_8
         replace hx363_9 := sX HB hx363_9
         have HR363_4 := Aside0.mk hi363_4
         have HC363_4 := Aside0.mk hl363_4
         clear hi363_4 hl363_4
         have HR363_5 := Aside0.mk hi363_5
         have HC363_5 := Aside0.mk hl363_5
         clear hi363_5 hl363_5
         replace p363 := eq_true p363
         replace q363 := eq_true q363
         go_wp2_with (first | ((with_reducible refine gate_dst (N := 5) rfl ?_); (try (refine gate_guard (by rfl) ?_; dsimp only)); refine sV (N := 5) (cs := #[.int .i64 0, .int .i64 0, .string (⟨#[]⟩ : ByteArray), .int .i64 0, .slice none 0 0, .slice none 0 0, .int .i64 0, .int .i64 0, .string (⟨#[]⟩ : ByteArray), .int .i64 0]) (t := 56) ?_; intro gb364 hg w22 hbox hb; have n0_ := sK BK360 hb; have n1_ := sB HB hb; have n2_ := Aside0.mk (hbox); have n3_ := sG HB hg; have n4_ := sG HB hg; have n5_ := sN BK360 hg; have n6_ := sM BK360 hg; clear BK360; clear HB; have BK360 := n0_; have HB := n1_; have BK364 := n2_; have GW364 := n3_; have GE364 := n4_; have NB360_364 := n5_; have NB364_360 := n6_; clear n0_ n1_ n2_ n3_ n4_ n5_ n6_; clear hb hbox hg; have hnb23 := NB364_360.out; have hnc23 := NB360_364.out; obtain ⟨hcz24_0, hcz24_1, hcz24_2, hcz24_3, hcz24_4, hcz24_5, hcz24_6, hcz24_7, hcz24_8, hcz24_9, hfz24_0, hfz24_1, hfz24_2, hfz24_3, hfz24_4, hfz24_5, hfz24_6, hfz24_7, hfz24_8, hfz24_9⟩ := cells10 BK364.out; obtain ⟨hcz25_0, hcz25_1, hfz25_0, hfz25_1⟩ := cells2 BK360.out))
         go_ret
         exact ⟨sq, sb⟩
        rw [if_neg c21] at H
        have c21b0 : decide (a0_0 < ((rd_T56 l0_1 x25_2).f0)) = false := decide_eq_false c21
        clear c21
        have H' := Aside0.mk H
        clear H
        have p363 : 0 ≤ (x25_2 : Int) := of_decide_eq_true (by first | (with_reducible assumption) | assumption)
        have q363 : x25_2 < (l0_1.length : Int) := of_decide_eq_true (by first | (with_reducible assumption) | assumption)
        obtain ⟨ad363, A363_4, c363_4, A363_5, c363_5, e363, hx363_0, hx363_1, hx363_2, hx363_3, hx363_4, hx363_5, hx363_6, hx363_7, hx363_8, hx363_9, hl363_4, hi363_4, hl363_5, hi363_5⟩ := at_T56 HR0_1.out x25_2 p363 q363
        cases e363
        replace hx363_0 := sX HB hx363_0
        replace hx363_1 := sX HB hx363_1
        replace hx363_2 := sX HB hx363_2
        replace hx363_3 := sX HB hx363_3
        replace hx363_4 := sX HB hx363_4
        replace hx363_5 := sX HB hx363_5
        replace hx363_6 := sX HB hx363_6
        replace hx363_7 := sX HB hx363_7
        replace hx363_8 := sX HB hx363_8
        replace hx363_9 := sX HB hx363_9
        have HR363_4 := Aside0.mk hi363_4
        have HC363_4 := Aside0.mk hl363_4
        clear hi363_4 hl363_4
        have HR363_5 := Aside0.mk hi363_5
        have HC363_5 := Aside0.mk hl363_5
        clear hi363_5 hl363_5
        replace p363 := eq_true p363
        replace q363 := eq_true q363
        go_wp2_with (first | ((with_reducible refine gate_dst (N := 5) rfl ?_); (try (refine gate_guard (by rfl) ?_; dsimp only)); refine sV (N := 5) (cs := #[.int .i64 0, .int .i64 0, .string (⟨#[]⟩ : ByteArray), .int .i64 0, .slice none 0 0, .slice none 0 0, .int .i64 0, .int .i64 0, .string (⟨#[]⟩ : ByteArray), .int .i64 0]) (t := 56) ?_; intro gb364 hg w26 hbox hb; have n0_ := sK BK360 hb; have n1_ := sB HB hb; have n2_ := Aside0.mk (hbox); have n3_ := sG HB hg; have n4_ := sG HB hg; have n5_ := sN BK360 hg; have n6_ := sM BK360 hg; clear BK360; clear HB; have BK360 := n0_; have HB := n1_; have BK364 := n2_; have GW364 := n3_; have GE364 := n4_; have NB360_364 := n5_; have NB364_360 := n6_; clear n0_ n1_ n2_ n3_ n4_ n5_ n6_; clear hb hbox hg; have hnb27 := NB364_360.out; have hnc27 := NB360_364.out; obtain ⟨hcz28_0, hcz28_1, hcz28_2, hcz28_3, hcz28_4, hcz28_5, hcz28_6, hcz28_7, hcz28_8, hcz28_9, hfz28_0, hfz28_1, hfz28_2, hfz28_3, hfz28_4, hfz28_5, hfz28_6, hfz28_7, hfz28_8, hfz28_9⟩ := cells10 BK364.out; obtain ⟨hcz29_0, hcz29_1, hfz29_0, hfz29_1⟩ := cells2 BK360.out))
        go_roundg k2
        case measure => have := HJ1.out; have := HK2.out; omega
        case rel => exact ⟨((rd_T56 l0_1 x25_2).f0), (wrap64 (x25_2 + 1)), sr, sr, H', ⟨by have := HJ1.out; have := HK2.out; omega⟩, ⟨by (with_reducible repeat (first | refine blk_drewN ?_ _ | refine blk_drew ?_ | refine blk_alloc ?_ _)); refine blk_far ?_ NB360_364.out _; (with_reducible repeat (first | refine blk_drewN ?_ _ | refine blk_drew ?_ | refine blk_alloc ?_ _)); refine blk_far ?_ NB360_364.out _; (with_reducible repeat (first | refine blk_drewN ?_ _ | refine blk_drew ?_ | refine blk_alloc ?_ _)); refine blk_far ?_ NB360_364.out _; (with_reducible repeat (first | refine blk_drewN ?_ _ | refine blk_drew ?_ | refine blk_alloc ?_ _)); refine blk_far ?_ NB360_364.out _; (with_reducible repeat (first | refine blk_drewN ?_ _ | refine blk_drew ?_ | refine blk_alloc ?_ _)); refine blk_far ?_ NB360_364.out _; (with_reducible repeat (first | refine blk_drewN ?_ _ | refine blk_drew ?_ | refine blk_alloc ?_ _)); refine blk_far ?_ NB360_364.out _; (with_reducible repeat (first | refine blk_drewN ?_ _ | refine blk_drew ?_ | refine blk_alloc ?_ _)); refine blk_far ?_ NB360_364.out _; (with_reducible repeat (first | refine blk_drewN ?_ _ | refine blk_drew ?_ | refine blk_alloc ?_ _)); refine blk_far ?_ NB360_364.out _; (with_reducible repeat (first | refine blk_drewN ?_ _ | refine blk_drew ?_ | refine blk_alloc ?_ _)); refine blk_far ?_ NB360_364.out _; (with_reducible repeat (first | refine blk_drewN ?_ _ | refine blk_drew ?_ | refine blk_alloc ?_ _)); refine blk_far ?_ NB360_364.out _; exact sT BK360.out⟩, ⟨sb⟩⟩
       rw [if_neg c16] at H
       exact absurd H (by simp)
      rw [if_neg c15] at H
      exact absurd H (by simp)
     rw [if_neg c14] at H
     have c14b0 := decide_eq_false c14
     clear c14
     obtain ⟨t365, A30, H⟩ := sO H
     obtain rfl := Option.some.inj H
     obtain ⟨hcz31_0, hcz31_1, hfz31_0, hfz31_1⟩ := cells2 BK360.out
     go_wp2_with (first | ((with_reducible refine gate_callee (f := 151) rfl ?_); refine sC (some 46) Try.func151 #[.slice A0_1 l0_1.length c0_1, .func (.func 152) #[] #[.pointer (some ⟨gb360, 0, none⟩)]] (impl_Object__impl_ValidHeap_1.calls k2 _ _ l0_1 _ [(⟨a0_0, l0_1⟩ : S34)] t365 _ ?side1 ?side2 ?side3 A30.out) ?_; (case side1 => exact sD (Kd.C_below HR0_1.out HB.out)); (case side2 => exact HC0_1.out); (case side3 => exact C_box (t := 34) (sT BK360.out) (k34_mk _ (⟨a0_0, l0_1⟩ : S34) (by exact HC0_1.out) (by exact sD (Kd.C_below HR0_1.out HB.out)))); rintro e w32 ⟨rfl, hb⟩; refine ⟨_, rfl, ?_⟩; have n0_ := sK BK360 hb; have n1_ := sB HB hb; clear BK360; clear HB; have BK360 := n0_; have HB := n1_; clear n0_ n1_; (try clear hb); (try clear hb2); (try clear hk); (try clear hi)))
     go_ret
     exact ⟨sq, sb⟩

/-! ### impl_ValidRoots: function 90 -/
def impl_ValidRoots.f (k : Nat) (a0_0 : Int) (l0_1 : List (S56)) (l1 : List (S29)) : Option (Bool) := (impl_ValidHeap.f k a0_0 l0_1).bind fun t367 => (if t367 = true then ((impl_Value__impl_Heap_fits.f k l1 a0_0 l0_1).bind fun t368 => (some t368)) else (some false))
set_option maxHeartbeats 8000000 in
set_option maxRecDepth 100000 in
theorem impl_ValidRoots.calls (k : Nat) (a0_0 : Int) (A0_1 : Option Addr) (c0_1 : Nat) (l0_1 : List (S56)) (A1 : Option Addr) (c1 : Nat) (l1 : List (S29)) (r : Bool) (w : World) (hr0_1 : Kd.C k56 w A0_1 l0_1.length l0_1) (hc0_1 : l0_1.length ≤ c0_1) (hr1 : Kd.C k29 w A1 l1.length l1) (hc1 : l1.length ≤ c1) (h : impl_ValidRoots.f k a0_0 l0_1 l1 = some r) :
  Calls Try.prog 90 #[.agg #[.int .i64 a0_0, .slice A0_1 l0_1.length c0_1], .slice A1 l1.length c1] w fun e w' => e = .returned (.bool r) ∧ Below w.heap.size w w' := by
 have hu34 := Try.underlying34
 have HR0_1 := Aside0.mk hr0_1
 have HC0_1 := Aside0.mk hc0_1
 clear hr0_1 hc0_1
 have HR1 := Aside0.mk hr1
 have HC1 := Aside0.mk hc1
 clear hr1 hc1
 have HB := Aside0.mk (Below.refl w.heap.size w)
 have H : ((impl_ValidHeap.f k a0_0 l0_1).bind fun t367 => (if t367 = true then ((impl_Value__impl_Heap_fits.f k l1 a0_0 l0_1).bind fun t368 => (some t368)) else (some false))) = some r := h
 clear h
 obtain ⟨t367, A3, H⟩ := sO H
 by_cases c4 : t367 = true
 ·subst c4
  rewrite [if_pos rfl] at H
  obtain ⟨t368, A5, H⟩ := sO H
  obtain rfl := Option.some.inj H
  go_enter Try.func90, Try.ntmps90
  go_wp2_with (first | ((with_reducible refine gate_dst (N := 2) rfl ?_); refine sV (N := 2) (cs := #[.int .i64 a0_0, .slice A0_1 l0_1.length c0_1]) (t := 34) ?_; intro gb366 hg w6 hbox hb; have n0_ := sB HB hb; have n1_ := Aside0.mk (hbox); have n2_ := sG HB hg; have n3_ := sG HB hg; clear HB; have HB := n0_; have BK366 := n1_; have GW366 := n2_; have GE366 := n3_; clear n0_ n1_ n2_ n3_; clear hb hbox hg; obtain ⟨hcz7_0, hcz7_1, hfz7_0, hfz7_1⟩ := cells2 BK366.out) | ((with_reducible refine gate_callee (f := 115) rfl ?_); refine sC (some 6) Try.func115 #[.agg #[.int .i64 a0_0, .slice A0_1 l0_1.length c0_1]] (impl_ValidHeap.calls k a0_0 _ _ l0_1 true _ ?side1 ?side2 A3.out) ?_; (case side1 => exact sD (Kd.C_below HR0_1.out HB.out)); (case side2 => exact HC0_1.out); rintro e w8 ⟨rfl, hb⟩; refine ⟨_, rfl, ?_⟩; have n0_ := sK BK366 hb; have n1_ := sB HB hb; clear BK366; clear HB; have BK366 := n0_; have HB := n1_; clear n0_ n1_; (try clear hb); (try clear hb2); (try clear hk); (try clear hi); obtain ⟨hcz9_0, hcz9_1, hfz9_0, hfz9_1⟩ := cells2 BK366.out) | (go_at_call 124; (with_reducible refine (impl_Value__impl_Heap_fits.calls k _ _ l1 a0_0 _ _ l0_1 t368 _ ?side1 ?side2 ?side3 ?side4 A5.out).mono ?_); (case side1 => exact sD (Kd.C_below HR1.out HB.out)); (case side2 => exact HC1.out); (case side3 => exact sD (Kd.C_below HR0_1.out HB.out)); (case side4 => exact HC0_1.out); rintro e w10 ⟨rfl, hb⟩; have n0_ := sK BK366 hb; have n1_ := sB HB hb; clear BK366; clear HB; have BK366 := n0_; have HB := n1_; clear n0_ n1_; (try clear hb); (try clear hb2); (try clear hk); (try clear hi)))
  go_ret
  exact ⟨sq, sb⟩
 replace c4 := Bool.eq_false_iff.mpr c4
 subst c4
 rewrite [if_neg (show ¬ (false = true) by decide)] at H
 obtain rfl := Option.some.inj H
 go_enter Try.func90, Try.ntmps90
 go_wp2_with (first | ((with_reducible refine gate_dst (N := 2) rfl ?_); refine sV (N := 2) (cs := #[.int .i64 a0_0, .slice A0_1 l0_1.length c0_1]) (t := 34) ?_; intro gb366 hg w11 hbox hb; have n0_ := sB HB hb; have n1_ := Aside0.mk (hbox); have n2_ := sG HB hg; have n3_ := sG HB hg; clear HB; have HB := n0_; have BK366 := n1_; have GW366 := n2_; have GE366 := n3_; clear n0_ n1_ n2_ n3_; clear hb hbox hg; obtain ⟨hcz12_0, hcz12_1, hfz12_0, hfz12_1⟩ := cells2 BK366.out) | ((with_reducible refine gate_callee (f := 115) rfl ?_); refine sC (some 6) Try.func115 #[.agg #[.int .i64 a0_0, .slice A0_1 l0_1.length c0_1]] (impl_ValidHeap.calls k a0_0 _ _ l0_1 false _ ?side1 ?side2 A3.out) ?_; (case side1 => exact sD (Kd.C_below HR0_1.out HB.out)); (case side2 => exact HC0_1.out); rintro e w13 ⟨rfl, hb⟩; refine ⟨_, rfl, ?_⟩; have n0_ := sK BK366 hb; have n1_ := sB HB hb; clear BK366; clear HB; have BK366 := n0_; have HB := n1_; clear n0_ n1_; (try clear hb); (try clear hb2); (try clear hk); (try clear hi)))
 go_ret
 exact ⟨sq, sb⟩

/-! ### impl_fitAll: function 65 -/
def impl_fitAll.f (k : Nat) (a0_0 : Int) (l0_1 : List (S56)) (l1 : List (S29)) : Option (Int) := (impl_ValidRoots.f k a0_0 l0_1 l1).bind fun t370 => ((impl_unless.f t370 1).bind fun t371 => (some t371))
set_option maxHeartbeats 8000000 in
set_option maxRecDepth 100000 in
theorem impl_fitAll.calls (k : Nat) (a0_0 : Int) (A0_1 : Option Addr) (c0_1 : Nat) (l0_1 : List (S56)) (A1 : Option Addr) (c1 : Nat) (l1 : List (S29)) (r : Int) (w : World) (hr0_1 : Kd.C k56 w A0_1 l0_1.length l0_1) (hc0_1 : l0_1.length ≤ c0_1) (hr1 : Kd.C k29 w A1 l1.length l1) (hc1 : l1.length ≤ c1) (h : impl_fitAll.f k a0_0 l0_1 l1 = some r) :
  Calls Try.prog 65 #[.agg #[.int .i64 a0_0, .slice A0_1 l0_1.length c0_1], .slice A1 l1.length c1] w fun e w' => e = .returned (.int .i64 r) ∧ Below w.heap.size w w' := by
 have hu34 := Try.underlying34
 have HR0_1 := Aside0.mk hr0_1
 have HC0_1 := Aside0.mk hc0_1
 clear hr0_1 hc0_1
 have HR1 := Aside0.mk hr1
 have HC1 := Aside0.mk hc1
 clear hr1 hc1
 have HB := Aside0.mk (Below.refl w.heap.size w)
 have H : ((impl_ValidRoots.f k a0_0 l0_1 l1).bind fun t370 => ((impl_unless.f t370 1).bind fun t371 => (some t371))) = some r := h
 clear h
 obtain ⟨t370, A3, H⟩ := sO H
 obtain ⟨t371, A4, H⟩ := sO H
 obtain rfl := Option.some.inj H
 go_enter Try.func65, Try.ntmps65
 go_wp2_with (first | ((with_reducible refine gate_dst (N := 2) rfl ?_); refine sV (N := 2) (cs := #[.int .i64 a0_0, .slice A0_1 l0_1.length c0_1]) (t := 34) ?_; intro gb369 hg w5 hbox hb; have n0_ := sB HB hb; have n1_ := Aside0.mk (hbox); have n2_ := sG HB hg; have n3_ := sG HB hg; clear HB; have HB := n0_; have BK369 := n1_; have GW369 := n2_; have GE369 := n3_; clear n0_ n1_ n2_ n3_; clear hb hbox hg; obtain ⟨hcz6_0, hcz6_1, hfz6_0, hfz6_1⟩ := cells2 BK369.out) | ((with_reducible refine gate_callee (f := 90) rfl ?_); refine sC (some 7) Try.func90 #[.agg #[.int .i64 a0_0, .slice A0_1 l0_1.length c0_1], .slice A1 l1.length c1] (impl_ValidRoots.calls k a0_0 _ _ l0_1 _ _ l1 t370 _ ?side1 ?side2 ?side3 ?side4 A3.out) ?_; (case side1 => exact sD (Kd.C_below HR0_1.out HB.out)); (case side2 => exact HC0_1.out); (case side3 => exact sD (Kd.C_below HR1.out HB.out)); (case side4 => exact HC1.out); rintro e w7 ⟨rfl, hb⟩; refine ⟨_, rfl, ?_⟩; have n0_ := sK BK369 hb; have n1_ := sB HB hb; clear BK369; clear HB; have BK369 := n0_; have HB := n1_; clear n0_ n1_; (try clear hb); (try clear hb2); (try clear hk); (try clear hi)) | ((with_reducible refine gate_callee (f := 71) rfl ?_); refine sC (some 8) Try.func71 #[.bool t370, .int .i64 1] (impl_unless.calls t370 1 t371 _ A4.out) ?_; rintro e w' ⟨rfl, ⟨nd, rfl⟩⟩; refine ⟨_, rfl, ?_⟩))
 go_ret
 exact ⟨sq, sb⟩
end Go.Proofs.Ytnjkhdhaiicefaa.PFnExactGetField
