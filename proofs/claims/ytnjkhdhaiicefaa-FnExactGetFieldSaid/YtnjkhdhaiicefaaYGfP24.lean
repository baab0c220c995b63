/- Printed functions: impl_Object__impl_ValidHeap_1. -/
import Derived.Test.YtnjkhdhaiicefaaYGfP0
import Derived.Test.YtnjkhdhaiicefaaYGfP23
namespace Go.Proofs.Ytnjkhdhaiicefaa.PFnExactGetField
open Go.RowKit Go.Proofs.YtnjkhdhaiicefaaG Go.Proofs.YtnjkhdhaiicefaaW.PrintWords Go.Proofs.YtnjkhdhaiicefaaW.PrintLast Go.Proofs.YtnjkhdhaiicefaaW.PrintMore
attribute [local go_sem] max2_int min2_int max_two min_two max_three min_three max_four min_four   -- for this text's walks alone
set_option linter.unusedVariables false
set_option linter.unusedSimpArgs false
/-! ### impl_Object__impl_ValidHeap_1: function 151 -/
def impl_Object__impl_ValidHeap_1.l0 : Nat → List (S34) → List (S56) → Int → Int → Option (Bool)
 | 0, _, _, _, _ => none
 | k + 1, x1, x7, x8, x9 => if x9 < x8 then (if 0 ≤ x9 then (if x9 < (x7.length : Int) then ((impl_ValidHeap_1.f k ((rd_T56 x7 x9).f0) ((rd_T56 x7 x9).f1) ((rd_T56 x7 x9).f2) ((rd_T56 x7 x9).f3) ((rd_T56 x7 x9).f4) ((rd_T56 x7 x9).f5) ((rd_T56 x7 x9).f6.f0) ((rd_T56 x7 x9).f6.f1) ((rd_T56 x7 x9).f6.f2) ((rd_T56 x7 x9).f6.f3) x1).bind fun t359 => (if t359 = true then (impl_Object__impl_ValidHeap_1.l0 k x1 x7 x8 (wrap64 (x9 + 1))) else (some false))) else (none)) else (none)) else (some true)
def impl_Object__impl_ValidHeap_1.f (k : Nat) (l0 : List (S56)) (l1 : List (S34)) : Option (Bool) := impl_Object__impl_ValidHeap_1.l0 k l1 l0 (l0.length : Int) 0
set_option maxHeartbeats 8000000 in
set_option maxRecDepth 100000 in
theorem impl_Object__impl_ValidHeap_1.calls (k : Nat) (A0 : Option Addr) (c0 : Nat) (l0 : List (S56)) (A1 : Option Addr) (l1 : List (S34)) (r : Bool) (w : World) (hr0 : Kd.C k56 w A0 l0.length l0) (hc0 : l0.length ≤ c0) (hr1 : Kd.C k34 w A1 l1.length l1) (h : impl_Object__impl_ValidHeap_1.f k l0 l1 = some r) :
  Calls Try.prog 151 #[.slice A0 l0.length c0, .func (.func 152) #[] #[.pointer A1]] w fun e w' => e = .returned (.bool r) ∧ Below w.heap.size w w' := by
 have hu56 := Try.underlying56
 have HR0 := Aside0.mk hr0
 have HC0 := Aside0.mk hc0
 clear hr0 hc0
 have HR1 := Aside0.mk hr1
 have HC1 := Aside0.mk (Nat.le_refl l1.length)
 clear hr1
 have HB := Aside0.mk (Below.refl w.heap.size w)
 have H : (impl_Object__impl_ValidHeap_1.l0 k l1 l0 (l0.length : Int) 0) = some r := h
 clear h
 have H' := Aside0.mk H
 clear H
 go_enter Try.func151, Try.ntmps151
 go_wp2
 go_loopg [9] k (fun kq v9 w' => ∃ (x9_1 : Int), v9 = .int .i64 x9_1 ∧ Aside0 (impl_Object__impl_ValidHeap_1.l0 kq l1 l0 (l0.length : Int) x9_1 = some r) ∧ Aside0 (kq ≤ k) ∧ Aside0 (Below w.heap.size w w'))
 case atStart => exact ⟨(0), sr, H', ⟨Nat.le_refl _⟩, ⟨sb⟩⟩
 case round =>
  clear H'
  try clear p2
  obtain ⟨x9_1, rfl, HA, HK1, HB⟩ := hrel
  cases gk with
  | zero => exact absurd HA.out (by simp [impl_Object__impl_ValidHeap_1.l0])
  | succ k1 =>
   have H := HA.out
   clear HA
   simp only [impl_Object__impl_ValidHeap_1.l0] at H
   by_cases c3 : x9_1 < (l0.length : Int)
   ·rw [if_pos c3] at H
    have c3b0 := decide_eq_true c3
    clear c3
    by_cases c4 : 0 ≤ x9_1
    ·rw [if_pos c4] at H
     have c4b0 := decide_eq_true c4
     clear c4
     by_cases c5 : x9_1 < (l0.length : Int)
     ·rw [if_pos c5] at H
      have c5b0 := decide_eq_true c5
      clear c5
      obtain ⟨t359, A6, H⟩ := sO H
      by_cases c7 : t359 = true
      ·subst c7
       rewrite [if_pos rfl] at H
       have H' := Aside0.mk H
       clear H
       have p357 : 0 ≤ (x9_1 : Int) := of_decide_eq_true (by first | (with_reducible assumption) | assumption)
       have q357 : x9_1 < (l0.length : Int) := of_decide_eq_true (by first | (with_reducible assumption) | assumption)
       obtain ⟨ad357, A357_4, c357_4, A357_5, c357_5, e357, hx357_0, hx357_1, hx357_2, hx357_3, hx357_4, hx357_5, hx357_6, hx357_7, hx357_8, hx357_9, hl357_4, hi357_4, hl357_5, hi357_5⟩ := at_T56 HR0.out x9_1 p357 q357
       cases e357
       replace hx357_0 := sX HB hx357_0
       replace hx357_1 := sX HB hx357_1
       replace hx357_2 := sX HB hx357_2
       replace hx357_3 := sX HB hx357_3
       replace hx357_4 := sX HB hx357_4
       replace hx357_5 := sX HB hx357_5
       replace hx357_6 := sX HB hx357_6
       replace hx357_7 := sX HB hx357_7
       replace hx357_8 := sX HB hx357_8
       replace hx357_9 := sX HB hx357_9
       have HR357_4 := Aside0.mk hi357_4
       have HC357_4 := Aside0.mk hl357_4
       clear hi357_4 hl357_4
       have HR357_5 := Aside0.mk hi357_5
       have HC357_5 := Aside0.mk hl357_5
       clear hi357_5 hl357_5
       replace p357 := eq_true p357
       replace q357 := eq_true q357
       go_wp2_with (first | ((with_reducible refine gate_dst (N := 6) rfl ?_); refine sV (N := 6) (cs := #[.int .i64 0, .int .i64 0, .string (⟨#[]⟩ : ByteArray), .int .i64 0, .slice none 0 0, .slice none 0 0, .int .i64 0, .int .i64 0, .string (⟨#[]⟩ : ByteArray), .int .i64 0]) (t := 56) ?_; intro gb358 hg w8 hbox hb; have n0_ := sB HB hb; have n1_ := Aside0.mk (hbox); have n2_ := sG HB hg; have n3_ := sG HB hg; clear HB; have HB := n0_; have BK358 := n1_; have GW358 := n2_; have GE358 := n3_; clear n0_ n1_ n2_ n3_; clear hb hbox hg; obtain ⟨hcz9_0, hcz9_1, hcz9_2, hcz9_3, hcz9_4, hcz9_5, hcz9_6, hcz9_7, hcz9_8, hcz9_9, hfz9_0, hfz9_1, hfz9_2, hfz9_3, hfz9_4, hfz9_5, hfz9_6, hfz9_7, hfz9_8, hfz9_9⟩ := cells10 BK358.out) | (go_at_call 152; (with_reducible refine (impl_ValidHeap_1.calls k1 ((rd_T56 l0 x9_1).f0) ((rd_T56 l0 x9_1).f1) ((rd_T56 l0 x9_1).f2) ((rd_T56 l0 x9_1).f3) _ _ ((rd_T56 l0 x9_1).f4) _ _ ((rd_T56 l0 x9_1).f5) ((rd_T56 l0 x9_1).f6.f0) ((rd_T56 l0 x9_1).f6.f1) ((rd_T56 l0 x9_1).f6.f2) ((rd_T56 l0 x9_1).f6.f3) _ l1 true _ ?side1 ?side2 ?side3 ?side4 ?side5 A6.out).mono ?_); (case side1 => exact Kd.C_below HR357_4.out (by repeat (first | (with_reducible first | exact HB.out | apply below_alloc | apply pw_below_drewN | apply below_drew1 | refine below_set ?_ GE358.out) | exact HB.out))); (case side2 => exact HC357_4.out); (case side3 => exact Kd.C_below HR357_5.out (by repeat (first | (with_reducible first | exact HB.out | apply below_alloc | apply pw_below_drewN | apply below_drew1 | refine below_set ?_ GE358.out) | exact HB.out))); (case side4 => exact HC357_5.out); (case side5 => exact Kd.C_below HR1.out (by repeat (first | (with_reducible first | exact HB.out | apply below_alloc | apply pw_below_drewN | apply below_drew1 | refine below_set ?_ GE358.out) | exact HB.out))); rintro e w10 ⟨rfl, hb⟩; have n0_ := Aside0.mk (blk_below (g := gb358) (o := .cells #[.int .i64 ((rd_T56 l0 x9_1).f0), .int .i64 ((rd_T56 l0 x9_1).f1), .string ((rd_T56 l0 x9_1).f2), .int .i64 ((rd_T56 l0 x9_1).f3), .slice A357_4 ((rd_T56 l0 x9_1).f4).length c357_4, .slice A357_5 ((rd_T56 l0 x9_1).f5).length c357_5, .int .i64 ((rd_T56 l0 x9_1).f6.f0), .int .i64 ((rd_T56 l0 x9_1).f6.f1), .string ((rd_T56 l0 x9_1).f6.f2), .int .i64 ((rd_T56 l0 x9_1).f6.f3)] 56 (0, 0)) (by exact sP10 (sT BK358.out)) hb); have n1_ := sB HB hb; clear BK358; clear HB; have BK358 := n0_; have HB := n1_; clear n0_ n1_; (try clear hb); (try clear hb2); (try clear hk); (try clear hi)))
       go_roundg k1
       case measure => have := HK1.out; omega
       case rel => exact ⟨(wrap64 (x9_1 + 1)), sr, H', ⟨by have := HK1.out; omega⟩, ⟨sb⟩⟩
      replace c7 := Bool.eq_false_iff.mpr c7
      subst c7
      rewrite [if_neg (show ¬ (false = true) by decide)] at H
      obtain rfl := Option.some.inj H
      have p357 : 0 ≤ (x9_1 : Int) := of_decide_eq_true (by first | (with_reducible assumption) | assumption)
      have q357 : x9_1 < (l0.length : Int) := of_decide_eq_true (by first | (with_reducible assumption) | assumption)
      obtain ⟨ad357, A357_4, c357_4, A357_5, c357_5, e357, hx357_0, hx357_1, hx357_2, hx357_3, hx357_4, hx357_5, hx357_6, hx357_7, hx357_8, hx357_9, hl357_4, hi357_4, hl357_5, hi357_5⟩ := at_T56 HR0.out x9_1 p357 q357
      cases e357
      replace hx357_0 := sX HB hx357_0
      replace hx357_1 := sX HB hx357_1
      replace hx357_2 := sX HB hx357_2
      replace hx357_3 := sX HB hx357_3
      replace hx357_4 := sX HB hx357_4
      replace hx357_5 := sX HB hx357_5
      replace hx357_6 := sX HB hx357_6
      replace hx357_7 := sX HB hx357_7
      replace hx357_8 := sX HB hx357_8
      replace hx357_9 := sX HB hx357_9
      have HR357_4 := Aside0.mk hi357_4
      have HC357_4 := Aside0.mk hl357_4
      clear hi357_4 hl357_4
      have HR357_5 := Aside0.mk hi357_5
      have HC357_5 := Aside0.mk hl357_5
      clear hi357_5 hl357_5
      replace p357 := eq_true p357
      replace q357 := eq_true q357
      go_wp2_with (first | ((with_reducible refine gate_dst (N := 6) rfl ?_); refine sV (N := 6) (cs := #[.int .i64 0, .int .i64 0, .string (⟨#[]⟩ : ByteArray), .int .i64 0, .slice none 0 0, .slice none 0 0, .int .i64 0, .int .i64 0, .string (⟨#[]⟩ : ByteArray), .int .i64 0]) (t := 56) ?_; intro gb358 hg w11 hbox hb; have n0_ := sB HB hb; have n1_ := Aside0.mk (hbox); have n2_ := sG HB hg; have n3_ := sG HB hg; clear HB; have HB := n0_; have BK358 := n1_; have GW358 := n2_; have GE358 := n3_; clear n0_ n1_ n2_ n3_; clear hb hbox hg; obtain ⟨hcz12_0, hcz12_1, hcz12_2, hcz12_3, hcz12_4, hcz12_5, hcz12_6, hcz12_7, hcz12_8, hcz12_9, hfz12_0, hfz12_1, hfz12_2, hfz12_3, hfz12_4, hfz12_5, hfz12_6, hfz12_7, hfz12_8, hfz12_9⟩ := cells10 BK358.out) | (go_at_call 152; (with_reducible refine (impl_ValidHeap_1.calls k1 ((rd_T56 l0 x9_1).f0) ((rd_T56 l0 x9_1).f1) ((rd_T56 l0 x9_1).f2) ((rd_T56 l0 x9_1).f3) _ _ ((rd_T56 l0 x9_1).f4) _ _ ((rd_T56 l0 x9_1).f5) ((rd_T56 l0 x9_1).f6.f0) ((rd_T56 l0 x9_1).f6.f1) ((rd_T56 l0 x9_1).f6.f2) ((rd_T56 l0 x9_1).f6.f3) _ l1 false _ ?side1 ?side2 ?side3 ?side4 ?side5 A6.out).mono ?_); (case side1 => exact Kd.C_below HR357_4.out (by repeat (first | (with_reducible first | exact HB.out | apply below_alloc | apply pw_below_drewN | apply below_drew1 | refine below_set ?_ GE358.out) | exact HB.out))); (case side2 => exact HC357_4.out); (case side3 => exact Kd.C_below HR357_5.out (by repeat (first | (with_reducible first | exact HB.out | apply below_alloc | apply pw_below_drewN | apply below_drew1 | refine below_set ?_ GE358.out) | exact HB.out))); (case side4 => exact HC357_5.out); (case side5 => exact Kd.C_below HR1.out (by repeat (first | (with_reducible first | exact HB.out | apply below_alloc | apply pw_below_drewN | apply below_drew1 | refine below_set ?_ GE358.out) | exact HB.out))); rintro e w13 ⟨rfl, hb⟩; have n0_ := Aside0.mk (blk_below (g := gb358) (o := .cells #[.int .i64 ((rd_T56 l0 x9_1).f0), .int .i64 ((rd_T56 l0 x9_1).f1), .string ((rd_T56 l0 x9_1).f2), .int .i64 ((rd_T56 l0 x9_1).f3), .slice A357_4 ((rd_T56 l0 x9_1).f4).length c357_4, .slice A357_5 ((rd_T56 l0 x9_1).f5).length c357_5, .int .i64 ((rd_T56 l0 x9_1).f6.f0), .int .i64 ((rd_T56 l0 x9_1).f6.f1), .string ((rd_T56 l0 x9_1).f6.f2), .int .i64 ((rd_T56 l0 x9_1).f6.f3)] 56 (0, 0)) (by exact sP10 (sT BK358.out)) hb); have n1_ := sB HB hb; clear BK358; clear HB; have BK358 := n0_; have HB := n1_; clear n0_ n1_; (try clear hb); (try clear hb2); (try clear hk); (try clear hi)))
      go_ret
      exact ⟨sq, sb⟩
     rw [if_neg c5] at H
     exact absurd H (by simp)
    rw [if_neg c4] at H
    exact absurd H (by simp)
   rw [if_neg c3] at H
   have c3b0 := decide_eq_false c3
   clear c3
   obtain rfl := Option.some.inj H
   go_wp2
   go_ret
   exact ⟨sq, sb⟩
end Go.Proofs.Ytnjkhdhaiicefaa.PFnExactGetField
