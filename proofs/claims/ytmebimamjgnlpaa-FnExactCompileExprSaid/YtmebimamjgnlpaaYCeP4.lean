/- Printed functions: spec_l02Holds, spec_CanQuote, impl_Expr_hasFields. -/
import Derived.Test.YtmebimamjgnlpaaYCeP0
import Derived.Test.YtmebimamjgnlpaaYCeP3
import Derived.Test.YtmebimamjgnlpaaYCeP9
import Derived.Test.YtmebimamjgnlpaaYCeP10
namespace Go.Proofs.Ytmebimamjgnlpaa.PFnExactCompileExpr
open Go.RowKit Go.Proofs.YtmebimamjgnlpaaG Go.Proofs.YtmebimamjgnlpaaW.PrintWords Go.Proofs.YtmebimamjgnlpaaW.PrintLast Go.Proofs.YtmebimamjgnlpaaW.PrintMore
attribute [local go_sem] max2_int min2_int max_two min_two max_three min_three max_four min_four   -- for this text's walks alone
set_option linter.unusedVariables false
set_option linter.unusedSimpArgs false
/-! ### spec_l02Holds: function 144 -/
def spec_l02Holds.l0 : Nat → ByteArray → Int → Int → Option (Bool)
 | 0, _, _, _ => none
 | k + 1, x0, x1, x5 => if x5 < (x0.size : Int) then (if 0 ≤ x5 then (if (bt x0 x5) = x1 then (some true) else (spec_l02Holds.l0 k x0 x1 (wrap64 (x5 + 1)))) else (none)) else (some false)
def spec_l02Holds.f (k : Nat) (a0 : ByteArray) (a1 : Int) : Option (Bool) := spec_l02Holds.l0 k a0 a1 0
set_option maxHeartbeats 8000000 in
set_option maxRecDepth 100000 in
theorem spec_l02Holds.calls (k : Nat) (a0 : ByteArray) (a1 : Int) (r : Bool) (w : World) (h : spec_l02Holds.f k a0 a1 = some r) :
  Calls Try.prog 144 #[.string a0, .int .u8 a1] w fun e w' => e = .returned (.bool r) ∧ Drawn0 w w' := by
 have H : (spec_l02Holds.l0 k a0 a1 0) = some r := h
 clear h
 have H' := Aside0.mk H
 clear H
 go_enter Try.func144, Try.ntmps144
 go_wp2
 go_loopg [5] k (fun kq v5 w' => ∃ (x5_1 : Int), v5 = .int .i64 x5_1 ∧ Aside0 (spec_l02Holds.l0 kq a0 a1 x5_1 = some r) ∧ Aside0 (kq ≤ k) ∧ Drawn0 w w')
 case atStart => exact ⟨(0), sr, H', ⟨Nat.le_refl _⟩, by repeat (first | exact Drawn0.refl _ | apply Drawn0.step)⟩
 case round =>
  clear H'
  try clear c1
  try clear p2
  obtain ⟨x5_1, rfl, HA, HK1, ⟨m1, rfl⟩⟩ := hrel
  cases gk with
  | zero => exact absurd HA.out (by simp [spec_l02Holds.l0])
  | succ k1 =>
   have H := HA.out
   clear HA
   simp only [spec_l02Holds.l0] at H
   by_cases c3 : x5_1 < (a0.size : Int)
   ·rw [if_pos c3] at H
    have c3b0 := decide_eq_true c3
    clear c3
    by_cases c4 : 0 ≤ x5_1
    ·rw [if_pos c4] at H
     have c4b0 := decide_eq_true c4
     clear c4
     by_cases c6 : (bt a0 x5_1) = a1
     ·rw [if_pos c6] at H
      have c6b0 : ((bt a0 x5_1) == a1) = true := beq_iff_eq.mpr c6
      have c6b1 : ((bt a0 x5_1) != a1) = false := bne_eq_false_iff_eq.mpr c6
      clear c6
      obtain rfl := Option.some.inj H
      have p5 : 0 ≤ (x5_1 : Int) := of_decide_eq_true (by first | (with_reducible assumption) | assumption)
      have q5 : x5_1 < (a0.size : Int) := of_decide_eq_true (by first | (with_reducible assumption) | assumption)
      have hx5 := bt_at a0 x5_1
      replace p5 := eq_true p5
      replace q5 := eq_true q5
      go_wp2
      go_ret
      exact ⟨by first | rfl | (simp; done) | (simp [*]; done), by repeat (first | exact Drawn0.refl _ | apply Drawn0.step)⟩
     rw [if_neg c6] at H
     have c6b0 : ((bt a0 x5_1) == a1) = false := beq_eq_false_iff_ne.mpr c6
     have c6b1 : ((bt a0 x5_1) != a1) = true := bne_iff_ne.mpr c6
     have H' := Aside0.mk H
     clear H
     have p5 : 0 ≤ (x5_1 : Int) := of_decide_eq_true (by first | (with_reducible assumption) | assumption)
     have q5 : x5_1 < (a0.size : Int) := of_decide_eq_true (by first | (with_reducible assumption) | assumption)
     have hx5 := bt_at a0 x5_1
     replace p5 := eq_true p5
     replace q5 := eq_true q5
     go_wp2
     go_roundg k1
     case measure => have := HK1.out; omega
     case rel => exact ⟨(wrap64 (x5_1 + 1)), sr, H', ⟨by have := HK1.out; omega⟩, by repeat (first | exact Drawn0.refl _ | apply Drawn0.step)⟩
    rw [if_neg c4] at H
    exact absurd H (by simp)
   rw [if_neg c3] at H
   have c3b0 := decide_eq_false c3
   clear c3
   obtain rfl := Option.some.inj H
   go_wp2
   go_ret
   exact ⟨by first | rfl | (simp; done) | (simp [*]; done), by repeat (first | exact Drawn0.refl _ | apply Drawn0.step)⟩

/-! ### spec_CanQuote: function 101 -/
def spec_CanQuote.f (k : Nat) (a0 : ByteArray) : Option (Bool) := if (a0.size : Int) ≤ 200 then ((spec_l01Printable.f k a0 false).bind fun t126 => (if t126 = true then ((spec_l02Holds.f k a0 39).bind fun t127 => (if t127 = true then ((spec_l02Holds.f k a0 34).bind fun t128 => (some (!t128))) else (some (!false)))) else (some false))) else (some false)
set_option maxHeartbeats 8000000 in
set_option maxRecDepth 100000 in
theorem spec_CanQuote.calls (k : Nat) (a0 : ByteArray) (r : Bool) (w : World) (h : spec_CanQuote.f k a0 = some r) :
  Calls Try.prog 101 #[.string a0] w fun e w' => e = .returned (.bool r) ∧ Drawn0 w w' := by
 have H : (if (a0.size : Int) ≤ 200 then ((spec_l01Printable.f k a0 false).bind fun t126 => (if t126 = true then ((spec_l02Holds.f k a0 39).bind fun t127 => (if t127 = true then ((spec_l02Holds.f k a0 34).bind fun t128 => (some (!t128))) else (some (!false)))) else (some false))) else (some false)) = some r := h
 clear h
 by_cases c2 : (a0.size : Int) ≤ 200
 ·rw [if_pos c2] at H
  have c2b0 := decide_eq_true c2
  have c2b1 : decide (a0.size ≤ 200) = true := decide_eq_true (by omega)
  clear c2
  obtain ⟨t126, A3, H⟩ := sO H
  by_cases c4 : t126 = true
  ·subst c4
   rewrite [if_pos rfl] at H
   obtain ⟨t127, A5, H⟩ := sO H
   by_cases c6 : t127 = true
   ·subst c6
    rewrite [if_pos rfl] at H
    obtain ⟨t128, A7, H⟩ := sO H
    obtain rfl := Option.some.inj H
    go_enter Try.func101, Try.ntmps101
    go_wp2_with (first | (go_at_call 143; (with_reducible refine (spec_l01Printable.calls k a0 false true _ A3.out).mono ?_); rintro e w' ⟨rfl, ⟨nd, rfl⟩⟩) | (go_at_call 144; (with_reducible refine (spec_l02Holds.calls k a0 39 true _ A5.out).mono ?_); rintro e w' ⟨rfl, ⟨nd, rfl⟩⟩) | (go_at_call 144; (with_reducible refine (spec_l02Holds.calls k a0 34 t128 _ A7.out).mono ?_); rintro e w' ⟨rfl, ⟨nd, rfl⟩⟩))
    go_ret
    exact ⟨by first | rfl | (simp; done) | (simp [*]; done), by repeat (first | exact Drawn0.refl _ | apply Drawn0.step)⟩
   replace c6 := Bool.eq_false_iff.mpr c6
   subst c6
   rewrite [if_neg (show ¬ (false = true) by decide)] at H
   obtain rfl := Option.some.inj H
   go_enter Try.func101, Try.ntmps101
   go_wp2_with (first | (go_at_call 143; (with_reducible refine (spec_l01Printable.calls k a0 false true _ A3.out).mono ?_); rintro e w' ⟨rfl, ⟨nd, rfl⟩⟩) | (go_at_call 144; (with_reducible refine (spec_l02Holds.calls k a0 39 false _ A5.out).mono ?_); rintro e w' ⟨rfl, ⟨nd, rfl⟩⟩))
   go_ret
   exact ⟨by first | rfl | (simp; done) | (simp [*]; done), by repeat (first | exact Drawn0.refl _ | apply Drawn0.step)⟩
  replace c4 := Bool.eq_false_iff.mpr c4
  subst c4
  rewrite [if_neg (show ¬ (false = true) by decide)] at H
  obtain rfl := Option.some.inj H
  go_enter Try.func101, Try.ntmps101
  go_wp2_with (first | (go_at_call 143; (with_reducible refine (spec_l01Printable.calls k a0 false false _ A3.out).mono ?_); rintro e w' ⟨rfl, ⟨nd, rfl⟩⟩))
  go_ret
  exact ⟨by first | rfl | (simp; done) | (simp [*]; done), by repeat (first | exact Drawn0.refl _ | apply Drawn0.step)⟩
 rw [if_neg c2] at H
 have c2b0 := decide_eq_false c2
 have c2b1 : decide (a0.size ≤ 200) = false := decide_eq_false (by omega)
 clear c2
 obtain rfl := Option.some.inj H
 go_enter Try.func101, Try.ntmps101
 go_wp2
 go_ret
 exact ⟨by first | rfl | (simp; done) | (simp [*]; done), by repeat (first | exact Drawn0.refl _ | apply Drawn0.step)⟩

/-! ### impl_Expr_hasFields: function 118 -/
mutual
def impl_Expr_hasFields.j0 : Nat → Int → Bool → Int → Int → ByteArray → List (S26) → Option (Bool)
 | 0, _, _, _, _, _, _ => none
 | k + 1, x3, x39, x254000, x254001, x254002, x254003 => if x39 = true then (if x3 = 0 then (if x254001 = 0 then ((impl_IsName.f k x254002).bind fun t257 => (some t257)) else (some false)) else (some false)) else (if x254000 = 4 then (if x3 ≤ 6 then (if x254001 = 0 then ((impl_IsName.f k x254002).bind fun t258 => (some t258)) else (some false)) else (some false)) else (if x254001 = 0 then (impl_Expr_hasFields.j1 k x3 (!x254002.toList.isEmpty) x254000 x254001 x254002 x254003) else (impl_Expr_hasFields.j1 k x3 true x254000 x254001 x254002 x254003)))
def impl_Expr_hasFields.j1 : Nat → Int → Bool → Int → Int → ByteArray → List (S26) → Option (Bool)
 | 0, _, _, _, _, _, _ => none
 | k + 1, x3, x83, x254000, x254001, x254002, x254003 => if x83 = true then (some false) else (if x254000 = 12 then (impl_Expr_hasFields.j2 k x3 x254000 (x254000 == 12) x254000 x254001 x254002 x254003) else (impl_Expr_hasFields.j2 k x3 x254000 (x254000 == 13) x254000 x254001 x254002 x254003))
def impl_Expr_hasFields.j2 : Nat → Int → Int → Bool → Int → Int → ByteArray → List (S26) → Option (Bool)
 | 0, _, _, _, _, _, _, _ => none
 | k + 1, x3, x85, x86, x254000, x254001, x254002, x254003 => if x86 = true then (if x3 = 2 then (if 1 < (x254003.length : Int) then (some (((rd_T26 x254003 1).f0) == 3)) else (none)) else (some false)) else (if x85 = 14 then (some (x3 == 1)) else (if x85 = 15 then (some (x3 == 1)) else (if x3 = 2 then (if x254000 = 5 then (some true) else ((impl_isBinary.f x254000).bind fun t260 => (some t260))) else (some false))))
end
def impl_Expr_hasFields.f (k : Nat) (a0_0 : Int) (a0_1 : Int) (a0_2 : ByteArray) (l0_3 : List (S26)) : Option (Bool) := if a0_0 = 1 then (if (l0_3.length : Int) = 0 then (if a0_1 = 0 then ((impl_CanQuote.f k a0_2).bind fun t254 => (some t254)) else (some false)) else (some false)) else (if a0_0 = 2 then (if (l0_3.length : Int) = 0 then (if a0_2.toList = ([] : List UInt8) then ((impl_isNumber.f a0_1).bind fun t255 => (some t255)) else (some false)) else (some false)) else (if a0_0 = 3 then (impl_Expr_hasFields.j0 k (l0_3.length : Int) true a0_0 a0_1 a0_2 l0_3) else ((impl_isNamed.f a0_0).bind fun t256 => (impl_Expr_hasFields.j0 k (l0_3.length : Int) t256 a0_0 a0_1 a0_2 l0_3))))
set_option maxHeartbeats 8000000 in
set_option maxRecDepth 100000 in
theorem impl_Expr_hasFields.calls (k : Nat) (a0_0 : Int) (a0_1 : Int) (a0_2 : ByteArray) (A0_3 : Option Addr) (c0_3 : Nat) (l0_3 : List (S26)) (r : Bool) (w : World) (hr0_3 : Kd.C k26 w A0_3 l0_3.length l0_3) (hc0_3 : l0_3.length ≤ c0_3) (h : impl_Expr_hasFields.f k a0_0 a0_1 a0_2 l0_3 = some r) :
  Calls Try.prog 118 #[.agg #[.int .i64 a0_0, .int .i64 a0_1, .string a0_2, .slice A0_3 l0_3.length c0_3]] w fun e w' => e = .returned (.bool r) ∧ Below w.heap.size w w' := by
 have hu26 := Try.underlying26
 have HR0_3 := Aside0.mk hr0_3
 have HC0_3 := Aside0.mk hc0_3
 clear hr0_3 hc0_3
 have HB := Aside0.mk (Below.refl w.heap.size w)
 have H : (if a0_0 = 1 then (if (l0_3.length : Int) = 0 then (if a0_1 = 0 then ((impl_CanQuote.f k a0_2).bind fun t254 => (some t254)) else (some false)) else (some false)) else (if a0_0 = 2 then (if (l0_3.length : Int) = 0 then (if a0_2.toList = ([] : List UInt8) then ((impl_isNumber.f a0_1).bind fun t255 => (some t255)) else (some false)) else (some false)) else (if a0_0 = 3 then (impl_Expr_hasFields.j0 k (l0_3.length : Int) true a0_0 a0_1 a0_2 l0_3) else ((impl_isNamed.f a0_0).bind fun t256 => (impl_Expr_hasFields.j0 k (l0_3.length : Int) t256 a0_0 a0_1 a0_2 l0_3))))) = some r := h
 clear h
 by_cases c2 : a0_0 = 1
 ·rw [if_pos c2] at H
  have c2b0 : (a0_0 == 1) = true := beq_iff_eq.mpr c2
  have c2b1 : (a0_0 != 1) = false := bne_eq_false_iff_eq.mpr c2
  clear c2
  by_cases c3 : (l0_3.length : Int) = 0
  ·rw [if_pos c3] at H
   have c3b0 : ((l0_3.length : Int) == 0) = true := beq_iff_eq.mpr c3
   have c3b1 : ((l0_3.length : Int) != 0) = false := bne_eq_false_iff_eq.mpr c3
   clear c3
   by_cases c4 : a0_1 = 0
   ·rw [if_pos c4] at H
    have c4b0 : (a0_1 == 0) = true := beq_iff_eq.mpr c4
    have c4b1 : (a0_1 != 0) = false := bne_eq_false_iff_eq.mpr c4
    clear c4
    obtain ⟨t254, A5, H⟩ := sO H
    obtain rfl := Option.some.inj H
    go_enter Try.func118, Try.ntmps118
    go_wp2_with (first | ((with_reducible refine gate_dst (N := 1) rfl ?_); refine sV (N := 1) (cs := #[.int .i64 a0_0, .int .i64 a0_1, .string a0_2, .slice A0_3 l0_3.length c0_3]) (t := 26) ?_; intro gb253 hg w6 hbox hb; have n0_ := sB HB hb; have n1_ := Aside0.mk (hbox); have n2_ := sG HB hg; have n3_ := sG HB hg; clear HB; have HB := n0_; have BK253 := n1_; have GW253 := n2_; have GE253 := n3_; clear n0_ n1_ n2_ n3_; clear hb hbox hg; obtain ⟨hcz7_0, hcz7_1, hcz7_2, hcz7_3, hfz7_0, hfz7_1, hfz7_2, hfz7_3⟩ := cells4 BK253.out) | (go_at_call 112; (with_reducible refine (impl_CanQuote.calls k a0_2 t254 _ A5.out).mono ?_); rintro e w8 ⟨rfl, hb⟩; have n0_ := sK BK253 hb; have n1_ := sB HB hb; clear BK253; clear HB; have BK253 := n0_; have HB := n1_; clear n0_ n1_; (try clear hb); (try clear hb2); (try clear hk); (try clear hi)))
    go_ret
    exact ⟨sq, sb⟩
   rw [if_neg c4] at H
   have c4b0 : (a0_1 == 0) = false := beq_eq_false_iff_ne.mpr c4
   have c4b1 : (a0_1 != 0) = true := bne_iff_ne.mpr c4
   obtain rfl := Option.some.inj H
   go_enter Try.func118, Try.ntmps118
   go_wp2_with (first | ((with_reducible refine gate_dst (N := 1) rfl ?_); refine sV (N := 1) (cs := #[.int .i64 a0_0, .int .i64 a0_1, .string a0_2, .slice A0_3 l0_3.length c0_3]) (t := 26) ?_; intro gb253 hg w9 hbox hb; have n0_ := sB HB hb; have n1_ := Aside0.mk (hbox); have n2_ := sG HB hg; have n3_ := sG HB hg; clear HB; have HB := n0_; have BK253 := n1_; have GW253 := n2_; have GE253 := n3_; clear n0_ n1_ n2_ n3_; clear hb hbox hg; obtain ⟨hcz10_0, hcz10_1, hcz10_2, hcz10_3, hfz10_0, hfz10_1, hfz10_2, hfz10_3⟩ := cells4 BK253.out))
   go_ret
   exact ⟨sq, sb⟩
  rw [if_neg c3] at H
  have c3b0 : ((l0_3.length : Int) == 0) = false := beq_eq_false_iff_ne.mpr c3
  have c3b1 : ((l0_3.length : Int) != 0) = true := bne_iff_ne.mpr c3
  have c3b2 : ¬ (l0_3 = []) := fun h_ => c3 (by rw [h_]; rfl)
  obtain rfl := Option.some.inj H
  go_enter Try.func118, Try.ntmps118
  go_wp2_with (first | ((with_reducible refine gate_dst (N := 1) rfl ?_); refine sV (N := 1) (cs := #[.int .i64 a0_0, .int .i64 a0_1, .string a0_2, .slice A0_3 l0_3.length c0_3]) (t := 26) ?_; intro gb253 hg w11 hbox hb; have n0_ := sB HB hb; have n1_ := Aside0.mk (hbox); have n2_ := sG HB hg; have n3_ := sG HB hg; clear HB; have HB := n0_; have BK253 := n1_; have GW253 := n2_; have GE253 := n3_; clear n0_ n1_ n2_ n3_; clear hb hbox hg; obtain ⟨hcz12_0, hcz12_1, hcz12_2, hcz12_3, hfz12_0, hfz12_1, hfz12_2, hfz12_3⟩ := cells4 BK253.out))
  go_ret
  exact ⟨sq, sb⟩
 rw [if_neg c2] at H
 have c2b0 : (a0_0 == 1) = false := beq_eq_false_iff_ne.mpr c2
 have c2b1 : (a0_0 != 1) = true := bne_iff_ne.mpr c2
 by_cases c13 : a0_0 = 2
 ·rw [if_pos c13] at H
  have c13b0 : (a0_0 == 2) = true := beq_iff_eq.mpr c13
  have c13b1 : (a0_0 != 2) = false := bne_eq_false_iff_eq.mpr c13
  clear c13
  by_cases c14 : (l0_3.length : Int) = 0
  ·rw [if_pos c14] at H
   have c14b0 : ((l0_3.length : Int) == 0) = true := beq_iff_eq.mpr c14
   have c14b1 : ((l0_3.length : Int) != 0) = false := bne_eq_false_iff_eq.mpr c14
   clear c14
   by_cases c15 : a0_2.toList = ([] : List UInt8)
   ·rw [if_pos c15] at H
    have c15b0 : (a0_2.toList == ([] : List UInt8)) = true := beq_iff_eq.mpr c15
    have c15b1 : (a0_2.toList != ([] : List UInt8)) = false := bne_eq_false_iff_eq.mpr c15
    have c15b2 : a0_2.toList.isEmpty = true := by simpa using c15
    clear c15
    obtain ⟨t255, A16, H⟩ := sO H
    obtain rfl := Option.some.inj H
    go_enter Try.func118, Try.ntmps118
    go_wp2_with (first | ((with_reducible refine gate_dst (N := 1) rfl ?_); refine sV (N := 1) (cs := #[.int .i64 a0_0, .int .i64 a0_1, .string a0_2, .slice A0_3 l0_3.length c0_3]) (t := 26) ?_; intro gb253 hg w17 hbox hb; have n0_ := sB HB hb; have n1_ := Aside0.mk (hbox); have n2_ := sG HB hg; have n3_ := sG HB hg; clear HB; have HB := n0_; have BK253 := n1_; have GW253 := n2_; have GE253 := n3_; clear n0_ n1_ n2_ n3_; clear hb hbox hg; obtain ⟨hcz18_0, hcz18_1, hcz18_2, hcz18_3, hfz18_0, hfz18_1, hfz18_2, hfz18_3⟩ := cells4 BK253.out) | (go_at_call 111; (with_reducible refine (impl_isNumber.calls a0_1 t255 _ A16.out).mono ?_); rintro e w' ⟨rfl, ⟨nd, rfl⟩⟩))
    go_ret
    exact ⟨sq, sb⟩
   rw [if_neg c15] at H
   have c15b0 : (a0_2.toList == ([] : List UInt8)) = false := beq_eq_false_iff_ne.mpr c15
   have c15b1 : (a0_2.toList != ([] : List UInt8)) = true := bne_iff_ne.mpr c15
   have c15b2 : a0_2.toList.isEmpty = false := by simpa using c15
   obtain rfl := Option.some.inj H
   go_enter Try.func118, Try.ntmps118
   go_wp2_with (first | ((with_reducible refine gate_dst (N := 1) rfl ?_); refine sV (N := 1) (cs := #[.int .i64 a0_0, .int .i64 a0_1, .string a0_2, .slice A0_3 l0_3.length c0_3]) (t := 26) ?_; intro gb253 hg w19 hbox hb; have n0_ := sB HB hb; have n1_ := Aside0.mk (hbox); have n2_ := sG HB hg; have n3_ := sG HB hg; clear HB; have HB := n0_; have BK253 := n1_; have GW253 := n2_; have GE253 := n3_; clear n0_ n1_ n2_ n3_; clear hb hbox hg; obtain ⟨hcz20_0, hcz20_1, hcz20_2, hcz20_3, hfz20_0, hfz20_1, hfz20_2, hfz20_3⟩ := cells4 BK253.out))
   go_ret
   exact ⟨sq, sb⟩
  rw [if_neg c14] at H
  have c14b0 : ((l0_3.length : Int) == 0) = false := beq_eq_false_iff_ne.mpr c14
  have c14b1 : ((l0_3.length : Int) != 0) = true := bne_iff_ne.mpr c14
  have c14b2 : ¬ (l0_3 = []) := fun h_ => c14 (by rw [h_]; rfl)
  obtain rfl := Option.some.inj H
  go_enter Try.func118, Try.ntmps118
  go_wp2_with (first | ((with_reducible refine gate_dst (N := 1) rfl ?_); refine sV (N := 1) (cs := #[.int .i64 a0_0, .int .i64 a0_1, .string a0_2, .slice A0_3 l0_3.length c0_3]) (t := 26) ?_; intro gb253 hg w21 hbox hb; have n0_ := sB HB hb; have n1_ := Aside0.mk (hbox); have n2_ := sG HB hg; have n3_ := sG HB hg; clear HB; have HB := n0_; have BK253 := n1_; have GW253 := n2_; have GE253 := n3_; clear n0_ n1_ n2_ n3_; clear hb hbox hg; obtain ⟨hcz22_0, hcz22_1, hcz22_2, hcz22_3, hfz22_0, hfz22_1, hfz22_2, hfz22_3⟩ := cells4 BK253.out))
  go_ret
  exact ⟨sq, sb⟩
 rw [if_neg c13] at H
 have c13b0 : (a0_0 == 2) = false := beq_eq_false_iff_ne.mpr c13
 have c13b1 : (a0_0 != 2) = true := bne_iff_ne.mpr c13
 have HC23 := Aside0.mk H
 clear H
 go_enter Try.func118, Try.ntmps118
 go_upto_region 6 with (first | ((with_reducible refine gate_dst (N := 1) rfl ?_); refine sV (N := 1) (cs := #[.int .i64 a0_0, .int .i64 a0_1, .string a0_2, .slice A0_3 l0_3.length c0_3]) (t := 26) ?_; intro gb253 hg w24 hbox hb; have n0_ := sB HB hb; have n1_ := Aside0.mk (hbox); have n2_ := sG HB hg; have n3_ := sG HB hg; clear HB; have HB := n0_; have BK253 := n1_; have GW253 := n2_; have GE253 := n3_; clear n0_ n1_ n2_ n3_; clear hb hbox hg; obtain ⟨hcz25_0, hcz25_1, hcz25_2, hcz25_3, hfz25_0, hfz25_1, hfz25_2, hfz25_3⟩ := cells4 BK253.out))
 (try simp only [Act.put, List.setIfInBounds_toArray, List.set_cons_zero, List.set_cons_succ])
 go_cut [39] (fun v39 wc => ∃ (kq : Nat) (x39_22 : Bool), v39 = .bool x39_22 ∧ Aside0 (impl_Expr_hasFields.j0 kq (l0_3.length : Int) x39_22 a0_0 a0_1 a0_2 l0_3 = some r) ∧ Aside0 (kq ≤ k) ∧ Aside0 (wc.heap[gb253]? = some (.cells #[.int .i64 a0_0, .int .i64 a0_1, .string a0_2, (.slice A0_3 l0_3.length c0_3)] 26 (0, 0))) ∧ Aside0 (Below w.heap.size w wc))
 case first =>
  have H := HC23.out
  clear HC23
  by_cases c26 : a0_0 = 3
  ·rw [if_pos c26] at H
   have c26b0 : (a0_0 == 3) = true := beq_iff_eq.mpr c26
   have c26b1 : (a0_0 != 3) = false := bne_eq_false_iff_eq.mpr c26
   clear c26
   (first | rw [c26b0] | (simp only [i64_w, i32_w]; rw [c26b0]) | rw [c26b2] | skip)
   have H' := Aside0.mk H
   clear H
   obtain ⟨hcz27_0, hcz27_1, hcz27_2, hcz27_3, hfz27_0, hfz27_1, hfz27_2, hfz27_3⟩ := cells4 BK253.out
   go_wp2
   go_meet
   case rel => exact ⟨_, (true), sr, H', ⟨by first | omega | exact Nat.le_refl _⟩, ⟨by exact sT BK253.out⟩, ⟨sb⟩⟩
  rw [if_neg c26] at H
  have c26b0 : (a0_0 == 3) = false := beq_eq_false_iff_ne.mpr c26
  have c26b1 : (a0_0 != 3) = true := bne_iff_ne.mpr c26
  (first | rw [c26b0] | (simp only [i64_w, i32_w]; rw [c26b0]) | rw [c26b2] | skip)
  obtain ⟨t256, A28, H⟩ := sO H
  have H' := Aside0.mk H
  clear H
  obtain ⟨hcz29_0, hcz29_1, hcz29_2, hcz29_3, hfz29_0, hfz29_1, hfz29_2, hfz29_3⟩ := cells4 BK253.out
  go_wp2_with (first | (go_at_call 165; (with_reducible refine (impl_isNamed.calls a0_0 t256 _ A28.out).mono ?_); rintro e w' ⟨rfl, ⟨nd, rfl⟩⟩))
  go_meet
  case rel => exact ⟨_, (t256), sr, H', ⟨by first | omega | exact Nat.le_refl _⟩, ⟨by exact sT BK253.out⟩, ⟨sb⟩⟩
 case rest =>
  clear HC23
  try clear c1
  try clear c2
  try clear c2b0
  try clear c2b1
  try clear p2
  try clear c3
  try clear c3b0
  try clear c3b1
  try clear c3b2
  try clear c4
  try clear c4b0
  try clear c4b1
  try clear c11
  try clear c13
  try clear c13b0
  try clear c13b1
  try clear c14
  try clear c14b0
  try clear c14b1
  try clear c14b2
  try clear c15
  try clear c15b0
  try clear c15b1
  try clear c15b2
  try clear c26
  try clear c26b0
  try clear c26b1
  try clear c26b2
  try clear hcz10_0
  try clear hcz10_1
  try clear hcz10_2
  try clear hcz10_3
  try clear hcz12_0
  try clear hcz12_1
  try clear hcz12_2
  try clear hcz12_3
  try clear hcz18_0
  try clear hcz18_1
  try clear hcz18_2
  try clear hcz18_3
  try clear hcz20_0
  try clear hcz20_1
  try clear hcz20_2
  try clear hcz20_3
  try clear hcz22_0
  try clear hcz22_1
  try clear hcz22_2
  try clear hcz22_3
  try clear hcz25_0
  try clear hcz25_1
  try clear hcz25_2
  try clear hcz25_3
  try clear hcz27_0
  try clear hcz27_1
  try clear hcz27_2
  try clear hcz27_3
  try clear hcz29_0
  try clear hcz29_1
  try clear hcz29_2
  try clear hcz29_3
  try clear hcz7_0
  try clear hcz7_1
  try clear hcz7_2
  try clear hcz7_3
  try clear hfz10_0
  try clear hfz10_1
  try clear hfz10_2
  try clear hfz10_3
  try clear hfz12_0
  try clear hfz12_1
  try clear hfz12_2
  try clear hfz12_3
  try clear hfz18_0
  try clear hfz18_1
  try clear hfz18_2
  try clear hfz18_3
  try clear hfz20_0
  try clear hfz20_1
  try clear hfz20_2
  try clear hfz20_3
  try clear hfz22_0
  try clear hfz22_1
  try clear hfz22_2
  try clear hfz22_3
  try clear hfz25_0
  try clear hfz25_1
  try clear hfz25_2
  try clear hfz25_3
  try clear hfz27_0
  try clear hfz27_1
  try clear hfz27_2
  try clear hfz27_3
  try clear hfz29_0
  try clear hfz29_1
  try clear hfz29_2
  try clear hfz29_3
  try clear hfz7_0
  try clear hfz7_1
  try clear hfz7_2
  try clear hfz7_3
  obtain ⟨kq, x39_22, rfl, HA, HJ22, BK253, HB⟩ := hcut
  cases kq with
  | zero => exact absurd HA.out (by simp [impl_Expr_hasFields.j0])
  | succ kj22 =>
   have H := HA.out
   clear HA
   simp only [impl_Expr_hasFields.j0] at H
   by_cases c30 : x39_22 = true
   ·subst c30
    rewrite [if_pos rfl] at H
    by_cases c31 : (l0_3.length : Int) = 0
    ·rw [if_pos c31] at H
     have c31b0 : ((l0_3.length : Int) == 0) = true := beq_iff_eq.mpr c31
     have c31b1 : ((l0_3.length : Int) != 0) = false := bne_eq_false_iff_eq.mpr c31
     clear c31
     by_cases c32 : a0_1 = 0
     ·rw [if_pos c32] at H
      have c32b0 : (a0_1 == 0) = true := beq_iff_eq.mpr c32
      have c32b1 : (a0_1 != 0) = false := bne_eq_false_iff_eq.mpr c32
      clear c32
      obtain ⟨t257, A33, H⟩ := sO H
      obtain rfl := Option.some.inj H
      obtain ⟨hcz34_0, hcz34_1, hcz34_2, hcz34_3, hfz34_0, hfz34_1, hfz34_2, hfz34_3⟩ := cells4 BK253.out
      go_wp2_with (first | (go_at_call 110; (with_reducible refine (impl_IsName.calls kj22 a0_2 t257 _ A33.out).mono ?_); rintro e w35 ⟨rfl, hb⟩; have n0_ := sK BK253 hb; have n1_ := sB HB hb; clear BK253; clear HB; have BK253 := n0_; have HB := n1_; clear n0_ n1_; (try clear hb); (try clear hb2); (try clear hk); (try clear hi)))
      go_ret
      exact ⟨sq, sb⟩
     rw [if_neg c32] at H
     have c32b0 : (a0_1 == 0) = false := beq_eq_false_iff_ne.mpr c32
     have c32b1 : (a0_1 != 0) = true := bne_iff_ne.mpr c32
     obtain rfl := Option.some.inj H
     obtain ⟨hcz36_0, hcz36_1, hcz36_2, hcz36_3, hfz36_0, hfz36_1, hfz36_2, hfz36_3⟩ := cells4 BK253.out
     go_wp2
     go_ret
     exact ⟨sq, sb⟩
    rw [if_neg c31] at H
    have c31b0 : ((l0_3.length : Int) == 0) = false := beq_eq_false_iff_ne.mpr c31
    have c31b1 : ((l0_3.length : Int) != 0) = true := bne_iff_ne.mpr c31
    have c31b2 : ¬ (l0_3 = []) := fun h_ => c31 (by rw [h_]; rfl)
    obtain rfl := Option.some.inj H
    go_wp2
    go_ret
    exact ⟨sq, sb⟩
   replace c30 := Bool.eq_false_iff.mpr c30
   subst c30
   rewrite [if_neg (show ¬ (false = true) by decide)] at H
   by_cases c37 : a0_0 = 4
   ·rw [if_pos c37] at H
    have c37b0 : (a0_0 == 4) = true := beq_iff_eq.mpr c37
    have c37b1 : (a0_0 != 4) = false := bne_eq_false_iff_eq.mpr c37
    clear c37
    by_cases c38 : (l0_3.length : Int) ≤ 6
    ·rw [if_pos c38] at H
     have c38b0 := decide_eq_true c38
     have c38b1 : decide (l0_3.length ≤ 6) = true := decide_eq_true (by omega)
     clear c38
     by_cases c39 : a0_1 = 0
     ·rw [if_pos c39] at H
      have c39b0 : (a0_1 == 0) = true := beq_iff_eq.mpr c39
      have c39b1 : (a0_1 != 0) = false := bne_eq_false_iff_eq.mpr c39
      clear c39
      obtain ⟨t258, A40, H⟩ := sO H
      obtain rfl := Option.some.inj H
      obtain ⟨hcz41_0, hcz41_1, hcz41_2, hcz41_3, hfz41_0, hfz41_1, hfz41_2, hfz41_3⟩ := cells4 BK253.out
      go_wp2_with (first | (go_at_call 110; (with_reducible refine (impl_IsName.calls kj22 a0_2 t258 _ A40.out).mono ?_); rintro e w42 ⟨rfl, hb⟩; have n0_ := sK BK253 hb; have n1_ := sB HB hb; clear BK253; clear HB; have BK253 := n0_; have HB := n1_; clear n0_ n1_; (try clear hb); (try clear hb2); (try clear hk); (try clear hi)))
      go_ret
      exact ⟨sq, sb⟩
     rw [if_neg c39] at H
     have c39b0 : (a0_1 == 0) = false := beq_eq_false_iff_ne.mpr c39
     have c39b1 : (a0_1 != 0) = true := bne_iff_ne.mpr c39
     obtain rfl := Option.some.inj H
     obtain ⟨hcz43_0, hcz43_1, hcz43_2, hcz43_3, hfz43_0, hfz43_1, hfz43_2, hfz43_3⟩ := cells4 BK253.out
     go_wp2
     go_ret
     exact ⟨sq, sb⟩
    rw [if_neg c38] at H
    have c38b0 := decide_eq_false c38
    have c38b1 : decide (l0_3.length ≤ 6) = false := decide_eq_false (by omega)
    clear c38
    obtain rfl := Option.some.inj H
    obtain ⟨hcz44_0, hcz44_1, hcz44_2, hcz44_3, hfz44_0, hfz44_1, hfz44_2, hfz44_3⟩ := cells4 BK253.out
    go_wp2
    go_ret
    exact ⟨sq, sb⟩
   rw [if_neg c37] at H
   have c37b0 : (a0_0 == 4) = false := beq_eq_false_iff_ne.mpr c37
   have c37b1 : (a0_0 != 4) = true := bne_iff_ne.mpr c37
   have HC45 := Aside0.mk H
   clear H
   obtain ⟨hcz46_0, hcz46_1, hcz46_2, hcz46_3, hfz46_0, hfz46_1, hfz46_2, hfz46_3⟩ := cells4 BK253.out
   go_upto_region 10 with (fail)
   go_cut [83] (fun v83 wc => ∃ (kq : Nat) (x83_44 : Bool), v83 = .bool x83_44 ∧ Aside0 (impl_Expr_hasFields.j1 kq (l0_3.length : Int) x83_44 a0_0 a0_1 a0_2 l0_3 = some r) ∧ Aside0 (kq ≤ kj22) ∧ Aside0 (wc.heap[gb253]? = some (.cells #[.int .i64 a0_0, .int .i64 a0_1, .string a0_2, (.slice A0_3 l0_3.length c0_3)] 26 (0, 0))) ∧ Aside0 (Below w.heap.size w wc))
   case first =>
    have H := HC45.out
    clear HC45
    by_cases c47 : a0_1 = 0
    ·rw [if_pos c47] at H
     have c47b0 : (a0_1 == 0) = true := beq_iff_eq.mpr c47
     have c47b1 : (a0_1 != 0) = false := bne_eq_false_iff_eq.mpr c47
     clear c47
     (first | rw [c47b0] | (simp only [i64_w, i32_w]; rw [c47b0]) | rw [c47b2] | skip)
     have H' := Aside0.mk H
     clear H
     obtain ⟨hcz48_0, hcz48_1, hcz48_2, hcz48_3, hfz48_0, hfz48_1, hfz48_2, hfz48_3⟩ := cells4 BK253.out
     go_wp2
     go_meet
     case rel => exact ⟨_, ((!a0_2.toList.isEmpty)), sr, H', ⟨by have := HJ22.out; first | omega | exact Nat.le_refl _⟩, ⟨by exact sT BK253.out⟩, ⟨sb⟩⟩
    rw [if_neg c47] at H
    have c47b0 : (a0_1 == 0) = false := beq_eq_false_iff_ne.mpr c47
    have c47b1 : (a0_1 != 0) = true := bne_iff_ne.mpr c47
    (first | rw [c47b0] | (simp only [i64_w, i32_w]; rw [c47b0]) | rw [c47b2] | skip)
    have H' := Aside0.mk H
    clear H
    obtain ⟨hcz49_0, hcz49_1, hcz49_2, hcz49_3, hfz49_0, hfz49_1, hfz49_2, hfz49_3⟩ := cells4 BK253.out
    go_wp2
    go_meet
    case rel => exact ⟨_, (true), sr, H', ⟨by have := HJ22.out; first | omega | exact Nat.le_refl _⟩, ⟨by exact sT BK253.out⟩, ⟨sb⟩⟩
   case rest =>
    clear HC45
    try clear c1
    try clear c2
    try clear c2b0
    try clear c2b1
    try clear p2
    try clear c3
    try clear c3b0
    try clear c3b1
    try clear c3b2
    try clear c4
    try clear c4b0
    try clear c4b1
    try clear c11
    try clear c13
    try clear c13b0
    try clear c13b1
    try clear c14
    try clear c14b0
    try clear c14b1
    try clear c14b2
    try clear c15
    try clear c15b0
    try clear c15b1
    try clear c15b2
    try clear c26
    try clear c26b0
    try clear c26b1
    try clear c26b2
    try clear c30
    try clear c31
    try clear c31b0
    try clear c31b1
    try clear c31b2
    try clear c32
    try clear c32b0
    try clear c32b1
    try clear c37
    try clear c37b0
    try clear c37b1
    try clear c38
    try clear c38b0
    try clear c38b1
    try clear c39
    try clear c39b0
    try clear c39b1
    try clear c47
    try clear c47b0
    try clear c47b1
    try clear c47b2
    try clear hcz10_0
    try clear hcz10_1
    try clear hcz10_2
    try clear hcz10_3
    try clear hcz12_0
    try clear hcz12_1
    try clear hcz12_2
    try clear hcz12_3
    try clear hcz18_0
    try clear hcz18_1
    try clear hcz18_2
    try clear hcz18_3
    try clear hcz20_0
    try clear hcz20_1
    try clear hcz20_2
    try clear hcz20_3
    try clear hcz22_0
    try clear hcz22_1
    try clear hcz22_2
    try clear hcz22_3
    try clear hcz25_0
    try clear hcz25_1
    try clear hcz25_2
    try clear hcz25_3
    try clear hcz27_0
    try clear hcz27_1
    try clear hcz27_2
    try clear hcz27_3
    try clear hcz29_0
    try clear hcz29_1
    try clear hcz29_2
    try clear hcz29_3
    try clear hcz34_0
    try clear hcz34_1
    try clear hcz34_2
    try clear hcz34_3
    try clear hcz36_0
    try clear hcz36_1
    try clear hcz36_2
    try clear hcz36_3
    try clear hcz41_0
    try clear hcz41_1
    try clear hcz41_2
    try clear hcz41_3
    try clear hcz43_0
    try clear hcz43_1
    try clear hcz43_2
    try clear hcz43_3
    try clear hcz44_0
    try clear hcz44_1
    try clear hcz44_2
    try clear hcz44_3
    try clear hcz46_0
    try clear hcz46_1
    try clear hcz46_2
    try clear hcz46_3
    try clear hcz48_0
    try clear hcz48_1
    try clear hcz48_2
    try clear hcz48_3
    try clear hcz49_0
    try clear hcz49_1
    try clear hcz49_2
    try clear hcz49_3
    try clear hcz7_0
    try clear hcz7_1
    try clear hcz7_2
    try clear hcz7_3
    try clear hfz10_0
    try clear hfz10_1
    try clear hfz10_2
    try clear hfz10_3
    try clear hfz12_0
    try clear hfz12_1
    try clear hfz12_2
    try clear hfz12_3
    try clear hfz18_0
    try clear hfz18_1
    try clear hfz18_2
    try clear hfz18_3
    try clear hfz20_0
    try clear hfz20_1
    try clear hfz20_2
    try clear hfz20_3
    try clear hfz22_0
    try clear hfz22_1
    try clear hfz22_2
    try clear hfz22_3
    try clear hfz25_0
    try clear hfz25_1
    try clear hfz25_2
    try clear hfz25_3
    try clear hfz27_0
    try clear hfz27_1
    try clear hfz27_2
    try clear hfz27_3
    try clear hfz29_0
    try clear hfz29_1
    try clear hfz29_2
    try clear hfz29_3
    try clear hfz34_0
    try clear hfz34_1
    try clear hfz34_2
    try clear hfz34_3
    try clear hfz36_0
    try clear hfz36_1
    try clear hfz36_2
    try clear hfz36_3
    try clear hfz41_0
    try clear hfz41_1
    try clear hfz41_2
    try clear hfz41_3
    try clear hfz43_0
    try clear hfz43_1
    try clear hfz43_2
    try clear hfz43_3
    try clear hfz44_0
    try clear hfz44_1
    try clear hfz44_2
    try clear hfz44_3
    try clear hfz46_0
    try clear hfz46_1
    try clear hfz46_2
    try clear hfz46_3
    try clear hfz48_0
    try clear hfz48_1
    try clear hfz48_2
    try clear hfz48_3
    try clear hfz49_0
    try clear hfz49_1
    try clear hfz49_2
    try clear hfz49_3
    try clear hfz7_0
    try clear hfz7_1
    try clear hfz7_2
    try clear hfz7_3
    try clear p2
    obtain ⟨kq, x83_44, rfl, HA, HJ44, BK253, HB⟩ := hcut
    cases kq with
    | zero => exact absurd HA.out (by simp [impl_Expr_hasFields.j1])
    | succ kj44 =>
     have H := HA.out
     clear HA
     simp only [impl_Expr_hasFields.j1] at H
     by_cases c50 : x83_44 = true
     ·subst c50
      rewrite [if_pos rfl] at H
      obtain rfl := Option.some.inj H
      go_wp2
      go_ret
      exact ⟨sq, sb⟩
     replace c50 := Bool.eq_false_iff.mpr c50
     subst c50
     rewrite [if_neg (show ¬ (false = true) by decide)] at H
     have HC51 := Aside0.mk H
     clear H
     obtain ⟨hcz52_0, hcz52_1, hcz52_2, hcz52_3, hfz52_0, hfz52_1, hfz52_2, hfz52_3⟩ := cells4 BK253.out
     go_upto_if 86 with (fail)
     go_cut [86] (fun v86 wc => ∃ (kq : Nat) (x86_50 : Bool), v86 = .bool x86_50 ∧ Aside0 (impl_Expr_hasFields.j2 kq (l0_3.length : Int) a0_0 x86_50 a0_0 a0_1 a0_2 l0_3 = some r) ∧ Aside0 (kq ≤ kj44) ∧ Aside0 (wc.heap[gb253]? = some (.cells #[.int .i64 a0_0, .int .i64 a0_1, .string a0_2, (.slice A0_3 l0_3.length c0_3)] 26 (0, 0))) ∧ Aside0 (Below w.heap.size w wc))
     case first =>
      have H := HC51.out
      clear HC51
      by_cases c53 : a0_0 = 12
      ·rw [if_pos c53] at H
       have c53b0 : (a0_0 == 12) = true := beq_iff_eq.mpr c53
       have c53b1 : (a0_0 != 12) = false := bne_eq_false_iff_eq.mpr c53
       clear c53
       (first | rw [c53b0] | (simp only [i64_w, i32_w]; rw [c53b0]) | rw [c53b2] | skip)
       have H' := Aside0.mk H
       clear H
       go_wp2
       go_meet
       case rel => exact ⟨_, ((a0_0 == 12)), sr, H', ⟨by have := HJ22.out; have := HJ44.out; first | omega | exact Nat.le_refl _⟩, ⟨by exact sT BK253.out⟩, ⟨sb⟩⟩
      rw [if_neg c53] at H
      have c53b0 : (a0_0 == 12) = false := beq_eq_false_iff_ne.mpr c53
      have c53b1 : (a0_0 != 12) = true := bne_iff_ne.mpr c53
      (first | rw [c53b0] | (simp only [i64_w, i32_w]; rw [c53b0]) | rw [c53b2] | skip)
      have H' := Aside0.mk H
      clear H
      go_wp2
      go_meet
      case rel => exact ⟨_, ((a0_0 == 13)), sr, H', ⟨by have := HJ22.out; have := HJ44.out; first | omega | exact Nat.le_refl _⟩, ⟨by exact sT BK253.out⟩, ⟨sb⟩⟩
     case rest =>
      clear HC51
      try clear c1
      try clear c2
      try clear c2b0
      try clear c2b1
      try clear p2
      try clear c3
      try clear c3b0
      try clear c3b1
      try clear c3b2
      try clear c4
      try clear c4b0
      try clear c4b1
      try clear c5
      try clear c11
      try clear c13
      try clear c13b0
      try clear c13b1
      try clear c14
      try clear c14b0
      try clear c14b1
      try clear c14b2
      try clear c15
      try clear c15b0
      try clear c15b1
      try clear c15b2
      try clear c26
      try clear c26b0
      try clear c26b1
      try clear c26b2
      try clear c30
      try clear c31
      try clear c31b0
      try clear c31b1
      try clear c31b2
      try clear c32
      try clear c32b0
      try clear c32b1
      try clear c37
      try clear c37b0
      try clear c37b1
      try clear c38
      try clear c38b0
      try clear c38b1
      try clear c39
      try clear c39b0
      try clear c39b1
      try clear c47
      try clear c47b0
      try clear c47b1
      try clear c47b2
      try clear c50
      try clear c53
      try clear c53b0
      try clear c53b1
      try clear c53b2
      try clear hcz10_0
      try clear hcz10_1
      try clear hcz10_2
      try clear hcz10_3
      try clear hcz12_0
      try clear hcz12_1
      try clear hcz12_2
      try clear hcz12_3
      try clear hcz18_0
      try clear hcz18_1
      try clear hcz18_2
      try clear hcz18_3
      try clear hcz20_0
      try clear hcz20_1
      try clear hcz20_2
      try clear hcz20_3
      try clear hcz22_0
      try clear hcz22_1
      try clear hcz22_2
      try clear hcz22_3
      try clear hcz25_0
      try clear hcz25_1
      try clear hcz25_2
      try clear hcz25_3
      try clear hcz27_0
      try clear hcz27_1
      try clear hcz27_2
      try clear hcz27_3
      try clear hcz29_0
      try clear hcz29_1
      try clear hcz29_2
      try clear hcz29_3
      try clear hcz34_0
      try clear hcz34_1
      try clear hcz34_2
      try clear hcz34_3
      try clear hcz36_0
      try clear hcz36_1
      try clear hcz36_2
      try clear hcz36_3
      try clear hcz41_0
      try clear hcz41_1
      try clear hcz41_2
      try clear hcz41_3
      try clear hcz43_0
      try clear hcz43_1
      try clear hcz43_2
      try clear hcz43_3
      try clear hcz44_0
      try clear hcz44_1
      try clear hcz44_2
      try clear hcz44_3
      try clear hcz46_0
      try clear hcz46_1
      try clear hcz46_2
      try clear hcz46_3
      try clear hcz48_0
      try clear hcz48_1
      try clear hcz48_2
      try clear hcz48_3
      try clear hcz49_0
      try clear hcz49_1
      try clear hcz49_2
      try clear hcz49_3
      try clear hcz52_0
      try clear hcz52_1
      try clear hcz52_2
      try clear hcz52_3
      try clear hcz7_0
      try clear hcz7_1
      try clear hcz7_2
      try clear hcz7_3
      try clear hfz10_0
      try clear hfz10_1
      try clear hfz10_2
      try clear hfz10_3
      try clear hfz12_0
      try clear hfz12_1
      try clear hfz12_2
      try clear hfz12_3
      try clear hfz18_0
      try clear hfz18_1
      try clear hfz18_2
      try clear hfz18_3
      try clear hfz20_0
      try clear hfz20_1
      try clear hfz20_2
      try clear hfz20_3
      try clear hfz22_0
      try clear hfz22_1
      try clear hfz22_2
      try clear hfz22_3
      try clear hfz25_0
      try clear hfz25_1
      try clear hfz25_2
      try clear hfz25_3
      try clear hfz27_0
      try clear hfz27_1
      try clear hfz27_2
      try clear hfz27_3
      try clear hfz29_0
      try clear hfz29_1
      try clear hfz29_2
      try clear hfz29_3
      try clear hfz34_0
      try clear hfz34_1
      try clear hfz34_2
      try clear hfz34_3
      try clear hfz36_0
      try clear hfz36_1
      try clear hfz36_2
      try clear hfz36_3
      try clear hfz41_0
      try clear hfz41_1
      try clear hfz41_2
      try clear hfz41_3
      try clear hfz43_0
      try clear hfz43_1
      try clear hfz43_2
      try clear hfz43_3
      try clear hfz44_0
      try clear hfz44_1
      try clear hfz44_2
      try clear hfz44_3
      try clear hfz46_0
      try clear hfz46_1
      try clear hfz46_2
      try clear hfz46_3
      try clear hfz48_0
      try clear hfz48_1
      try clear hfz48_2
      try clear hfz48_3
      try clear hfz49_0
      try clear hfz49_1
      try clear hfz49_2
      try clear hfz49_3
      try clear hfz52_0
      try clear hfz52_1
      try clear hfz52_2
      try clear hfz52_3
      try clear hfz7_0
      try clear hfz7_1
      try clear hfz7_2
      try clear hfz7_3
      try clear p2
      obtain ⟨kq, x86_50, rfl, HA, HJ50, BK253, HB⟩ := hcut
      cases kq with
      | zero => exact absurd HA.out (by simp [impl_Expr_hasFields.j2])
      | succ kj50 =>
       have H := HA.out
       clear HA
       simp only [impl_Expr_hasFields.j2] at H
       by_cases c54 : x86_50 = true
       ·subst c54
        rewrite [if_pos rfl] at H
        by_cases c55 : (l0_3.length : Int) = 2
        ·rw [if_pos c55] at H
         have c55b0 : ((l0_3.length : Int) == 2) = true := beq_iff_eq.mpr c55
         have c55b1 : ((l0_3.length : Int) != 2) = false := bne_eq_false_iff_eq.mpr c55
         clear c55
         by_cases c56 : 1 < (l0_3.length : Int)
         ·rw [if_pos c56] at H
          have c56b0 := decide_eq_true c56
          have c56b1 : decide (1 < l0_3.length) = true := decide_eq_true (by omega)
          clear c56
          obtain rfl := Option.some.inj H
          obtain ⟨hcz57_0, hcz57_1, hcz57_2, hcz57_3, hfz57_0, hfz57_1, hfz57_2, hfz57_3⟩ := cells4 BK253.out
          have p259 : 0 ≤ (1 : Int) := (by omega)
          have q259 : 1 < (l0_3.length : Int) := of_decide_eq_true (by first | (with_reducible assumption) | assumption)
          obtain ⟨ad259, A259_3, c259_3, e259, hx259_0, hx259_1, hx259_2, hx259_3, hl259_3, hi259_3⟩ := at_T26 HR0_3.out 1 p259 q259
          cases e259
          (try simp only [show (1 : Int).toNat = 1 from rfl, Nat.reduceMul, Nat.reduceEqDiff, Go.Addr.add, ↓reduceIte] at hx259_0)
          (try simp only [show (1 : Int).toNat = 1 from rfl, Nat.reduceMul, Nat.reduceEqDiff, Go.Addr.add, ↓reduceIte] at hx259_1)
          (try simp only [show (1 : Int).toNat = 1 from rfl, Nat.reduceMul, Nat.reduceEqDiff, Go.Addr.add, ↓reduceIte] at hx259_2)
          (try simp only [show (1 : Int).toNat = 1 from rfl, Nat.reduceMul, Nat.reduceEqDiff, Go.Addr.add, ↓reduceIte] at hx259_3)
          have qi259 : (1 < l0_3.length) = True := eq_true (by omega)
          (try rw [show ((1 : Int)).toNat = 1 from rfl] at hx259_0)
          (try rw [show 1 * 4 = 4 from rfl] at hx259_0)
          (try rw [show ((1 : Int)).toNat = 1 from rfl] at hx259_1)
          (try rw [show 1 * 4 = 4 from rfl] at hx259_1)
          (try rw [show ((1 : Int)).toNat = 1 from rfl] at hx259_2)
          (try rw [show 1 * 4 = 4 from rfl] at hx259_2)
          (try rw [show ((1 : Int)).toNat = 1 from rfl] at hx259_3)
          (try rw [show 1 * 4 = 4 from rfl] at hx259_3)
          replace hx259_0 := sX HB hx259_0
          replace hx259_1 := sX HB hx259_1
          replace hx259_2 := sX HB hx259_2
          replace hx259_3 := sX HB hx259_3
          have HR259_3 := Aside0.mk hi259_3
          have HC259_3 := Aside0.mk hl259_3
          clear hi259_3 hl259_3
          replace p259 := eq_true p259
          replace q259 := eq_true q259
          go_wp2
          go_ret
          exact ⟨sq, sb⟩
         rw [if_neg c56] at H
         exact absurd H (by simp)
        rw [if_neg c55] at H
        have c55b0 : ((l0_3.length : Int) == 2) = false := beq_eq_false_iff_ne.mpr c55
        have c55b1 : ((l0_3.length : Int) != 2) = true := bne_iff_ne.mpr c55
        obtain rfl := Option.some.inj H
        go_wp2
        go_ret
        exact ⟨sq, sb⟩
       replace c54 := Bool.eq_false_iff.mpr c54
       subst c54
       rewrite [if_neg (show ¬ (false = true) by decide)] at H
       by_cases c58 : a0_0 = 14
       ·rw [if_pos c58] at H
        have c58b0 : (a0_0 == 14) = true := beq_iff_eq.mpr c58
        have c58b1 : (a0_0 != 14) = false := bne_eq_false_iff_eq.mpr c58
        clear c58
        obtain rfl := Option.some.inj H
        go_wp2
        go_ret
        exact ⟨sq, sb⟩
       rw [if_neg c58] at H
       have c58b0 : (a0_0 == 14) = false := beq_eq_false_iff_ne.mpr c58
       have c58b1 : (a0_0 != 14) = true := bne_iff_ne.mpr c58
       by_cases c59 : a0_0 = 15
       ·rw [if_pos c59] at H
        have c59b0 : (a0_0 == 15) = true := beq_iff_eq.mpr c59
        have c59b1 : (a0_0 != 15) = false := bne_eq_false_iff_eq.mpr c59
        clear c59
        obtain rfl := Option.some.inj H
        go_wp2
        go_ret
        exact ⟨sq, sb⟩
       rw [if_neg c59] at H
       have c59b0 : (a0_0 == 15) = false := beq_eq_false_iff_ne.mpr c59
       have c59b1 : (a0_0 != 15) = true := bne_iff_ne.mpr c59
       by_cases c60 : (l0_3.length : Int) = 2
       ·rw [if_pos c60] at H
        have c60b0 : ((l0_3.length : Int) == 2) = true := beq_iff_eq.mpr c60
        have c60b1 : ((l0_3.length : Int) != 2) = false := bne_eq_false_iff_eq.mpr c60
        clear c60
        by_cases c61 : a0_0 = 5
        ·rw [if_pos c61] at H
         have c61b0 : (a0_0 == 5) = true := beq_iff_eq.mpr c61
         have c61b1 : (a0_0 != 5) = false := bne_eq_false_iff_eq.mpr c61
         clear c61
         obtain rfl := Option.some.inj H
         obtain ⟨hcz62_0, hcz62_1, hcz62_2, hcz62_3, hfz62_0, hfz62_1, hfz62_2, hfz62_3⟩ := cells4 BK253.out
         go_wp2
         go_ret
         exact ⟨sq, sb⟩
        rw [if_neg c61] at H
        have c61b0 : (a0_0 == 5) = false := beq_eq_false_iff_ne.mpr c61
        have c61b1 : (a0_0 != 5) = true := bne_iff_ne.mpr c61
        obtain ⟨t260, A63, H⟩ := sO H
        obtain rfl := Option.some.inj H
        obtain ⟨hcz64_0, hcz64_1, hcz64_2, hcz64_3, hfz64_0, hfz64_1, hfz64_2, hfz64_3⟩ := cells4 BK253.out
        go_wp2_with (first | (go_at_call 166; (with_reducible refine (impl_isBinary.calls a0_0 t260 _ A63.out).mono ?_); rintro e w' ⟨rfl, ⟨nd, rfl⟩⟩))
        go_ret
        exact ⟨sq, sb⟩
       rw [if_neg c60] at H
       have c60b0 : ((l0_3.length : Int) == 2) = false := beq_eq_false_iff_ne.mpr c60
       have c60b1 : ((l0_3.length : Int) != 2) = true := bne_iff_ne.mpr c60
       obtain rfl := Option.some.inj H
       go_wp2
       go_ret
       exact ⟨sq, sb⟩
end Go.Proofs.Ytmebimamjgnlpaa.PFnExactCompileExpr
