/- Printed functions: spec_l03Nodes, spec_l03Ok, spec_ValidExpr, spec_CompileExpr. -/
import Derived.Test.YtmebimamjgnlpaaYCeP0
import Derived.Test.YtmebimamjgnlpaaYCeP3
import Derived.Test.YtmebimamjgnlpaaYCeP6
import Derived.Test.YtmebimamjgnlpaaYCeP8
namespace Go.Proofs.Ytmebimamjgnlpaa.PFnExactCompileExpr
open Go.RowKit Go.Proofs.YtmebimamjgnlpaaG Go.Proofs.YtmebimamjgnlpaaW.PrintWords Go.Proofs.YtmebimamjgnlpaaW.PrintLast Go.Proofs.YtmebimamjgnlpaaW.PrintMore
attribute [local go_sem] max2_int min2_int max_two min_two max_three min_three max_four min_four   -- for this text's walks alone
set_option linter.unusedVariables false
set_option linter.unusedSimpArgs false
/-! ### spec_l03Nodes: function 117 -/
mutual
def spec_l03Nodes.l0 : Nat → List (S26) → Int → Option (Bool)
 | 0, _, _ => none
 | k + 1, x0, x3 => if 0 < (x0.length : Int) then (if x3 < (((rd_T26 x0 0).f3).length : Int) then (if 0 ≤ x3 then ((spec_l03Nodes.f k [rd_T26 ((rd_T26 x0 0).f3) x3]).bind fun t158 => (if t158 = true then (spec_l03Nodes.l0 k x0 (wrap64 (x3 + 1))) else (some false))) else (none)) else (some true)) else (none)
def spec_l03Nodes.f : Nat → List (S26) → Option (Bool)
 | 0, _ => none
 | k + 1, l0 => (spec_l03Shape.f k l0).bind fun t154 => (if t154 = true then (spec_l03Nodes.l0 k l0 0) else (some false))
end
set_option maxHeartbeats 8000000 in
set_option maxRecDepth 100000 in
theorem spec_l03Nodes.calls (k : Nat) : ∀ (A0 : Option Addr) (l0 : List (S26)) (r : Bool) (w : World) (hr0 : Kd.C k26 w A0 l0.length l0) (h : spec_l03Nodes.f k l0 = some r),
  Calls Try.prog 117 #[.pointer A0] w fun e w' => e = .returned (.bool r) ∧ Drawn0 w w' := by
 induction k using Nat.strongRecOn with
 | _ k ih =>
 intro A0 l0 r w hr0 h
 cases k with
 | zero => exact absurd h (by simp [spec_l03Nodes.f])
 | succ k =>
 simp only [spec_l03Nodes.f] at h
 have HR0 := Aside0.mk hr0
 have HC0 := Aside0.mk (Nat.le_refl l0.length)
 clear hr0
 have H : ((spec_l03Shape.f k l0).bind fun t154 => (if t154 = true then (spec_l03Nodes.l0 k l0 0) else (some false))) = some r := h
 clear h
 obtain ⟨t154, A2, H⟩ := sO H
 by_cases c3 : t154 = true
 ·subst c3
  rewrite [if_pos rfl] at H
  have H' := Aside0.mk H
  clear H
  go_enter Try.func117, Try.ntmps117
  go_wp2_with (first | ((with_reducible refine gate_callee (f := 164) rfl ?_); refine sC (some 5) Try.func164 #[.pointer A0] (spec_l03Shape.calls k _ l0 true _ ?side1 A2.out) ?_; (case side1 => exact sD HR0.out); rintro e w' ⟨rfl, ⟨nd, rfl⟩⟩; refine ⟨_, rfl, ?_⟩))
  go_loopg [3] k (fun kq v3 w' => ∃ (x3_1 : Int), v3 = .int .i64 x3_1 ∧ Aside0 (spec_l03Nodes.l0 kq l0 x3_1 = some r) ∧ Aside0 (kq ≤ k) ∧ Drawn0 w w')
  case atStart => exact ⟨(0), sr, H', ⟨Nat.le_refl _⟩, by repeat (first | exact Drawn0.refl _ | apply Drawn0.step)⟩
  case round =>
   clear H'
   try clear c1
   try clear p2
   try clear c3
   obtain ⟨x3_1, rfl, HA, HK1, ⟨m1, rfl⟩⟩ := hrel
   cases gk with
   | zero => exact absurd HA.out (by simp [spec_l03Nodes.l0])
   | succ k1 =>
    have H := HA.out
    clear HA
    simp only [spec_l03Nodes.l0] at H
    by_cases c4 : 0 < (l0.length : Int)
    ·rw [if_pos c4] at H
     have c4b0 := decide_eq_true c4
     have c4b1 : decide (0 < l0.length) = true := decide_eq_true (by omega)
     clear c4
     by_cases c5 : x3_1 < (((rd_T26 l0 0).f3).length : Int)
     ·rw [if_pos c5] at H
      have c5b0 := decide_eq_true c5
      clear c5
      by_cases c6 : 0 ≤ x3_1
      ·rw [if_pos c6] at H
       have c6b0 := decide_eq_true c6
       clear c6
       obtain ⟨t158, A7, H⟩ := sO H
       by_cases c8 : t158 = true
       ·subst c8
        rewrite [if_pos rfl] at H
        have H' := Aside0.mk H
        clear H
        have p155 : 0 ≤ (0 : Int) := (by omega)
        have q155 : 0 < (l0.length : Int) := of_decide_eq_true (by first | (with_reducible assumption) | assumption)
        obtain ⟨ad155, A155_3, c155_3, e155, hx155_0, hx155_1, hx155_2, hx155_3, hl155_3, hi155_3⟩ := at_T26 HR0.out 0 p155 q155
        cases e155
        have qi155 : (0 < l0.length) = True := eq_true (by omega)
        (try rw [sZ] at hx155_0)
        (try rw [sZ] at hx155_1)
        (try rw [sZ] at hx155_2)
        (try rw [sZ] at hx155_3)
        have HR155_3 := Aside0.mk hi155_3
        have HC155_3 := Aside0.mk hl155_3
        clear hi155_3 hl155_3
        replace p155 := eq_true p155
        replace q155 := eq_true q155
        have p156 : 0 ≤ (0 : Int) := (by omega)
        have q156 : 0 < (l0.length : Int) := of_decide_eq_true (by first | (with_reducible assumption) | assumption)
        obtain ⟨ad156, A156_3, c156_3, e156, hx156_0, hx156_1, hx156_2, hx156_3, hl156_3, hi156_3⟩ := at_T26 HR0.out 0 p156 q156
        obtain rfl : ad155 = ad156 := (by injection e156)
        have qi156 : (0 < l0.length) = True := eq_true (by omega)
        (try rw [sZ] at hx156_0)
        (try rw [sZ] at hx156_1)
        (try rw [sZ] at hx156_2)
        (try rw [sZ] at hx156_3)
        have HR156_3 := Aside0.mk hi156_3
        have HC156_3 := Aside0.mk hl156_3
        clear hi156_3 hl156_3
        replace p156 := eq_true p156
        replace q156 := eq_true q156
        have ea_ := Option.some.inj (hx155_3.symm.trans hx156_3)
        injection ea_ with ea_ en_ ec_
        subst ea_
        subst ec_
        clear en_
        have p157 : 0 ≤ (x3_1 : Int) := of_decide_eq_true (by first | (with_reducible assumption) | assumption)
        have q157 : x3_1 < (((rd_T26 l0 0).f3).length : Int) := of_decide_eq_true (by first | (with_reducible assumption) | assumption)
        obtain ⟨ad157, A157_3, c157_3, e157, hx157_0, hx157_1, hx157_2, hx157_3, hl157_3, hi157_3⟩ := at_T26 HR156_3.out x3_1 p157 q157
        cases e157
        have HR157_3 := Aside0.mk hi157_3
        have HC157_3 := Aside0.mk hl157_3
        clear hi157_3 hl157_3
        replace p157 := eq_true p157
        replace q157 := eq_true q157
        go_wp2_with (first | ((with_reducible refine gate_callee (f := 117) rfl ?_); refine goesL_ (some 22) rfl rfl Try.func117 (by kernel_rfl) rfl #[.pointer (some (ad157.add ((x3_1).toNat * 4)))] rfl (by (try simp only [List.map_toArray, List.map_cons, List.map_nil]); first | done | rfl | (simp only [List.length_drop, List.length_take]; rfl)) ?_; (with_reducible refine (ih k1 (by have := HK1.out; omega) _ [rd_T26 ((rd_T26 l0 0).f3) x3_1] true _ ?side1 A7.out).mono ?_); (case side1 => first | exact (C_one (by exact sD HR156_3.out) z26 (x3_1 : Int) (of_eq_true p157) (by have h_ := q157; first | exact of_eq_true h_ | exact h_ | exact of_decide_eq_true (by assumption))) | (have h_ := (C_one (by exact sD HR156_3.out) z26 (x3_1 : Int) (of_eq_true p157) (by have h_ := q157; first | exact of_eq_true h_ | exact h_ | exact of_decide_eq_true (by assumption))); first | exact h_ | simpa using h_)); rintro e w' ⟨rfl, ⟨nd, rfl⟩⟩; refine ⟨_, rfl, ?_⟩))
        go_roundg k1
        case measure => have := HK1.out; omega
        case rel => exact ⟨(wrap64 (x3_1 + 1)), sr, H', ⟨by have := HK1.out; omega⟩, by repeat (first | exact Drawn0.refl _ | apply Drawn0.step)⟩
       replace c8 := Bool.eq_false_iff.mpr c8
       subst c8
       rewrite [if_neg (show ¬ (false = true) by decide)] at H
       obtain rfl := Option.some.inj H
       have p155 : 0 ≤ (0 : Int) := (by omega)
       have q155 : 0 < (l0.length : Int) := of_decide_eq_true (by first | (with_reducible assumption) | assumption)
       obtain ⟨ad155, A155_3, c155_3, e155, hx155_0, hx155_1, hx155_2, hx155_3, hl155_3, hi155_3⟩ := at_T26 HR0.out 0 p155 q155
       cases e155
       have qi155 : (0 < l0.length) = True := eq_true (by omega)
       (try rw [sZ] at hx155_0)
       (try rw [sZ] at hx155_1)
       (try rw [sZ] at hx155_2)
       (try rw [sZ] at hx155_3)
       have HR155_3 := Aside0.mk hi155_3
       have HC155_3 := Aside0.mk hl155_3
       clear hi155_3 hl155_3
       replace p155 := eq_true p155
       replace q155 := eq_true q155
       have p156 : 0 ≤ (0 : Int) := (by omega)
       have q156 : 0 < (l0.length : Int) := of_decide_eq_true (by first | (with_reducible assumption) | assumption)
       obtain ⟨ad156, A156_3, c156_3, e156, hx156_0, hx156_1, hx156_2, hx156_3, hl156_3, hi156_3⟩ := at_T26 HR0.out 0 p156 q156
       obtain rfl : ad155 = ad156 := (by injection e156)
       have qi156 : (0 < l0.length) = True := eq_true (by omega)
       (try rw [sZ] at hx156_0)
       (try rw [sZ] at hx156_1)
       (try rw [sZ] at hx156_2)
       (try rw [sZ] at hx156_3)
       have HR156_3 := Aside0.mk hi156_3
       have HC156_3 := Aside0.mk hl156_3
       clear hi156_3 hl156_3
       replace p156 := eq_true p156
       replace q156 := eq_true q156
       have ea_ := Option.some.inj (hx155_3.symm.trans hx156_3)
       injection ea_ with ea_ en_ ec_
       subst ea_
       subst ec_
       clear en_
       have p157 : 0 ≤ (x3_1 : Int) := of_decide_eq_true (by first | (with_reducible assumption) | assumption)
       have q157 : x3_1 < (((rd_T26 l0 0).f3).length : Int) := of_decide_eq_true (by first | (with_reducible assumption) | assumption)
       obtain ⟨ad157, A157_3, c157_3, e157, hx157_0, hx157_1, hx157_2, hx157_3, hl157_3, hi157_3⟩ := at_T26 HR156_3.out x3_1 p157 q157
       cases e157
       have HR157_3 := Aside0.mk hi157_3
       have HC157_3 := Aside0.mk hl157_3
       clear hi157_3 hl157_3
       replace p157 := eq_true p157
       replace q157 := eq_true q157
       go_wp2_with (first | ((with_reducible refine gate_callee (f := 117) rfl ?_); refine goesL_ (some 22) rfl rfl Try.func117 (by kernel_rfl) rfl #[.pointer (some (ad157.add ((x3_1).toNat * 4)))] rfl (by (try simp only [List.map_toArray, List.map_cons, List.map_nil]); first | done | rfl | (simp only [List.length_drop, List.length_take]; rfl)) ?_; (with_reducible refine (ih k1 (by have := HK1.out; omega) _ [rd_T26 ((rd_T26 l0 0).f3) x3_1] false _ ?side1 A7.out).mono ?_); (case side1 => first | exact (C_one (by exact sD HR156_3.out) z26 (x3_1 : Int) (of_eq_true p157) (by have h_ := q157; first | exact of_eq_true h_ | exact h_ | exact of_decide_eq_true (by assumption))) | (have h_ := (C_one (by exact sD HR156_3.out) z26 (x3_1 : Int) (of_eq_true p157) (by have h_ := q157; first | exact of_eq_true h_ | exact h_ | exact of_decide_eq_true (by assumption))); first | exact h_ | simpa using h_)); rintro e w' ⟨rfl, ⟨nd, rfl⟩⟩; refine ⟨_, rfl, ?_⟩))
       go_ret
       exact ⟨by first | rfl | (simp; done) | (simp [*]; done), by repeat (first | exact Drawn0.refl _ | apply Drawn0.step)⟩
      rw [if_neg c6] at H
      exact absurd H (by simp)
     rw [if_neg c5] at H
     have c5b0 := decide_eq_false c5
     clear c5
     obtain rfl := Option.some.inj H
     have p155 : 0 ≤ (0 : Int) := (by omega)
     have q155 : 0 < (l0.length : Int) := of_decide_eq_true (by first | (with_reducible assumption) | assumption)
     obtain ⟨ad155, A155_3, c155_3, e155, hx155_0, hx155_1, hx155_2, hx155_3, hl155_3, hi155_3⟩ := at_T26 HR0.out 0 p155 q155
     cases e155
     have qi155 : (0 < l0.length) = True := eq_true (by omega)
     (try rw [sZ] at hx155_0)
     (try rw [sZ] at hx155_1)
     (try rw [sZ] at hx155_2)
     (try rw [sZ] at hx155_3)
     have HR155_3 := Aside0.mk hi155_3
     have HC155_3 := Aside0.mk hl155_3
     clear hi155_3 hl155_3
     replace p155 := eq_true p155
     replace q155 := eq_true q155
     go_wp2
     go_ret
     exact ⟨by first | rfl | (simp; done) | (simp [*]; done), by repeat (first | exact Drawn0.refl _ | apply Drawn0.step)⟩
    rw [if_neg c4] at H
    exact absurd H (by simp)
 replace c3 := Bool.eq_false_iff.mpr c3
 subst c3
 rewrite [if_neg (show ¬ (false = true) by decide)] at H
 obtain rfl := Option.some.inj H
 go_enter Try.func117, Try.ntmps117
 go_wp2_with (first | ((with_reducible refine gate_callee (f := 164) rfl ?_); refine sC (some 5) Try.func164 #[.pointer A0] (spec_l03Shape.calls k _ l0 false _ ?side1 A2.out) ?_; (case side1 => exact sD HR0.out); rintro e w' ⟨rfl, ⟨nd, rfl⟩⟩; refine ⟨_, rfl, ?_⟩))
 go_ret
 exact ⟨by first | rfl | (simp; done) | (simp [*]; done), by repeat (first | exact Drawn0.refl _ | apply Drawn0.step)⟩

/-! ### spec_l03Ok: function 78 -/
def spec_l03Ok.f (k : Nat) (l0 : List (S26)) : Option (Bool) := (spec_l03Size.f k l0).bind fun t159 => (if t159 ≤ 60 then ((spec_l03Nodes.f k l0).bind fun t160 => (some t160)) else (some false))
set_option maxHeartbeats 8000000 in
set_option maxRecDepth 100000 in
theorem spec_l03Ok.calls (k : Nat) (A0 : Option Addr) (l0 : List (S26)) (r : Bool) (w : World) (hr0 : Kd.C k26 w A0 l0.length l0) (h : spec_l03Ok.f k l0 = some r) :
  Calls Try.prog 78 #[.pointer A0] w fun e w' => e = .returned (.bool r) ∧ Drawn0 w w' := by
 have HR0 := Aside0.mk hr0
 have HC0 := Aside0.mk (Nat.le_refl l0.length)
 clear hr0
 have H : ((spec_l03Size.f k l0).bind fun t159 => (if t159 ≤ 60 then ((spec_l03Nodes.f k l0).bind fun t160 => (some t160)) else (some false))) = some r := h
 clear h
 obtain ⟨t159, A2, H⟩ := sO H
 by_cases c3 : t159 ≤ 60
 ·rw [if_pos c3] at H
  have c3b0 := decide_eq_true c3
  clear c3
  obtain ⟨t160, A4, H⟩ := sO H
  obtain rfl := Option.some.inj H
  go_enter Try.func78, Try.ntmps78
  go_wp2_with (first | ((with_reducible refine gate_callee (f := 73) rfl ?_); refine sC (some 4) Try.func73 #[.pointer A0] (spec_l03Size.calls k _ l0 t159 _ ?side1 A2.out) ?_; (case side1 => exact sD HR0.out); rintro e w' ⟨rfl, ⟨nd, rfl⟩⟩; refine ⟨_, rfl, ?_⟩) | (go_at_call 117; (with_reducible refine (spec_l03Nodes.calls k _ l0 t160 _ ?side1 A4.out).mono ?_); (case side1 => exact sD HR0.out); rintro e w' ⟨rfl, ⟨nd, rfl⟩⟩))
  go_ret
  exact ⟨by first | rfl | (simp; done) | (simp [*]; done), by repeat (first | exact Drawn0.refl _ | apply Drawn0.step)⟩
 rw [if_neg c3] at H
 have c3b0 := decide_eq_false c3
 clear c3
 obtain rfl := Option.some.inj H
 go_enter Try.func78, Try.ntmps78
 go_wp2_with (first | ((with_reducible refine gate_callee (f := 73) rfl ?_); refine sC (some 4) Try.func73 #[.pointer A0] (spec_l03Size.calls k _ l0 t159 _ ?side1 A2.out) ?_; (case side1 => exact sD HR0.out); rintro e w' ⟨rfl, ⟨nd, rfl⟩⟩; refine ⟨_, rfl, ?_⟩))
 go_ret
 exact ⟨by first | rfl | (simp; done) | (simp [*]; done), by repeat (first | exact Drawn0.refl _ | apply Drawn0.step)⟩

/-! ### spec_ValidExpr: function 50 -/
def spec_ValidExpr.f (k : Nat) (a0_0 : Int) (a0_1 : Int) (a0_2 : ByteArray) (l0_3 : List (S26)) : Option (Bool) := (spec_l03Ok.f k [(⟨a0_0, a0_1, a0_2, l0_3⟩ : S26)]).bind fun t162 => (some t162)
set_option maxHeartbeats 8000000 in
set_option maxRecDepth 100000 in
theorem spec_ValidExpr.calls (k : Nat) (a0_0 : Int) (a0_1 : Int) (a0_2 : ByteArray) (A0_3 : Option Addr) (c0_3 : Nat) (l0_3 : List (S26)) (r : Bool) (w : World) (hr0_3 : Kd.C k26 w A0_3 l0_3.length l0_3) (hc0_3 : l0_3.length ≤ c0_3) (h : spec_ValidExpr.f k a0_0 a0_1 a0_2 l0_3 = some r) :
  Calls Try.prog 50 #[.agg #[.int .i64 a0_0, .int .i64 a0_1, .string a0_2, .slice A0_3 l0_3.length c0_3]] w fun e w' => e = .returned (.bool r) ∧ Below w.heap.size w w' := by
 have hu26 := Try.underlying26
 have HR0_3 := Aside0.mk hr0_3
 have HC0_3 := Aside0.mk hc0_3
 clear hr0_3 hc0_3
 have HB := Aside0.mk (Below.refl w.heap.size w)
 have H : ((spec_l03Ok.f k [(⟨a0_0, a0_1, a0_2, l0_3⟩ : S26)]).bind fun t162 => (some t162)) = some r := h
 clear h
 obtain ⟨t162, A2, H⟩ := sO H
 obtain rfl := Option.some.inj H
 go_enter Try.func50, Try.ntmps50
 go_wp2_with (first | ((with_reducible refine gate_dst (N := 1) rfl ?_); refine sV (N := 1) (cs := #[.int .i64 a0_0, .int .i64 a0_1, .string a0_2, .slice A0_3 l0_3.length c0_3]) (t := 26) ?_; intro gb161 hg w3 hbox hb; have n0_ := sB HB hb; have n1_ := Aside0.mk (hbox); have n2_ := sG HB hg; have n3_ := sG HB hg; clear HB; have HB := n0_; have BK161 := n1_; have GW161 := n2_; have GE161 := n3_; clear n0_ n1_ n2_ n3_; clear hb hbox hg) | ((with_reducible refine gate_callee (f := 78) rfl ?_); refine sC (some 3) Try.func78 #[.pointer (some ⟨gb161, 0, none⟩)] (spec_l03Ok.calls k _ [(⟨a0_0, a0_1, a0_2, l0_3⟩ : S26)] t162 _ ?side1 A2.out) ?_; (case side1 => exact C_box (t := 26) (sT BK161.out) (k26_mk _ (⟨a0_0, a0_1, a0_2, l0_3⟩ : S26) (by exact HC0_3.out) (by exact sD (Kd.C_below HR0_3.out HB.out)))); rintro e w' ⟨rfl, ⟨nd, rfl⟩⟩; refine ⟨_, rfl, ?_⟩))
 go_ret
 exact ⟨sq, sb⟩

/-! ### spec_CompileExpr: function 19 -/
def spec_CompileExpr.f (k : Nat) (a0_0 : Int) (a0_1 : Int) (a0_2 : ByteArray) (l0_3 : List (S26)) : Option ((List (S89))) := (spec_ValidExpr.f k a0_0 a0_1 a0_2 l0_3).bind fun t226 => (if t226 = true then ((spec_l24Expr.f k [(⟨a0_0, a0_1, a0_2, l0_3⟩ : S26)]).bind fun t227 => (some t227)) else (some ([] : List (S89))))
set_option maxHeartbeats 8000000 in
set_option maxRecDepth 100000 in
theorem spec_CompileExpr.calls (k : Nat) (a0_0 : Int) (a0_1 : Int) (a0_2 : ByteArray) (A0_3 : Option Addr) (c0_3 : Nat) (l0_3 : List (S26)) (r : List (S89)) (w : World) (hr0_3 : Kd.C k26 w A0_3 l0_3.length l0_3) (hc0_3 : l0_3.length ≤ c0_3) (h : spec_CompileExpr.f k a0_0 a0_1 a0_2 l0_3 = some r) :
  Calls Try.prog 19 #[.agg #[.int .i64 a0_0, .int .i64 a0_1, .string a0_2, .slice A0_3 l0_3.length c0_3]] w fun e w' => ∃ v0_ : Value, e = .returned (v0_) ∧ Kd.R k89 89 w' w.heap.size (fun _ => True) v0_ r ∧ Below w.heap.size w w' := by
 have hu26 := Try.underlying26
 have HR0_3 := Aside0.mk hr0_3
 have HC0_3 := Aside0.mk hc0_3
 clear hr0_3 hc0_3
 have HB := Aside0.mk (Below.refl w.heap.size w)
 have H : ((spec_ValidExpr.f k a0_0 a0_1 a0_2 l0_3).bind fun t226 => (if t226 = true then ((spec_l24Expr.f k [(⟨a0_0, a0_1, a0_2, l0_3⟩ : S26)]).bind fun t227 => (some t227)) else (some ([] : List (S89))))) = some r := h
 clear h
 obtain ⟨t226, A2, H⟩ := sO H
 by_cases c3 : t226 = true
 ·subst c3
  rewrite [if_pos rfl] at H
  obtain ⟨t227, A4, H⟩ := sO H
  obtain rfl := Option.some.inj H
  go_enter Try.func19, Try.ntmps19
  go_wp2_with (first | ((with_reducible refine gate_dst (N := 1) rfl ?_); refine sV (N := 1) (cs := #[.int .i64 a0_0, .int .i64 a0_1, .string a0_2, .slice A0_3 l0_3.length c0_3]) (t := 26) ?_; intro gb225 hg w5 hbox hb; have n0_ := sB HB hb; have n1_ := Aside0.mk (hbox); have n2_ := sG HB hg; have n3_ := sG HB hg; clear HB; have HB := n0_; have BK225 := n1_; have GW225 := n2_; have GE225 := n3_; clear n0_ n1_ n2_ n3_; clear hb hbox hg; obtain ⟨hcz6_0, hcz6_1, hcz6_2, hcz6_3, hfz6_0, hfz6_1, hfz6_2, hfz6_3⟩ := cells4 BK225.out) | ((with_reducible refine gate_callee (f := 50) rfl ?_); refine sC (some 4) Try.func50 #[.agg #[.int .i64 a0_0, .int .i64 a0_1, .string a0_2, .slice A0_3 l0_3.length c0_3]] (spec_ValidExpr.calls k a0_0 a0_1 a0_2 _ _ l0_3 true _ ?side1 ?side2 A2.out) ?_; (case side1 => exact sD (Kd.C_below HR0_3.out HB.out)); (case side2 => exact HC0_3.out); rintro e w7 ⟨rfl, hb⟩; refine ⟨_, rfl, ?_⟩; have n0_ := sK BK225 hb; have n1_ := sB HB hb; clear BK225; clear HB; have BK225 := n0_; have HB := n1_; clear n0_ n1_; (try clear hb); (try clear hb2); (try clear hk); (try clear hi)) | ((with_reducible refine gate_callee (f := 51) rfl ?_); refine sC (some 6) Try.func51 #[.pointer (some ⟨gb225, 0, none⟩)] (spec_l24Expr.calls k _ [(⟨a0_0, a0_1, a0_2, l0_3⟩ : S26)] t227 _ ?side1 A4.out) ?_; (case side1 => exact C_box (t := 26) (sT BK225.out) (k26_mk _ (⟨a0_0, a0_1, a0_2, l0_3⟩ : S26) (by exact HC0_3.out) (by exact sD (Kd.C_below HR0_3.out HB.out)))); rintro e w8 ⟨v228, rfl, ho0, hb⟩; refine ⟨_, rfl, ?_⟩; have n0_ := Aside0.mk (Kd.R_lower ho0 (below_size (by repeat (first | (with_reducible first | exact HB.out | apply below_alloc | apply pw_below_drewN | apply below_drew1 | refine below_set ?_ GE225.out) | exact HB.out)))); have n1_ := sK BK225 hb; have n2_ := sB HB hb; clear BK225; clear HB; have HO229 := n0_; have BK225 := n1_; have HB := n2_; clear n0_ n1_ n2_; (try clear hb); (try clear hb2); (try clear hk); (try clear hi); (try clear ho0)))
  go_ret
  exact ⟨_, sq, by exact sE HO229.out, sb⟩
 replace c3 := Bool.eq_false_iff.mpr c3
 subst c3
 rewrite [if_neg (show ¬ (false = true) by decide)] at H
 obtain rfl := Option.some.inj H
 go_enter Try.func19, Try.ntmps19
 go_wp2_with (first | ((with_reducible refine gate_dst (N := 1) rfl ?_); refine sV (N := 1) (cs := #[.int .i64 a0_0, .int .i64 a0_1, .string a0_2, .slice A0_3 l0_3.length c0_3]) (t := 26) ?_; intro gb225 hg w9 hbox hb; have n0_ := sB HB hb; have n1_ := Aside0.mk (hbox); have n2_ := sG HB hg; have n3_ := sG HB hg; clear HB; have HB := n0_; have BK225 := n1_; have GW225 := n2_; have GE225 := n3_; clear n0_ n1_ n2_ n3_; clear hb hbox hg; obtain ⟨hcz10_0, hcz10_1, hcz10_2, hcz10_3, hfz10_0, hfz10_1, hfz10_2, hfz10_3⟩ := cells4 BK225.out) | ((with_reducible refine gate_callee (f := 50) rfl ?_); refine sC (some 4) Try.func50 #[.agg #[.int .i64 a0_0, .int .i64 a0_1, .string a0_2, .slice A0_3 l0_3.length c0_3]] (spec_ValidExpr.calls k a0_0 a0_1 a0_2 _ _ l0_3 false _ ?side1 ?side2 A2.out) ?_; (case side1 => exact sD (Kd.C_below HR0_3.out HB.out)); (case side2 => exact HC0_3.out); rintro e w11 ⟨rfl, hb⟩; refine ⟨_, rfl, ?_⟩; have n0_ := sK BK225 hb; have n1_ := sB HB hb; clear BK225; clear HB; have BK225 := n0_; have HB := n1_; clear n0_ n1_; (try clear hb); (try clear hb2); (try clear hk); (try clear hi)))
 go_ret
 exact ⟨_, sq, by first | exact Kd.R_nil _ _ _ _ _ | exact Kd.N_nil _ _ _ _ _ | exact Kd.V_nil _ _ _ _ _ | exact Kd.Q_nil _ _ _ _ _ | exact Kd.S_nil _ _ _ _ _, sb⟩
end Go.Proofs.Ytmebimamjgnlpaa.PFnExactCompileExpr
