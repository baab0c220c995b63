/- Printed functions: spec_l07Find, spec_l07ObjectKind, spec_l07Fits, spec_l07FitAll. -/
import Derived.Test.YtnjkhdhaiicefaaYGfP0
import Derived.Test.YtnjkhdhaiicefaaYGfP4
import Derived.Test.YtnjkhdhaiicefaaYGfP6
namespace Go.Proofs.Ytnjkhdhaiicefaa.PFnExactGetField
open Go.RowKit Go.Proofs.YtnjkhdhaiicefaaG Go.Proofs.YtnjkhdhaiicefaaW.PrintWords Go.Proofs.YtnjkhdhaiicefaaW.PrintLast Go.Proofs.YtnjkhdhaiicefaaW.PrintMore
attribute [local go_sem] max2_int min2_int max_two min_two max_three min_three max_four min_four   -- for this text's walks alone
set_option linter.unusedVariables false
set_option linter.unusedSimpArgs false
/-! ### spec_l07Find: function 62 -/
def spec_l07Find.l0 : Nat → List (S34) → Int → Int → Option (Int)
 | 0, _, _, _ => none
 | k + 1, x0, x1, x5 => if 0 < (x0.length : Int) then (if x5 < (((rd_T34 x0 0).f1).length : Int) then (if 0 ≤ x5 then (if ((rd_T56 ((rd_T34 x0 0).f1) x5).f0) = x1 then (some x5) else (spec_l07Find.l0 k x0 x1 (wrap64 (x5 + 1)))) else (none)) else (some (-1))) else (none)
def spec_l07Find.f (k : Nat) (l0 : List (S34)) (a1 : Int) : Option (Int) := spec_l07Find.l0 k l0 a1 0
set_option maxHeartbeats 8000000 in
set_option maxRecDepth 100000 in
theorem spec_l07Find.calls (k : Nat) (A0 : Option Addr) (l0 : List (S34)) (a1 : Int) (r : Int) (w : World) (hr0 : Kd.C k34 w A0 l0.length l0) (h : spec_l07Find.f k l0 a1 = some r) :
  Calls Try.prog 62 #[.pointer A0, .int .i64 a1] w fun e w' => e = .returned (.int .i64 r) ∧ Drawn0 w w' := by
 have HR0 := Aside0.mk hr0
 have HC0 := Aside0.mk (Nat.le_refl l0.length)
 clear hr0
 have H : (spec_l07Find.l0 k l0 a1 0) = some r := h
 clear h
 have H' := Aside0.mk H
 clear H
 go_enter Try.func62, Try.ntmps62
 go_wp2
 go_loopg [5] k (fun kq v5 w' => ∃ (x5_1 : Int), v5 = .int .i64 x5_1 ∧ Aside0 (spec_l07Find.l0 kq l0 a1 x5_1 = some r) ∧ Aside0 (kq ≤ k) ∧ Drawn0 w w')
 case atStart => exact ⟨(0), sr, H', ⟨Nat.le_refl _⟩, by repeat (first | exact Drawn0.refl _ | apply Drawn0.step)⟩
 case round =>
  clear H'
  try clear p2
  obtain ⟨x5_1, rfl, HA, HK1, ⟨m1, rfl⟩⟩ := hrel
  cases gk with
  | zero => exact absurd HA.out (by simp [spec_l07Find.l0])
  | succ k1 =>
   have H := HA.out
   clear HA
   simp only [spec_l07Find.l0] at H
   by_cases c3 : 0 < (l0.length : Int)
   ·rw [if_pos c3] at H
    have c3b0 := decide_eq_true c3
    have c3b1 : decide (0 < l0.length) = true := decide_eq_true (by omega)
    clear c3
    by_cases c4 : x5_1 < (((rd_T34 l0 0).f1).length : Int)
    ·rw [if_pos c4] at H
     have c4b0 := decide_eq_true c4
     clear c4
     by_cases c5 : 0 ≤ x5_1
     ·rw [if_pos c5] at H
      have c5b0 := decide_eq_true c5
      clear c5
      by_cases c6 : ((rd_T56 ((rd_T34 l0 0).f1) x5_1).f0) = a1
      ·rw [if_pos c6] at H
       have c6b0 : (((rd_T56 ((rd_T34 l0 0).f1) x5_1).f0) == a1) = true := beq_iff_eq.mpr c6
       have c6b1 : (((rd_T56 ((rd_T34 l0 0).f1) x5_1).f0) != a1) = false := bne_eq_false_iff_eq.mpr c6
       clear c6
       obtain rfl := Option.some.inj H
       have p200 : 0 ≤ (0 : Int) := (by omega)
       have q200 : 0 < (l0.length : Int) := of_decide_eq_true (by first | (with_reducible assumption) | assumption)
       obtain ⟨ad200, A200_1, c200_1, e200, hx200_0, hx200_1, hl200_1, hi200_1⟩ := at_T34 HR0.out 0 p200 q200
       cases e200
       have qi200 : (0 < l0.length) = True := eq_true (by omega)
       (try rw [sZ] at hx200_0)
       (try rw [sZ] at hx200_1)
       have HR200_1 := Aside0.mk hi200_1
       have HC200_1 := Aside0.mk hl200_1
       clear hi200_1 hl200_1
       replace p200 := eq_true p200
       replace q200 := eq_true q200
       have p201 : 0 ≤ (0 : Int) := (by omega)
       have q201 : 0 < (l0.length : Int) := of_decide_eq_true (by first | (with_reducible assumption) | assumption)
       obtain ⟨ad201, A201_1, c201_1, e201, hx201_0, hx201_1, hl201_1, hi201_1⟩ := at_T34 HR0.out 0 p201 q201
       obtain rfl : ad200 = ad201 := (by injection e201)
       have qi201 : (0 < l0.length) = True := eq_true (by omega)
       (try rw [sZ] at hx201_0)
       (try rw [sZ] at hx201_1)
       have HR201_1 := Aside0.mk hi201_1
       have HC201_1 := Aside0.mk hl201_1
       clear hi201_1 hl201_1
       replace p201 := eq_true p201
       replace q201 := eq_true q201
       have ea_ := Option.some.inj (hx200_1.symm.trans hx201_1)
       injection ea_ with ea_ en_ ec_
       subst ea_
       subst ec_
       clear en_
       have p202 : 0 ≤ (x5_1 : Int) := of_decide_eq_true (by first | (with_reducible assumption) | assumption)
       have q202 : x5_1 < (((rd_T34 l0 0).f1).length : Int) := of_decide_eq_true (by first | (with_reducible assumption) | assumption)
       obtain ⟨ad202, A202_4, c202_4, A202_5, c202_5, e202, hx202_0, hx202_1, hx202_2, hx202_3, hx202_4, hx202_5, hx202_6, hx202_7, hx202_8, hx202_9, hl202_4, hi202_4, hl202_5, hi202_5⟩ := at_T56 HR201_1.out x5_1 p202 q202
       cases e202
       have HR202_4 := Aside0.mk hi202_4
       have HC202_4 := Aside0.mk hl202_4
       clear hi202_4 hl202_4
       have HR202_5 := Aside0.mk hi202_5
       have HC202_5 := Aside0.mk hl202_5
       clear hi202_5 hl202_5
       replace p202 := eq_true p202
       replace q202 := eq_true q202
       go_wp2
       go_ret
       exact ⟨by first | rfl | (simp; done) | (simp [*]; done), by repeat (first | exact Drawn0.refl _ | apply Drawn0.step)⟩
      rw [if_neg c6] at H
      have c6b0 : (((rd_T56 ((rd_T34 l0 0).f1) x5_1).f0) == a1) = false := beq_eq_false_iff_ne.mpr c6
      have c6b1 : (((rd_T56 ((rd_T34 l0 0).f1) x5_1).f0) != a1) = true := bne_iff_ne.mpr c6
      have H' := Aside0.mk H
      clear H
      have p200 : 0 ≤ (0 : Int) := (by omega)
      have q200 : 0 < (l0.length : Int) := of_decide_eq_true (by first | (with_reducible assumption) | assumption)
      obtain ⟨ad200, A200_1, c200_1, e200, hx200_0, hx200_1, hl200_1, hi200_1⟩ := at_T34 HR0.out 0 p200 q200
      cases e200
      have qi200 : (0 < l0.length) = True := eq_true (by omega)
      (try rw [sZ] at hx200_0)
      (try rw [sZ] at hx200_1)
      have HR200_1 := Aside0.mk hi200_1
      have HC200_1 := Aside0.mk hl200_1
      clear hi200_1 hl200_1
      replace p200 := eq_true p200
      replace q200 := eq_true q200
      have p201 : 0 ≤ (0 : Int) := (by omega)
      have q201 : 0 < (l0.length : Int) := of_decide_eq_true (by first | (with_reducible assumption) | assumption)
      obtain ⟨ad201, A201_1, c201_1, e201, hx201_0, hx201_1, hl201_1, hi201_1⟩ := at_T34 HR0.out 0 p201 q201
      obtain rfl : ad200 = ad201 := (by injection e201)
      have qi201 : (0 < l0.length) = True := eq_true (by omega)
      (try rw [sZ] at hx201_0)
      (try rw [sZ] at hx201_1)
      have HR201_1 := Aside0.mk hi201_1
      have HC201_1 := Aside0.mk hl201_1
      clear hi201_1 hl201_1
      replace p201 := eq_true p201
      replace q201 := eq_true q201
      have ea_ := Option.some.inj (hx200_1.symm.trans hx201_1)
      injection ea_ with ea_ en_ ec_
      subst ea_
      subst ec_
      clear en_
      have p202 : 0 ≤ (x5_1 : Int) := of_decide_eq_true (by first | (with_reducible assumption) | assumption)
      have q202 : x5_1 < (((rd_T34 l0 0).f1).length : Int) := of_decide_eq_true (by first | (with_reducible assumption) | assumption)
      obtain ⟨ad202, A202_4, c202_4, A202_5, c202_5, e202, hx202_0, hx202_1, hx202_2, hx202_3, hx202_4, hx202_5, hx202_6, hx202_7, hx202_8, hx202_9, hl202_4, hi202_4, hl202_5, hi202_5⟩ := at_T56 HR201_1.out x5_1 p202 q202
      cases e202
      have HR202_4 := Aside0.mk hi202_4
      have HC202_4 := Aside0.mk hl202_4
      clear hi202_4 hl202_4
      have HR202_5 := Aside0.mk hi202_5
      have HC202_5 := Aside0.mk hl202_5
      clear hi202_5 hl202_5
      replace p202 := eq_true p202
      replace q202 := eq_true q202
      go_wp2
      go_roundg k1
      case measure => have := HK1.out; omega
      case rel => exact ⟨(wrap64 (x5_1 + 1)), sr, H', ⟨by have := HK1.out; omega⟩, by repeat (first | exact Drawn0.refl _ | apply Drawn0.step)⟩
     rw [if_neg c5] at H
     exact absurd H (by simp)
    rw [if_neg c4] at H
    have c4b0 := decide_eq_false c4
    clear c4
    obtain rfl := Option.some.inj H
    have p200 : 0 ≤ (0 : Int) := (by omega)
    have q200 : 0 < (l0.length : Int) := of_decide_eq_true (by first | (with_reducible assumption) | assumption)
    obtain ⟨ad200, A200_1, c200_1, e200, hx200_0, hx200_1, hl200_1, hi200_1⟩ := at_T34 HR0.out 0 p200 q200
    cases e200
    have qi200 : (0 < l0.length) = True := eq_true (by omega)
    (try rw [sZ] at hx200_0)
    (try rw [sZ] at hx200_1)
    have HR200_1 := Aside0.mk hi200_1
    have HC200_1 := Aside0.mk hl200_1
    clear hi200_1 hl200_1
    replace p200 := eq_true p200
    replace q200 := eq_true q200
    go_wp2
    go_ret
    exact ⟨by first | rfl | (simp; done) | (simp [*]; done), by repeat (first | exact Drawn0.refl _ | apply Drawn0.step)⟩
   rw [if_neg c3] at H
   exact absurd H (by simp)

/-! ### spec_l07ObjectKind: function 170 -/
def spec_l07ObjectKind.f (a0 : Int) : Option (Int) := some (wrap64 ((wrap64 (a0 - 4)) + 1))
set_option maxHeartbeats 8000000 in
set_option maxRecDepth 100000 in
theorem spec_l07ObjectKind.calls (a0 : Int) (r : Int) (w : World) (h : spec_l07ObjectKind.f a0 = some r) :
  Calls Try.prog 170 #[.int .i64 a0] w fun e w' => e = .returned (.int .i64 r) ∧ Drawn0 w w' := by
 have H : (some (wrap64 ((wrap64 (a0 - 4)) + 1))) = some r := h
 clear h
 obtain rfl := Option.some.inj H
 go_enter Try.func170, Try.ntmps170
 go_wp2
 go_ret
 exact ⟨by first | rfl | (simp; done) | (simp [*]; done), by repeat (first | exact Drawn0.refl _ | apply Drawn0.step)⟩

/-! ### spec_l07Fits: function 147 -/
def spec_l07Fits.f (k : Nat) (l0 : List (S34)) (a1_0 : Int) (a1_1 : Int) (a1_2 : ByteArray) (a1_3 : Int) : Option (Bool) := (spec_ValidValue.f k a1_0 a1_1 a1_2 a1_3).bind fun t204 => (if t204 = true then ((spec_l07IsRef.f a1_0 a1_1 a1_2 a1_3).bind fun t205 => (if t205 = true then ((spec_l07Find.f k l0 a1_3).bind fun t206 => (if t206 ≥ 0 then (if 0 < (l0.length : Int) then (if 0 ≤ t206 then (if t206 < (((rd_T34 l0 0).f1).length : Int) then ((spec_l07ObjectKind.f a1_0).bind fun t209 => (some (((rd_T56 ((rd_T34 l0 0).f1) t206).f1) == t209))) else (none)) else (none)) else (none)) else (some false))) else (some true))) else (some false))
set_option maxHeartbeats 8000000 in
set_option maxRecDepth 100000 in
theorem spec_l07Fits.calls (k : Nat) (A0 : Option Addr) (l0 : List (S34)) (a1_0 : Int) (a1_1 : Int) (a1_2 : ByteArray) (a1_3 : Int) (r : Bool) (w : World) (hr0 : Kd.C k34 w A0 l0.length l0) (h : spec_l07Fits.f k l0 a1_0 a1_1 a1_2 a1_3 = some r) :
  Calls Try.prog 147 #[.pointer A0, .agg #[.int .i64 a1_0, .int .i64 a1_1, .string a1_2, .int .i64 a1_3]] w fun e w' => e = .returned (.bool r) ∧ Below w.heap.size w w' := by
 have hu29 := Try.underlying29
 have HR0 := Aside0.mk hr0
 have HC0 := Aside0.mk (Nat.le_refl l0.length)
 clear hr0
 have HB := Aside0.mk (Below.refl w.heap.size w)
 have H : ((spec_ValidValue.f k a1_0 a1_1 a1_2 a1_3).bind fun t204 => (if t204 = true then ((spec_l07IsRef.f a1_0 a1_1 a1_2 a1_3).bind fun t205 => (if t205 = true then ((spec_l07Find.f k l0 a1_3).bind fun t206 => (if t206 ≥ 0 then (if 0 < (l0.length : Int) then (if 0 ≤ t206 then (if t206 < (((rd_T34 l0 0).f1).length : Int) then ((spec_l07ObjectKind.f a1_0).bind fun t209 => (some (((rd_T56 ((rd_T34 l0 0).f1) t206).f1) == t209))) else (none)) else (none)) else (none)) else (some false))) else (some true))) else (some false))) = some r := h
 clear h
 obtain ⟨t204, A3, H⟩ := sO H
 by_cases c4 : t204 = true
 ·subst c4
  rewrite [if_pos rfl] at H
  obtain ⟨t205, A5, H⟩ := sO H
  by_cases c6 : t205 = true
  ·subst c6
   rewrite [if_pos rfl] at H
   obtain ⟨t206, A7, H⟩ := sO H
   by_cases c8 : t206 ≥ 0
   ·rw [if_pos c8] at H
    have c8b0 : decide (0 ≤ t206) = true := decide_eq_true c8
    clear c8
    by_cases c9 : 0 < (l0.length : Int)
    ·rw [if_pos c9] at H
     have c9b0 := decide_eq_true c9
     have c9b1 : decide (0 < l0.length) = true := decide_eq_true (by omega)
     clear c9
     by_cases c10 : 0 ≤ t206
     ·rw [if_pos c10] at H
      have c10b0 := decide_eq_true c10
      clear c10
      by_cases c11 : t206 < (((rd_T34 l0 0).f1).length : Int)
      ·rw [if_pos c11] at H
       have c11b0 := decide_eq_true c11
       clear c11
       obtain ⟨t209, A12, H⟩ := sO H
       obtain rfl := Option.some.inj H
       go_enter Try.func147, Try.ntmps147
       go_wp2_with (first | ((with_reducible refine gate_dst (N := 3) rfl ?_); refine sV (N := 3) (cs := #[.int .i64 a1_0, .int .i64 a1_1, .string a1_2, .int .i64 a1_3]) (t := 29) ?_; intro gb203 hg w13 hbox hb; have n0_ := sB HB hb; have n1_ := Aside0.mk (hbox); have n2_ := sG HB hg; have n3_ := sG HB hg; clear HB; have HB := n0_; have BK203 := n1_; have GW203 := n2_; have GE203 := n3_; clear n0_ n1_ n2_ n3_; clear hb hbox hg; obtain ⟨hcz14_0, hcz14_1, hcz14_2, hcz14_3, hfz14_0, hfz14_1, hfz14_2, hfz14_3⟩ := cells4 BK203.out) | (go_at_call 120; (with_reducible refine (spec_ValidValue.calls k a1_0 a1_1 a1_2 a1_3 true _ A3.out).mono ?_); rintro e w15 ⟨rfl, hb⟩; have n0_ := sK BK203 hb; have n1_ := sB HB hb; clear BK203; clear HB; have BK203 := n0_; have HB := n1_; clear n0_ n1_; (try clear hb); (try clear hb2); (try clear hk); (try clear hi); obtain ⟨hcz16_0, hcz16_1, hcz16_2, hcz16_3, hfz16_0, hfz16_1, hfz16_2, hfz16_3⟩ := cells4 BK203.out) | (go_at_call 75; (with_reducible refine (spec_l07IsRef.calls a1_0 a1_1 a1_2 a1_3 true _ A5.out).mono ?_); rintro e w17 ⟨rfl, hb⟩; have n0_ := sK BK203 hb; have n1_ := sB HB hb; clear BK203; clear HB; have BK203 := n0_; have HB := n1_; clear n0_ n1_; (try clear hb); (try clear hb2); (try clear hk); (try clear hi); obtain ⟨hcz18_0, hcz18_1, hcz18_2, hcz18_3, hfz18_0, hfz18_1, hfz18_2, hfz18_3⟩ := cells4 BK203.out) | (go_at_call 62; (with_reducible refine (spec_l07Find.calls k _ l0 a1_3 t206 _ ?side1 A7.out).mono ?_); (case side1 => exact sD (Kd.C_below HR0.out HB.out)); rintro e w' ⟨rfl, ⟨nd, rfl⟩⟩; (try first | exact ⟨rfl, _, World.drewN_drewN _ _ _⟩ | exact ⟨rfl, _, Eq.trans (World.drewN_drewN _ _ _) (congrArg (World.drewN _) (Nat.add_assoc _ _ _))⟩); have p207 : 0 ≤ (0 : Int) := (by omega); have q207 : 0 < (l0.length : Int) := of_decide_eq_true (by first | (with_reducible assumption) | assumption); obtain ⟨ad207, A207_1, c207_1, e207, hx207_0, hx207_1, hl207_1, hi207_1⟩ := at_T34 HR0.out 0 p207 q207; cases e207; have qi207 : (0 < l0.length) = True := eq_true (by omega); (try rw [show ((0 : Int)).toNat = 0 from rfl] at hx207_0); (try rw [show 0 * 2 = 0 from rfl] at hx207_0); (try rw [Addr.add_zero'] at hx207_0); (try rw [show ((0 : Int)).toNat = 0 from rfl] at hx207_1); (try rw [show 0 * 2 = 0 from rfl] at hx207_1); (try rw [Addr.add_zero'] at hx207_1); replace hx207_0 := sX HB hx207_0; replace hx207_1 := sX HB hx207_1; have HR207_1 := Aside0.mk hi207_1; have HC207_1 := Aside0.mk hl207_1; clear hi207_1 hl207_1; replace p207 := eq_true p207; replace q207 := eq_true q207; have p208 : 0 ≤ (t206 : Int) := of_decide_eq_true (by first | (with_reducible assumption) | assumption); have q208 : t206 < (((rd_T34 l0 0).f1).length : Int) := of_decide_eq_true (by first | (with_reducible assumption) | assumption); obtain ⟨ad208, A208_4, c208_4, A208_5, c208_5, e208, hx208_0, hx208_1, hx208_2, hx208_3, hx208_4, hx208_5, hx208_6, hx208_7, hx208_8, hx208_9, hl208_4, hi208_4, hl208_5, hi208_5⟩ := at_T56 HR207_1.out t206 p208 q208; cases e208; replace hx208_0 := sX HB hx208_0; replace hx208_1 := sX HB hx208_1; replace hx208_2 := sX HB hx208_2; replace hx208_3 := sX HB hx208_3; replace hx208_4 := sX HB hx208_4; replace hx208_5 := sX HB hx208_5; replace hx208_6 := sX HB hx208_6; replace hx208_7 := sX HB hx208_7; replace hx208_8 := sX HB hx208_8; replace hx208_9 := sX HB hx208_9; have HR208_4 := Aside0.mk hi208_4; have HC208_4 := Aside0.mk hl208_4; clear hi208_4 hl208_4; have HR208_5 := Aside0.mk hi208_5; have HC208_5 := Aside0.mk hl208_5; clear hi208_5 hl208_5; replace p208 := eq_true p208; replace q208 := eq_true q208) | (go_at_call 170; (with_reducible refine (spec_l07ObjectKind.calls a1_0 t209 _ A12.out).mono ?_); rintro e w' ⟨rfl, ⟨nd, rfl⟩⟩; (try first | exact ⟨rfl, _, World.drewN_drewN _ _ _⟩ | exact ⟨rfl, _, Eq.trans (World.drewN_drewN _ _ _) (congrArg (World.drewN _) (Nat.add_assoc _ _ _))⟩)))
       repeat (go_quiet (first | ((with_reducible refine gate_dst (N := 3) rfl ?_); refine sV (N := 3) (cs := #[.int .i64 a1_0, .int .i64 a1_1, .string a1_2, .int .i64 a1_3]) (t := 29) ?_; intro gb203 hg w13 hbox hb; have n0_ := sB HB hb; have n1_ := Aside0.mk (hbox); have n2_ := sG HB hg; have n3_ := sG HB hg; clear HB; have HB := n0_; have BK203 := n1_; have GW203 := n2_; have GE203 := n3_; clear n0_ n1_ n2_ n3_; clear hb hbox hg; obtain ⟨hcz14_0, hcz14_1, hcz14_2, hcz14_3, hfz14_0, hfz14_1, hfz14_2, hfz14_3⟩ := cells4 BK203.out) | (go_at_call 120; (with_reducible refine (spec_ValidValue.calls k a1_0 a1_1 a1_2 a1_3 true _ A3.out).mono ?_); rintro e w15 ⟨rfl, hb⟩; have n0_ := sK BK203 hb; have n1_ := sB HB hb; clear BK203; clear HB; have BK203 := n0_; have HB := n1_; clear n0_ n1_; (try clear hb); (try clear hb2); (try clear hk); (try clear hi); obtain ⟨hcz16_0, hcz16_1, hcz16_2, hcz16_3, hfz16_0, hfz16_1, hfz16_2, hfz16_3⟩ := cells4 BK203.out) | (go_at_call 75; (with_reducible refine (spec_l07IsRef.calls a1_0 a1_1 a1_2 a1_3 true _ A5.out).mono ?_); rintro e w17 ⟨rfl, hb⟩; have n0_ := sK BK203 hb; have n1_ := sB HB hb; clear BK203; clear HB; have BK203 := n0_; have HB := n1_; clear n0_ n1_; (try clear hb); (try clear hb2); (try clear hk); (try clear hi); obtain ⟨hcz18_0, hcz18_1, hcz18_2, hcz18_3, hfz18_0, hfz18_1, hfz18_2, hfz18_3⟩ := cells4 BK203.out) | (go_at_call 62; (with_reducible refine (spec_l07Find.calls k _ l0 a1_3 t206 _ ?side1 A7.out).mono ?_); (case side1 => exact sD (Kd.C_below HR0.out HB.out)); rintro e w' ⟨rfl, ⟨nd, rfl⟩⟩; (try first | exact ⟨rfl, _, World.drewN_drewN _ _ _⟩ | exact ⟨rfl, _, Eq.trans (World.drewN_drewN _ _ _) (congrArg (World.drewN _) (Nat.add_assoc _ _ _))⟩); have p207 : 0 ≤ (0 : Int) := (by omega); have q207 : 0 < (l0.length : Int) := of_decide_eq_true (by first | (with_reducible assumption) | assumption); obtain ⟨ad207, A207_1, c207_1, e207, hx207_0, hx207_1, hl207_1, hi207_1⟩ := at_T34 HR0.out 0 p207 q207; cases e207; have qi207 : (0 < l0.length) = True := eq_true (by omega); (try rw [show ((0 : Int)).toNat = 0 from rfl] at hx207_0); (try rw [show 0 * 2 = 0 from rfl] at hx207_0); (try rw [Addr.add_zero'] at hx207_0); (try rw [show ((0 : Int)).toNat = 0 from rfl] at hx207_1); (try rw [show 0 * 2 = 0 from rfl] at hx207_1); (try rw [Addr.add_zero'] at hx207_1); replace hx207_0 := sX HB hx207_0; replace hx207_1 := sX HB hx207_1; have HR207_1 := Aside0.mk hi207_1; have HC207_1 := Aside0.mk hl207_1; clear hi207_1 hl207_1; replace p207 := eq_true p207; replace q207 := eq_true q207; have p208 : 0 ≤ (t206 : Int) := of_decide_eq_true (by first | (with_reducible assumption) | assumption); have q208 : t206 < (((rd_T34 l0 0).f1).length : Int) := of_decide_eq_true (by first | (with_reducible assumption) | assumption); obtain ⟨ad208, A208_4, c208_4, A208_5, c208_5, e208, hx208_0, hx208_1, hx208_2, hx208_3, hx208_4, hx208_5, hx208_6, hx208_7, hx208_8, hx208_9, hl208_4, hi208_4, hl208_5, hi208_5⟩ := at_T56 HR207_1.out t206 p208 q208; cases e208; replace hx208_0 := sX HB hx208_0; replace hx208_1 := sX HB hx208_1; replace hx208_2 := sX HB hx208_2; replace hx208_3 := sX HB hx208_3; replace hx208_4 := sX HB hx208_4; replace hx208_5 := sX HB hx208_5; replace hx208_6 := sX HB hx208_6; replace hx208_7 := sX HB hx208_7; replace hx208_8 := sX HB hx208_8; replace hx208_9 := sX HB hx208_9; have HR208_4 := Aside0.mk hi208_4; have HC208_4 := Aside0.mk hl208_4; clear hi208_4 hl208_4; have HR208_5 := Aside0.mk hi208_5; have HC208_5 := Aside0.mk hl208_5; clear hi208_5 hl208_5; replace p208 := eq_true p208; replace q208 := eq_true q208) | (go_at_call 170; (with_reducible refine (spec_l07ObjectKind.calls a1_0 t209 _ A12.out).mono ?_); rintro e w' ⟨rfl, ⟨nd, rfl⟩⟩; (try first | exact ⟨rfl, _, World.drewN_drewN _ _ _⟩ | exact ⟨rfl, _, Eq.trans (World.drewN_drewN _ _ _) (congrArg (World.drewN _) (Nat.add_assoc _ _ _))⟩))); try go_wp2_with (first | ((with_reducible refine gate_dst (N := 3) rfl ?_); refine sV (N := 3) (cs := #[.int .i64 a1_0, .int .i64 a1_1, .string a1_2, .int .i64 a1_3]) (t := 29) ?_; intro gb203 hg w13 hbox hb; have n0_ := sB HB hb; have n1_ := Aside0.mk (hbox); have n2_ := sG HB hg; have n3_ := sG HB hg; clear HB; have HB := n0_; have BK203 := n1_; have GW203 := n2_; have GE203 := n3_; clear n0_ n1_ n2_ n3_; clear hb hbox hg; obtain ⟨hcz14_0, hcz14_1, hcz14_2, hcz14_3, hfz14_0, hfz14_1, hfz14_2, hfz14_3⟩ := cells4 BK203.out) | (go_at_call 120; (with_reducible refine (spec_ValidValue.calls k a1_0 a1_1 a1_2 a1_3 true _ A3.out).mono ?_); rintro e w15 ⟨rfl, hb⟩; have n0_ := sK BK203 hb; have n1_ := sB HB hb; clear BK203; clear HB; have BK203 := n0_; have HB := n1_; clear n0_ n1_; (try clear hb); (try clear hb2); (try clear hk); (try clear hi); obtain ⟨hcz16_0, hcz16_1, hcz16_2, hcz16_3, hfz16_0, hfz16_1, hfz16_2, hfz16_3⟩ := cells4 BK203.out) | (go_at_call 75; (with_reducible refine (spec_l07IsRef.calls a1_0 a1_1 a1_2 a1_3 true _ A5.out).mono ?_); rintro e w17 ⟨rfl, hb⟩; have n0_ := sK BK203 hb; have n1_ := sB HB hb; clear BK203; clear HB; have BK203 := n0_; have HB := n1_; clear n0_ n1_; (try clear hb); (try clear hb2); (try clear hk); (try clear hi); obtain ⟨hcz18_0, hcz18_1, hcz18_2, hcz18_3, hfz18_0, hfz18_1, hfz18_2, hfz18_3⟩ := cells4 BK203.out) | (go_at_call 62; (with_reducible refine (spec_l07Find.calls k _ l0 a1_3 t206 _ ?side1 A7.out).mono ?_); (case side1 => exact sD (Kd.C_below HR0.out HB.out)); rintro e w' ⟨rfl, ⟨nd, rfl⟩⟩; (try first | exact ⟨rfl, _, World.drewN_drewN _ _ _⟩ | exact ⟨rfl, _, Eq.trans (World.drewN_drewN _ _ _) (congrArg (World.drewN _) (Nat.add_assoc _ _ _))⟩); have p207 : 0 ≤ (0 : Int) := (by omega); have q207 : 0 < (l0.length : Int) := of_decide_eq_true (by first | (with_reducible assumption) | assumption); obtain ⟨ad207, A207_1, c207_1, e207, hx207_0, hx207_1, hl207_1, hi207_1⟩ := at_T34 HR0.out 0 p207 q207; cases e207; have qi207 : (0 < l0.length) = True := eq_true (by omega); (try rw [show ((0 : Int)).toNat = 0 from rfl] at hx207_0); (try rw [show 0 * 2 = 0 from rfl] at hx207_0); (try rw [Addr.add_zero'] at hx207_0); (try rw [show ((0 : Int)).toNat = 0 from rfl] at hx207_1); (try rw [show 0 * 2 = 0 from rfl] at hx207_1); (try rw [Addr.add_zero'] at hx207_1); replace hx207_0 := sX HB hx207_0; replace hx207_1 := sX HB hx207_1; have HR207_1 := Aside0.mk hi207_1; have HC207_1 := Aside0.mk hl207_1; clear hi207_1 hl207_1; replace p207 := eq_true p207; replace q207 := eq_true q207; have p208 : 0 ≤ (t206 : Int) := of_decide_eq_true (by first | (with_reducible assumption) | assumption); have q208 : t206 < (((rd_T34 l0 0).f1).length : Int) := of_decide_eq_true (by first | (with_reducible assumption) | assumption); obtain ⟨ad208, A208_4, c208_4, A208_5, c208_5, e208, hx208_0, hx208_1, hx208_2, hx208_3, hx208_4, hx208_5, hx208_6, hx208_7, hx208_8, hx208_9, hl208_4, hi208_4, hl208_5, hi208_5⟩ := at_T56 HR207_1.out t206 p208 q208; cases e208; replace hx208_0 := sX HB hx208_0; replace hx208_1 := sX HB hx208_1; replace hx208_2 := sX HB hx208_2; replace hx208_3 := sX HB hx208_3; replace hx208_4 := sX HB hx208_4; replace hx208_5 := sX HB hx208_5; replace hx208_6 := sX HB hx208_6; replace hx208_7 := sX HB hx208_7; replace hx208_8 := sX HB hx208_8; replace hx208_9 := sX HB hx208_9; have HR208_4 := Aside0.mk hi208_4; have HC208_4 := Aside0.mk hl208_4; clear hi208_4 hl208_4; have HR208_5 := Aside0.mk hi208_5; have HC208_5 := Aside0.mk hl208_5; clear hi208_5 hl208_5; replace p208 := eq_true p208; replace q208 := eq_true q208) | (go_at_call 170; (with_reducible refine (spec_l07ObjectKind.calls a1_0 t209 _ A12.out).mono ?_); rintro e w' ⟨rfl, ⟨nd, rfl⟩⟩; (try first | exact ⟨rfl, _, World.drewN_drewN _ _ _⟩ | exact ⟨rfl, _, Eq.trans (World.drewN_drewN _ _ _) (congrArg (World.drewN _) (Nat.add_assoc _ _ _))⟩))))
       go_ret
       exact ⟨sq, sb⟩
      rw [if_neg c11] at H
      exact absurd H (by simp)
     rw [if_neg c10] at H
     exact absurd H (by simp)
    rw [if_neg c9] at H
    exact absurd H (by simp)
   rw [if_neg c8] at H
   have c8b0 : decide (0 ≤ t206) = false := decide_eq_false c8
   clear c8
   obtain rfl := Option.some.inj H
   go_enter Try.func147, Try.ntmps147
   go_wp2_with (first | ((with_reducible refine gate_dst (N := 3) rfl ?_); refine sV (N := 3) (cs := #[.int .i64 a1_0, .int .i64 a1_1, .string a1_2, .int .i64 a1_3]) (t := 29) ?_; intro gb203 hg w19 hbox hb; have n0_ := sB HB hb; have n1_ := Aside0.mk (hbox); have n2_ := sG HB hg; have n3_ := sG HB hg; clear HB; have HB := n0_; have BK203 := n1_; have GW203 := n2_; have GE203 := n3_; clear n0_ n1_ n2_ n3_; clear hb hbox hg; obtain ⟨hcz20_0, hcz20_1, hcz20_2, hcz20_3, hfz20_0, hfz20_1, hfz20_2, hfz20_3⟩ := cells4 BK203.out) | (go_at_call 120; (with_reducible refine (spec_ValidValue.calls k a1_0 a1_1 a1_2 a1_3 true _ A3.out).mono ?_); rintro e w21 ⟨rfl, hb⟩; have n0_ := sK BK203 hb; have n1_ := sB HB hb; clear BK203; clear HB; have BK203 := n0_; have HB := n1_; clear n0_ n1_; (try clear hb); (try clear hb2); (try clear hk); (try clear hi); obtain ⟨hcz22_0, hcz22_1, hcz22_2, hcz22_3, hfz22_0, hfz22_1, hfz22_2, hfz22_3⟩ := cells4 BK203.out) | (go_at_call 75; (with_reducible refine (spec_l07IsRef.calls a1_0 a1_1 a1_2 a1_3 true _ A5.out).mono ?_); rintro e w23 ⟨rfl, hb⟩; have n0_ := sK BK203 hb; have n1_ := sB HB hb; clear BK203; clear HB; have BK203 := n0_; have HB := n1_; clear n0_ n1_; (try clear hb); (try clear hb2); (try clear hk); (try clear hi); obtain ⟨hcz24_0, hcz24_1, hcz24_2, hcz24_3, hfz24_0, hfz24_1, hfz24_2, hfz24_3⟩ := cells4 BK203.out) | (go_at_call 62; (with_reducible refine (spec_l07Find.calls k _ l0 a1_3 t206 _ ?side1 A7.out).mono ?_); (case side1 => exact sD (Kd.C_below HR0.out HB.out)); rintro e w' ⟨rfl, ⟨nd, rfl⟩⟩; (try first | exact ⟨rfl, _, World.drewN_drewN _ _ _⟩ | exact ⟨rfl, _, Eq.trans (World.drewN_drewN _ _ _) (congrArg (World.drewN _) (Nat.add_assoc _ _ _))⟩)))
   repeat (go_quiet (first | ((with_reducible refine gate_dst (N := 3) rfl ?_); refine sV (N := 3) (cs := #[.int .i64 a1_0, .int .i64 a1_1, .string a1_2, .int .i64 a1_3]) (t := 29) ?_; intro gb203 hg w19 hbox hb; have n0_ := sB HB hb; have n1_ := Aside0.mk (hbox); have n2_ := sG HB hg; have n3_ := sG HB hg; clear HB; have HB := n0_; have BK203 := n1_; have GW203 := n2_; have GE203 := n3_; clear n0_ n1_ n2_ n3_; clear hb hbox hg; obtain ⟨hcz20_0, hcz20_1, hcz20_2, hcz20_3, hfz20_0, hfz20_1, hfz20_2, hfz20_3⟩ := cells4 BK203.out) | (go_at_call 120; (with_reducible refine (spec_ValidValue.calls k a1_0 a1_1 a1_2 a1_3 true _ A3.out).mono ?_); rintro e w21 ⟨rfl, hb⟩; have n0_ := sK BK203 hb; have n1_ := sB HB hb; clear BK203; clear HB; have BK203 := n0_; have HB := n1_; clear n0_ n1_; (try clear hb); (try clear hb2); (try clear hk); (try clear hi); obtain ⟨hcz22_0, hcz22_1, hcz22_2, hcz22_3, hfz22_0, hfz22_1, hfz22_2, hfz22_3⟩ := cells4 BK203.out) | (go_at_call 75; (with_reducible refine (spec_l07IsRef.calls a1_0 a1_1 a1_2 a1_3 true _ A5.out).mono ?_); rintro e w23 ⟨rfl, hb⟩; have n0_ := sK BK203 hb; have n1_ := sB HB hb; clear BK203; clear HB; have BK203 := n0_; have HB := n1_; clear n0_ n1_; (try clear hb); (try clear hb2); (try clear hk); (try clear hi); obtain ⟨hcz24_0, hcz24_1, hcz24_2, hcz24_3, hfz24_0, hfz24_1, hfz24_2, hfz24_3⟩ := cells4 BK203.out) | (go_at_call 62; (with_reducible refine (spec_l07Find.calls k _ l0 a1_3 t206 _ ?side1 A7.out).mono ?_); (case side1 => exact sD (Kd.C_below HR0.out HB.out)); rintro e w' ⟨rfl, ⟨nd, rfl⟩⟩; (try first | exact ⟨rfl, _, World.drewN_drewN _ _ _⟩ | exact ⟨rfl, _, Eq.trans (World.drewN_drewN _ _ _) (congrArg (World.drewN _) (Nat.add_assoc _ _ _))⟩))); try go_wp2_with (first | ((with_reducible refine gate_dst (N := 3) rfl ?_); refine sV (N := 3) (cs := #[.int .i64 a1_0, .int .i64 a1_1, .string a1_2, .int .i64 a1_3]) (t := 29) ?_; intro gb203 hg w19 hbox hb; have n0_ := sB HB hb; have n1_ := Aside0.mk (hbox); have n2_ := sG HB hg; have n3_ := sG HB hg; clear HB; have HB := n0_; have BK203 := n1_; have GW203 := n2_; have GE203 := n3_; clear n0_ n1_ n2_ n3_; clear hb hbox hg; obtain ⟨hcz20_0, hcz20_1, hcz20_2, hcz20_3, hfz20_0, hfz20_1, hfz20_2, hfz20_3⟩ := cells4 BK203.out) | (go_at_call 120; (with_reducible refine (spec_ValidValue.calls k a1_0 a1_1 a1_2 a1_3 true _ A3.out).mono ?_); rintro e w21 ⟨rfl, hb⟩; have n0_ := sK BK203 hb; have n1_ := sB HB hb; clear BK203; clear HB; have BK203 := n0_; have HB := n1_; clear n0_ n1_; (try clear hb); (try clear hb2); (try clear hk); (try clear hi); obtain ⟨hcz22_0, hcz22_1, hcz22_2, hcz22_3, hfz22_0, hfz22_1, hfz22_2, hfz22_3⟩ := cells4 BK203.out) | (go_at_call 75; (with_reducible refine (spec_l07IsRef.calls a1_0 a1_1 a1_2 a1_3 true _ A5.out).mono ?_); rintro e w23 ⟨rfl, hb⟩; have n0_ := sK BK203 hb; have n1_ := sB HB hb; clear BK203; clear HB; have BK203 := n0_; have HB := n1_; clear n0_ n1_; (try clear hb); (try clear hb2); (try clear hk); (try clear hi); obtain ⟨hcz24_0, hcz24_1, hcz24_2, hcz24_3, hfz24_0, hfz24_1, hfz24_2, hfz24_3⟩ := cells4 BK203.out) | (go_at_call 62; (with_reducible refine (spec_l07Find.calls k _ l0 a1_3 t206 _ ?side1 A7.out).mono ?_); (case side1 => exact sD (Kd.C_below HR0.out HB.out)); rintro e w' ⟨rfl, ⟨nd, rfl⟩⟩; (try first | exact ⟨rfl, _, World.drewN_drewN _ _ _⟩ | exact ⟨rfl, _, Eq.trans (World.drewN_drewN _ _ _) (congrArg (World.drewN _) (Nat.add_assoc _ _ _))⟩))))
   go_ret
   exact ⟨sq, sb⟩
  replace c6 := Bool.eq_false_iff.mpr c6
  subst c6
  rewrite [if_neg (show ¬ (false = true) by decide)] at H
  obtain rfl := Option.some.inj H
  go_enter Try.func147, Try.ntmps147
  go_wp2_with (first | ((with_reducible refine gate_dst (N := 3) rfl ?_); refine sV (N := 3) (cs := #[.int .i64 a1_0, .int .i64 a1_1, .string a1_2, .int .i64 a1_3]) (t := 29) ?_; intro gb203 hg w25 hbox hb; have n0_ := sB HB hb; have n1_ := Aside0.mk (hbox); have n2_ := sG HB hg; have n3_ := sG HB hg; clear HB; have HB := n0_; have BK203 := n1_; have GW203 := n2_; have GE203 := n3_; clear n0_ n1_ n2_ n3_; clear hb hbox hg; obtain ⟨hcz26_0, hcz26_1, hcz26_2, hcz26_3, hfz26_0, hfz26_1, hfz26_2, hfz26_3⟩ := cells4 BK203.out) | (go_at_call 120; (with_reducible refine (spec_ValidValue.calls k a1_0 a1_1 a1_2 a1_3 true _ A3.out).mono ?_); rintro e w27 ⟨rfl, hb⟩; have n0_ := sK BK203 hb; have n1_ := sB HB hb; clear BK203; clear HB; have BK203 := n0_; have HB := n1_; clear n0_ n1_; (try clear hb); (try clear hb2); (try clear hk); (try clear hi); obtain ⟨hcz28_0, hcz28_1, hcz28_2, hcz28_3, hfz28_0, hfz28_1, hfz28_2, hfz28_3⟩ := cells4 BK203.out) | (go_at_call 75; (with_reducible refine (spec_l07IsRef.calls a1_0 a1_1 a1_2 a1_3 false _ A5.out).mono ?_); rintro e w29 ⟨rfl, hb⟩; have n0_ := sK BK203 hb; have n1_ := sB HB hb; clear BK203; clear HB; have BK203 := n0_; have HB := n1_; clear n0_ n1_; (try clear hb); (try clear hb2); (try clear hk); (try clear hi)))
  repeat (go_quiet (first | ((with_reducible refine gate_dst (N := 3) rfl ?_); refine sV (N := 3) (cs := #[.int .i64 a1_0, .int .i64 a1_1, .string a1_2, .int .i64 a1_3]) (t := 29) ?_; intro gb203 hg w25 hbox hb; have n0_ := sB HB hb; have n1_ := Aside0.mk (hbox); have n2_ := sG HB hg; have n3_ := sG HB hg; clear HB; have HB := n0_; have BK203 := n1_; have GW203 := n2_; have GE203 := n3_; clear n0_ n1_ n2_ n3_; clear hb hbox hg; obtain ⟨hcz26_0, hcz26_1, hcz26_2, hcz26_3, hfz26_0, hfz26_1, hfz26_2, hfz26_3⟩ := cells4 BK203.out) | (go_at_call 120; (with_reducible refine (spec_ValidValue.calls k a1_0 a1_1 a1_2 a1_3 true _ A3.out).mono ?_); rintro e w27 ⟨rfl, hb⟩; have n0_ := sK BK203 hb; have n1_ := sB HB hb; clear BK203; clear HB; have BK203 := n0_; have HB := n1_; clear n0_ n1_; (try clear hb); (try clear hb2); (try clear hk); (try clear hi); obtain ⟨hcz28_0, hcz28_1, hcz28_2, hcz28_3, hfz28_0, hfz28_1, hfz28_2, hfz28_3⟩ := cells4 BK203.out) | (go_at_call 75; (with_reducible refine (spec_l07IsRef.calls a1_0 a1_1 a1_2 a1_3 false _ A5.out).mono ?_); rintro e w29 ⟨rfl, hb⟩; have n0_ := sK BK203 hb; have n1_ := sB HB hb; clear BK203; clear HB; have BK203 := n0_; have HB := n1_; clear n0_ n1_; (try clear hb); (try clear hb2); (try clear hk); (try clear hi))); try go_wp2_with (first | ((with_reducible refine gate_dst (N := 3) rfl ?_); refine sV (N := 3) (cs := #[.int .i64 a1_0, .int .i64 a1_1, .string a1_2, .int .i64 a1_3]) (t := 29) ?_; intro gb203 hg w25 hbox hb; have n0_ := sB HB hb; have n1_ := Aside0.mk (hbox); have n2_ := sG HB hg; have n3_ := sG HB hg; clear HB; have HB := n0_; have BK203 := n1_; have GW203 := n2_; have GE203 := n3_; clear n0_ n1_ n2_ n3_; clear hb hbox hg; obtain ⟨hcz26_0, hcz26_1, hcz26_2, hcz26_3, hfz26_0, hfz26_1, hfz26_2, hfz26_3⟩ := cells4 BK203.out) | (go_at_call 120; (with_reducible refine (spec_ValidValue.calls k a1_0 a1_1 a1_2 a1_3 true _ A3.out).mono ?_); rintro e w27 ⟨rfl, hb⟩; have n0_ := sK BK203 hb; have n1_ := sB HB hb; clear BK203; clear HB; have BK203 := n0_; have HB := n1_; clear n0_ n1_; (try clear hb); (try clear hb2); (try clear hk); (try clear hi); obtain ⟨hcz28_0, hcz28_1, hcz28_2, hcz28_3, hfz28_0, hfz28_1, hfz28_2, hfz28_3⟩ := cells4 BK203.out) | (go_at_call 75; (with_reducible refine (spec_l07IsRef.calls a1_0 a1_1 a1_2 a1_3 false _ A5.out).mono ?_); rintro e w29 ⟨rfl, hb⟩; have n0_ := sK BK203 hb; have n1_ := sB HB hb; clear BK203; clear HB; have BK203 := n0_; have HB := n1_; clear n0_ n1_; (try clear hb); (try clear hb2); (try clear hk); (try clear hi))))
  go_ret
  exact ⟨sq, sb⟩
 replace c4 := Bool.eq_false_iff.mpr c4
 subst c4
 rewrite [if_neg (show ¬ (false = true) by decide)] at H
 obtain rfl := Option.some.inj H
 go_enter Try.func147, Try.ntmps147
 go_wp2_with (first | ((with_reducible refine gate_dst (N := 3) rfl ?_); refine sV (N := 3) (cs := #[.int .i64 a1_0, .int .i64 a1_1, .string a1_2, .int .i64 a1_3]) (t := 29) ?_; intro gb203 hg w30 hbox hb; have n0_ := sB HB hb; have n1_ := Aside0.mk (hbox); have n2_ := sG HB hg; have n3_ := sG HB hg; clear HB; have HB := n0_; have BK203 := n1_; have GW203 := n2_; have GE203 := n3_; clear n0_ n1_ n2_ n3_; clear hb hbox hg; obtain ⟨hcz31_0, hcz31_1, hcz31_2, hcz31_3, hfz31_0, hfz31_1, hfz31_2, hfz31_3⟩ := cells4 BK203.out) | (go_at_call 120; (with_reducible refine (spec_ValidValue.calls k a1_0 a1_1 a1_2 a1_3 false _ A3.out).mono ?_); rintro e w32 ⟨rfl, hb⟩; have n0_ := sK BK203 hb; have n1_ := sB HB hb; clear BK203; clear HB; have BK203 := n0_; have HB := n1_; clear n0_ n1_; (try clear hb); (try clear hb2); (try clear hk); (try clear hi)))
 repeat (go_quiet (first | ((with_reducible refine gate_dst (N := 3) rfl ?_); refine sV (N := 3) (cs := #[.int .i64 a1_0, .int .i64 a1_1, .string a1_2, .int .i64 a1_3]) (t := 29) ?_; intro gb203 hg w30 hbox hb; have n0_ := sB HB hb; have n1_ := Aside0.mk (hbox); have n2_ := sG HB hg; have n3_ := sG HB hg; clear HB; have HB := n0_; have BK203 := n1_; have GW203 := n2_; have GE203 := n3_; clear n0_ n1_ n2_ n3_; clear hb hbox hg; obtain ⟨hcz31_0, hcz31_1, hcz31_2, hcz31_3, hfz31_0, hfz31_1, hfz31_2, hfz31_3⟩ := cells4 BK203.out) | (go_at_call 120; (with_reducible refine (spec_ValidValue.calls k a1_0 a1_1 a1_2 a1_3 false _ A3.out).mono ?_); rintro e w32 ⟨rfl, hb⟩; have n0_ := sK BK203 hb; have n1_ := sB HB hb; clear BK203; clear HB; have BK203 := n0_; have HB := n1_; clear n0_ n1_; (try clear hb); (try clear hb2); (try clear hk); (try clear hi))); try go_wp2_with (first | ((with_reducible refine gate_dst (N := 3) rfl ?_); refine sV (N := 3) (cs := #[.int .i64 a1_0, .int .i64 a1_1, .string a1_2, .int .i64 a1_3]) (t := 29) ?_; intro gb203 hg w30 hbox hb; have n0_ := sB HB hb; have n1_ := Aside0.mk (hbox); have n2_ := sG HB hg; have n3_ := sG HB hg; clear HB; have HB := n0_; have BK203 := n1_; have GW203 := n2_; have GE203 := n3_; clear n0_ n1_ n2_ n3_; clear hb hbox hg; obtain ⟨hcz31_0, hcz31_1, hcz31_2, hcz31_3, hfz31_0, hfz31_1, hfz31_2, hfz31_3⟩ := cells4 BK203.out) | (go_at_call 120; (with_reducible refine (spec_ValidValue.calls k a1_0 a1_1 a1_2 a1_3 false _ A3.out).mono ?_); rintro e w32 ⟨rfl, hb⟩; have n0_ := sK BK203 hb; have n1_ := sB HB hb; clear BK203; clear HB; have BK203 := n0_; have HB := n1_; clear n0_ n1_; (try clear hb); (try clear hb2); (try clear hk); (try clear hi))))
 go_ret
 exact ⟨sq, sb⟩

/-! ### spec_l07FitAll: function 108 -/
def spec_l07FitAll.l0 : Nat → List (S34) → List (S29) → Int → Option (Bool)
 | 0, _, _, _ => none
 | k + 1, x0, x1, x5 => if x5 < (x1.length : Int) then (if 0 ≤ x5 then ((spec_l07Fits.f k x0 ((rd_T29 x1 x5).f0) ((rd_T29 x1 x5).f1) ((rd_T29 x1 x5).f2) ((rd_T29 x1 x5).f3)).bind fun t211 => (if t211 = true then (spec_l07FitAll.l0 k x0 x1 (wrap64 (x5 + 1))) else (some false))) else (none)) else (some true)
def spec_l07FitAll.f (k : Nat) (l0 : List (S34)) (l1 : List (S29)) : Option (Bool) := spec_l07FitAll.l0 k l0 l1 0
set_option maxHeartbeats 8000000 in
set_option maxRecDepth 100000 in
theorem spec_l07FitAll.calls (k : Nat) (A0 : Option Addr) (l0 : List (S34)) (A1 : Option Addr) (c1 : Nat) (l1 : List (S29)) (r : Bool) (w : World) (hr0 : Kd.C k34 w A0 l0.length l0) (hr1 : Kd.C k29 w A1 l1.length l1) (hc1 : l1.length ≤ c1) (h : spec_l07FitAll.f k l0 l1 = some r) :
  Calls Try.prog 108 #[.pointer A0, .slice A1 l1.length c1] w fun e w' => e = .returned (.bool r) ∧ Below w.heap.size w w' := by
 have hu29 := Try.underlying29
 have HR0 := Aside0.mk hr0
 have HC0 := Aside0.mk (Nat.le_refl l0.length)
 clear hr0
 have HR1 := Aside0.mk hr1
 have HC1 := Aside0.mk hc1
 clear hr1 hc1
 have HB := Aside0.mk (Below.refl w.heap.size w)
 have H : (spec_l07FitAll.l0 k l0 l1 0) = some r := h
 clear h
 have H' := Aside0.mk H
 clear H
 go_enter Try.func108, Try.ntmps108
 go_wp2
 go_loopg [5] k (fun kq v5 w' => ∃ (x5_1 : Int), v5 = .int .i64 x5_1 ∧ Aside0 (spec_l07FitAll.l0 kq l0 l1 x5_1 = some r) ∧ Aside0 (kq ≤ k) ∧ Aside0 (Below w.heap.size w w'))
 case atStart => exact ⟨(0), sr, H', ⟨Nat.le_refl _⟩, ⟨sb⟩⟩
 case round =>
  clear H'
  try clear c1
  try clear p2
  obtain ⟨x5_1, rfl, HA, HK1, HB⟩ := hrel
  cases gk with
  | zero => exact absurd HA.out (by simp [spec_l07FitAll.l0])
  | succ k1 =>
   have H := HA.out
   clear HA
   simp only [spec_l07FitAll.l0] at H
   by_cases c3 : x5_1 < (l1.length : Int)
   ·rw [if_pos c3] at H
    have c3b0 := decide_eq_true c3
    clear c3
    by_cases c4 : 0 ≤ x5_1
    ·rw [if_pos c4] at H
     have c4b0 := decide_eq_true c4
     clear c4
     obtain ⟨t211, A5, H⟩ := sO H
     by_cases c6 : t211 = true
     ·subst c6
      rewrite [if_pos rfl] at H
      have H' := Aside0.mk H
      clear H
      have p210 : 0 ≤ (x5_1 : Int) := of_decide_eq_true (by first | (with_reducible assumption) | assumption)
      have q210 : x5_1 < (l1.length : Int) := of_decide_eq_true (by first | (with_reducible assumption) | assumption)
      obtain ⟨ad210, e210, hx210_0, hx210_1, hx210_2, hx210_3⟩ := at_T29 HR1.out x5_1 p210 q210
      cases e210
      replace hx210_0 := sX HB hx210_0
      replace hx210_1 := sX HB hx210_1
      replace hx210_2 := sX HB hx210_2
      replace hx210_3 := sX HB hx210_3
      replace p210 := eq_true p210
      replace q210 := eq_true q210
      go_wp2_with (first | ((with_reducible refine gate_callee (f := 147) rfl ?_); refine sC (some 17) Try.func147 #[.pointer A0, .agg #[.int .i64 ((rd_T29 l1 x5_1).f0), .int .i64 ((rd_T29 l1 x5_1).f1), .string ((rd_T29 l1 x5_1).f2), .int .i64 ((rd_T29 l1 x5_1).f3)]] (spec_l07Fits.calls k1 _ l0 ((rd_T29 l1 x5_1).f0) ((rd_T29 l1 x5_1).f1) ((rd_T29 l1 x5_1).f2) ((rd_T29 l1 x5_1).f3) true _ ?side1 A5.out) ?_; (case side1 => exact sD (Kd.C_below HR0.out HB.out)); rintro e w7 ⟨rfl, hb⟩; refine ⟨_, rfl, ?_⟩; have n0_ := sB HB hb; clear HB; have HB := n0_; clear n0_; (try clear hb); (try clear hb2); (try clear hk); (try clear hi)))
      go_roundg k1
      case measure => have := HK1.out; omega
      case rel => exact ⟨(wrap64 (x5_1 + 1)), sr, H', ⟨by have := HK1.out; omega⟩, ⟨sb⟩⟩
     replace c6 := Bool.eq_false_iff.mpr c6
     subst c6
     rewrite [if_neg (show ¬ (false = true) by decide)] at H
     obtain rfl := Option.some.inj H
     have p210 : 0 ≤ (x5_1 : Int) := of_decide_eq_true (by first | (with_reducible assumption) | assumption)
     have q210 : x5_1 < (l1.length : Int) := of_decide_eq_true (by first | (with_reducible assumption) | assumption)
     obtain ⟨ad210, e210, hx210_0, hx210_1, hx210_2, hx210_3⟩ := at_T29 HR1.out x5_1 p210 q210
     cases e210
     replace hx210_0 := sX HB hx210_0
     replace hx210_1 := sX HB hx210_1
     replace hx210_2 := sX HB hx210_2
     replace hx210_3 := sX HB hx210_3
     replace p210 := eq_true p210
     replace q210 := eq_true q210
     go_wp2_with (first | ((with_reducible refine gate_callee (f := 147) rfl ?_); refine sC (some 17) Try.func147 #[.pointer A0, .agg #[.int .i64 ((rd_T29 l1 x5_1).f0), .int .i64 ((rd_T29 l1 x5_1).f1), .string ((rd_T29 l1 x5_1).f2), .int .i64 ((rd_T29 l1 x5_1).f3)]] (spec_l07Fits.calls k1 _ l0 ((rd_T29 l1 x5_1).f0) ((rd_T29 l1 x5_1).f1) ((rd_T29 l1 x5_1).f2) ((rd_T29 l1 x5_1).f3) false _ ?side1 A5.out) ?_; (case side1 => exact sD (Kd.C_below HR0.out HB.out)); rintro e w8 ⟨rfl, hb⟩; refine ⟨_, rfl, ?_⟩; have n0_ := sB HB hb; clear HB; have HB := n0_; clear n0_; (try clear hb); (try clear hb2); (try clear hk); (try clear hi)))
     go_ret
     exact ⟨sq, sb⟩
    rw [if_neg c4] at H
    exact absurd H (by simp)
   rw [if_neg c3] at H
   have c3b0 := decide_eq_false c3
   clear c3
   obtain rfl := Option.some.inj H
   go_wp2
   go_ret
   exact ⟨sq, sb⟩
end Go.Proofs.Ytnjkhdhaiicefaa.PFnExactGetField
