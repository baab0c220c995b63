/- Printed functions: spec_l07Ok. -/
import Derived.Test.YtnjkhdhaiicefaaYGfP0
import Derived.Test.YtnjkhdhaiicefaaYGfP4
import Derived.Test.YtnjkhdhaiicefaaYGfP8
import Derived.Test.YtnjkhdhaiicefaaYGfP10
namespace Go.Proofs.Ytnjkhdhaiicefaa.PFnExactGetField
open Go.RowKit Go.Proofs.YtnjkhdhaiicefaaG Go.Proofs.YtnjkhdhaiicefaaW.PrintWords Go.Proofs.YtnjkhdhaiicefaaW.PrintLast Go.Proofs.YtnjkhdhaiicefaaW.PrintMore
attribute [local go_sem] max2_int min2_int max_two min_two max_three min_three max_four min_four   -- for this text's walks alone
set_option linter.unusedVariables false
set_option linter.unusedSimpArgs false
/-! ### spec_l07Ok: function 101 -/
mutual
def spec_l07Ok.j0 : Nat → List (S34) → Bool → Option (Bool)
 | 0, _, _ => none
 | k + 1, x0, x19 => if x19 = true then (some false) else (spec_l07Ok.l0 k x0 0)
def spec_l07Ok.l0 : Nat → List (S34) → Int → Option (Bool)
 | 0, _, _ => none
 | k + 1, x0, x3 => if 0 < (x0.length : Int) then (if x3 < (((rd_T34 x0 0).f1).length : Int) then (if 0 ≤ x3 then ((spec_l07Object.f k ((rd_T56 ((rd_T34 x0 0).f1) x3).f0) ((rd_T56 ((rd_T34 x0 0).f1) x3).f1) ((rd_T56 ((rd_T34 x0 0).f1) x3).f2) ((rd_T56 ((rd_T34 x0 0).f1) x3).f3) ((rd_T56 ((rd_T34 x0 0).f1) x3).f4) ((rd_T56 ((rd_T34 x0 0).f1) x3).f5) ((rd_T56 ((rd_T34 x0 0).f1) x3).f6.f0) ((rd_T56 ((rd_T34 x0 0).f1) x3).f6.f1) ((rd_T56 ((rd_T34 x0 0).f1) x3).f6.f2) ((rd_T56 ((rd_T34 x0 0).f1) x3).f6.f3)).bind fun t226 => (if t226 = true then (if ((rd_T56 ((rd_T34 x0 0).f1) x3).f0) > ((rd_T34 x0 0).f0) then (spec_l07Ok.j2 k x0 x3 true) else (if x3 > 0 then (if 0 ≤ (wrap64 (x3 - 1)) then (if (wrap64 (x3 - 1)) < (((rd_T34 x0 0).f1).length : Int) then (spec_l07Ok.j2 k x0 x3 (decide (((rd_T56 ((rd_T34 x0 0).f1) (wrap64 (x3 - 1))).f0) ≥ ((rd_T56 ((rd_T34 x0 0).f1) x3).f0)))) else (none)) else (none)) else (spec_l07Ok.j2 k x0 x3 false))) else (spec_l07Ok.j2 k x0 x3 true))) else (none)) else (spec_l07Ok.l1 k x0 0)) else (none)
def spec_l07Ok.j2 : Nat → List (S34) → Int → Bool → Option (Bool)
 | 0, _, _, _ => none
 | k + 1, x0, x3, x65 => if x65 = true then (some false) else (spec_l07Ok.l0 k x0 (wrap64 (x3 + 1)))
def spec_l07Ok.l1 : Nat → List (S34) → Int → Option (Bool)
 | 0, _, _ => none
 | k + 1, x0, x5 => if 0 < (x0.length : Int) then (if x5 < (((rd_T34 x0 0).f1).length : Int) then (if 0 ≤ x5 then ((spec_l07Refs.f k x0 [rd_T56 ((rd_T34 x0 0).f1) x5]).bind fun t233 => (if t233 = true then (spec_l07Ok.l1 k x0 (wrap64 (x5 + 1))) else (some false))) else (none)) else (some true)) else (none)
end
def spec_l07Ok.f (k : Nat) (l0 : List (S34)) : Option (Bool) := if 0 < (l0.length : Int) then ((spec_l00In.f ((rd_T34 l0 0).f0) 0 1000000).bind fun t220 => (if t220 = true then (spec_l07Ok.j0 k l0 (decide ((((rd_T34 l0 0).f1).length : Int) > 40))) else (spec_l07Ok.j0 k l0 true))) else (none)
def spec_l07Ok.T7 : Bool × List (List Nat × List Nat) := (true, [([], []), ([0], [0]), ([1], [1]), ([2, 1], [2]), ([3], [3]), ([4, 3], [3, 4]), ([3], [3]), ([6, 3], [3, 6]), ([7, 3], [3, 7]), ([8, 3], [3, 8]), ([5, 9, 3], [3, 5, 9]), ([3, 10], [3, 10]), ([11, 3], [11]), ([12], [12]), ([13, 12], [12, 13]), ([14, 12, 12], [12, 14]), ([15], [15]), ([16, 15], [15, 16]), ([17, 15], [15, 17]), ([18, 15], [15, 18]), ([15], [15]), ([20, 15], [15, 20]), ([19, 21, 15], [15, 19, 21]), ([22, 15], [15, 22]), ([23, 15], [15, 23]), ([15], [15]), ([25, 15], [15, 25]), ([24, 26, 15], [15, 24, 26]), ([15, 27, 12], [12, 15, 27]), ([12, 28], [12, 28])])
def spec_l07Ok.B7 : List Nat := [0, 1, 3, 7, 15, 31, 15, 79, 207, 463, 1023, 2047, 4095, 8191, 16383, 32767, 65535, 131071, 262143, 524287, 65535, 1114111, 4194303, 8388607, 16777215, 65535, 33619967, 134217727, 268435455, 536870911]
theorem spec_l07Ok.tab7 : rtab .any (opsOf Try.f101 7) = spec_l07Ok.T7 := by kernel_rfl
theorem spec_l07Ok.bits7 : waitsOk spec_l07Ok.T7.2 spec_l07Ok.B7 = true := by kernel_rfl
set_option maxHeartbeats 8000000 in
set_option maxRecDepth 100000 in
theorem spec_l07Ok.calls (k : Nat) (A0 : Option Addr) (l0 : List (S34)) (r : Bool) (w : World) (hr0 : Kd.C k34 w A0 l0.length l0) (h : spec_l07Ok.f k l0 = some r) :
  Calls Try.prog 101 #[.pointer A0] w fun e w' => e = .returned (.bool r) ∧ Below w.heap.size w w' := by
 have hu56 := Try.underlying56
 have HR0 := Aside0.mk hr0
 have HC0 := Aside0.mk (Nat.le_refl l0.length)
 clear hr0
 have HB := Aside0.mk (Below.refl w.heap.size w)
 have H : (if 0 < (l0.length : Int) then ((spec_l00In.f ((rd_T34 l0 0).f0) 0 1000000).bind fun t220 => (if t220 = true then (spec_l07Ok.j0 k l0 (decide ((((rd_T34 l0 0).f1).length : Int) > 40))) else (spec_l07Ok.j0 k l0 true))) else (none)) = some r := h
 clear h
 have HC2 := Aside0.mk H
 clear H
 go_enter Try.func101, Try.ntmps101
 go_upto_region 1 with (fail)
 go_cut [19] (fun v19 wc => ∃ (kq : Nat) (x19_1 : Bool), v19 = .bool x19_1 ∧ Aside0 (spec_l07Ok.j0 kq l0 x19_1 = some r) ∧ Aside0 (kq ≤ k) ∧ Aside0 (Below w.heap.size w wc))
 case first =>
  have H := HC2.out
  clear HC2
  by_cases c3 : 0 < (l0.length : Int)
  ·rw [if_pos c3] at H
   have c3b0 := decide_eq_true c3
   have c3b1 : decide (0 < l0.length) = true := decide_eq_true (by omega)
   clear c3
   (first | rw [c3b0] | (simp only [i64_w, i32_w]; rw [c3b0]) | rw [c3b2] | skip)
   obtain ⟨t220, A4, H⟩ := sO H
   by_cases c5 : t220 = true
   ·subst c5
    rewrite [if_pos rfl] at H
    have H' := Aside0.mk H
    clear H
    have p219 : 0 ≤ (0 : Int) := (by omega)
    have q219 : 0 < (l0.length : Int) := of_decide_eq_true (by first | (with_reducible assumption) | assumption)
    obtain ⟨ad219, A219_1, c219_1, e219, hx219_0, hx219_1, hl219_1, hi219_1⟩ := at_T34 HR0.out 0 p219 q219
    cases e219
    have qi219 : (0 < l0.length) = True := eq_true (by omega)
    (try rw [sZ] at hx219_0)
    (try rw [sZ] at hx219_1)
    replace hx219_0 := sX HB hx219_0
    replace hx219_1 := sX HB hx219_1
    have HR219_1 := Aside0.mk hi219_1
    have HC219_1 := Aside0.mk hl219_1
    clear hi219_1 hl219_1
    replace p219 := eq_true p219
    replace q219 := eq_true q219
    go_wp2_with (first | ((with_reducible refine gate_callee (f := 112) rfl ?_); refine sC (some 10) Try.func112 #[.int .i64 ((rd_T34 l0 0).f0), .int .i64 0, .int .i64 1000000] (spec_l00In.calls ((rd_T34 l0 0).f0) 0 1000000 true _ A4.out) ?_; rintro e w' ⟨rfl, ⟨nd, rfl⟩⟩; refine ⟨_, rfl, ?_⟩; have p221 : 0 ≤ (0 : Int) := (by omega); have q221 : 0 < (l0.length : Int) := of_decide_eq_true (by first | (with_reducible assumption) | assumption); obtain ⟨ad221, A221_1, c221_1, e221, hx221_0, hx221_1, hl221_1, hi221_1⟩ := at_T34 HR0.out 0 p221 q221; obtain rfl : ad219 = ad221 := (by injection e221); have qi221 : (0 < l0.length) = True := eq_true (by omega); (try rw [show ((0 : Int)).toNat = 0 from rfl] at hx221_0); (try rw [show 0 * 2 = 0 from rfl] at hx221_0); (try rw [Addr.add_zero'] at hx221_0); (try rw [show ((0 : Int)).toNat = 0 from rfl] at hx221_1); (try rw [show 0 * 2 = 0 from rfl] at hx221_1); (try rw [Addr.add_zero'] at hx221_1); replace hx221_0 := sX HB hx221_0; replace hx221_1 := sX HB hx221_1; have HR221_1 := Aside0.mk hi221_1; have HC221_1 := Aside0.mk hl221_1; clear hi221_1 hl221_1; replace p221 := eq_true p221; replace q221 := eq_true q221; have ea_ := Option.some.inj (hx219_1.symm.trans hx221_1); injection ea_ with ea_ en_ ec_; subst ea_; subst ec_; clear en_))
    go_meet
    case rel => exact ⟨_, (decide ((((rd_T34 l0 0).f1).length : Int) > 40)), sr, H', ⟨by first | omega | exact Nat.le_refl _⟩, ⟨sb⟩⟩
   replace c5 := Bool.eq_false_iff.mpr c5
   subst c5
   rewrite [if_neg (show ¬ (false = true) by decide)] at H
   have H' := Aside0.mk H
   clear H
   have p219 : 0 ≤ (0 : Int) := (by omega)
   have q219 : 0 < (l0.length : Int) := of_decide_eq_true (by first | (with_reducible assumption) | assumption)
   obtain ⟨ad219, A219_1, c219_1, e219, hx219_0, hx219_1, hl219_1, hi219_1⟩ := at_T34 HR0.out 0 p219 q219
   cases e219
   have qi219 : (0 < l0.length) = True := eq_true (by omega)
   (try rw [sZ] at hx219_0)
   (try rw [sZ] at hx219_1)
   replace hx219_0 := sX HB hx219_0
   replace hx219_1 := sX HB hx219_1
   have HR219_1 := Aside0.mk hi219_1
   have HC219_1 := Aside0.mk hl219_1
   clear hi219_1 hl219_1
   replace p219 := eq_true p219
   replace q219 := eq_true q219
   go_wp2_with (first | ((with_reducible refine gate_callee (f := 112) rfl ?_); refine sC (some 10) Try.func112 #[.int .i64 ((rd_T34 l0 0).f0), .int .i64 0, .int .i64 1000000] (spec_l00In.calls ((rd_T34 l0 0).f0) 0 1000000 false _ A4.out) ?_; rintro e w' ⟨rfl, ⟨nd, rfl⟩⟩; refine ⟨_, rfl, ?_⟩))
   go_meet
   case rel => exact ⟨_, (true), sr, H', ⟨by first | omega | exact Nat.le_refl _⟩, ⟨sb⟩⟩
  rw [if_neg c3] at H
  exact absurd H (by simp)
 case rest =>
  clear HC2
  try clear c1
  try clear c2
  try clear p2
  try clear q2
  try clear hx2
  try clear qi2
  try clear c3
  try clear c3b0
  try clear c3b1
  try clear c3b2
  try clear c5
  try clear hx219_0
  try clear hx219_1
  try clear hx221_0
  try clear hx221_1
  try clear p219
  try clear p221
  try clear q219
  try clear q221
  obtain ⟨kq, x19_1, rfl, HA, HJ1, HB⟩ := hcut
  cases kq with
  | zero => exact absurd HA.out (by simp [spec_l07Ok.j0])
  | succ kj1 =>
   have H := HA.out
   clear HA
   simp only [spec_l07Ok.j0] at H
   by_cases c6 : x19_1 = true
   ·subst c6
    rewrite [if_pos rfl] at H
    obtain rfl := Option.some.inj H
    go_wp2
    go_ret
    exact ⟨sq, sb⟩
   replace c6 := Bool.eq_false_iff.mpr c6
   subst c6
   rewrite [if_neg (show ¬ (false = true) by decide)] at H
   have H' := Aside0.mk H
   clear H
   go_wp2
   go_loopg [3] kj1 (fun kq v3 w' => ∃ (x3_2 : Int), v3 = .int .i64 x3_2 ∧ Aside0 (spec_l07Ok.l0 kq l0 x3_2 = some r) ∧ Aside0 (kq ≤ kj1) ∧ Aside0 (Below w.heap.size w w'))
   case atStart => exact ⟨(0), sr, H', ⟨Nat.le_refl _⟩, ⟨sb⟩⟩
   case round =>
    clear H'
    try clear c1
    try clear c2
    try clear p2
    try clear q2
    try clear hx2
    try clear qi2
    try clear c3
    try clear c3b0
    try clear c3b1
    try clear c3b2
    try clear c5
    try clear c6
    try clear hx219_0
    try clear hx219_1
    try clear hx221_0
    try clear hx221_1
    try clear p2
    try clear p219
    try clear p221
    try clear q2
    try clear q219
    try clear q221
    obtain ⟨x3_2, rfl, HA, HK2, HB⟩ := hrel
    cases gk with
    | zero => exact absurd HA.out (by simp [spec_l07Ok.l0])
    | succ k2 =>
     have H := HA.out
     clear HA
     simp only [spec_l07Ok.l0] at H
     by_cases c7 : 0 < (l0.length : Int)
     ·rw [if_pos c7] at H
      have c7b0 := decide_eq_true c7
      have c7b1 : decide (0 < l0.length) = true := decide_eq_true (by omega)
      clear c7
      by_cases c8 : x3_2 < (((rd_T34 l0 0).f1).length : Int)
      ·rw [if_pos c8] at H
       have c8b0 := decide_eq_true c8
       clear c8
       by_cases c9 : 0 ≤ x3_2
       ·rw [if_pos c9] at H
        have c9b0 := decide_eq_true c9
        clear c9
        have HC10 := Aside0.mk H
        clear H
        have p222 : 0 ≤ (0 : Int) := (by omega)
        have q222 : 0 < (l0.length : Int) := of_decide_eq_true (by first | (with_reducible assumption) | assumption)
        obtain ⟨ad222, A222_1, c222_1, e222, hx222_0, hx222_1, hl222_1, hi222_1⟩ := at_T34 HR0.out 0 p222 q222
        cases e222
        have qi222 : (0 < l0.length) = True := eq_true (by omega)
        (try rw [sZ] at hx222_0)
        (try rw [sZ] at hx222_1)
        replace hx222_0 := sX HB hx222_0
        replace hx222_1 := sX HB hx222_1
        have HR222_1 := Aside0.mk hi222_1
        have HC222_1 := Aside0.mk hl222_1
        clear hi222_1 hl222_1
        replace p222 := eq_true p222
        replace q222 := eq_true q222
        have p223 : 0 ≤ (0 : Int) := (by omega)
        have q223 : 0 < (l0.length : Int) := of_decide_eq_true (by first | (with_reducible assumption) | assumption)
        obtain ⟨ad223, A223_1, c223_1, e223, hx223_0, hx223_1, hl223_1, hi223_1⟩ := at_T34 HR0.out 0 p223 q223
        obtain rfl : ad222 = ad223 := (by injection e223)
        have qi223 : (0 < l0.length) = True := eq_true (by omega)
        (try rw [sZ] at hx223_0)
        (try rw [sZ] at hx223_1)
        replace hx223_0 := sX HB hx223_0
        replace hx223_1 := sX HB hx223_1
        have HR223_1 := Aside0.mk hi223_1
        have HC223_1 := Aside0.mk hl223_1
        clear hi223_1 hl223_1
        replace p223 := eq_true p223
        replace q223 := eq_true q223
        have ea_ := Option.some.inj (hx222_1.symm.trans hx223_1)
        injection ea_ with ea_ en_ ec_
        subst ea_
        subst ec_
        clear en_
        have p224 : 0 ≤ (x3_2 : Int) := of_decide_eq_true (by first | (with_reducible assumption) | assumption)
        have q224 : x3_2 < (((rd_T34 l0 0).f1).length : Int) := of_decide_eq_true (by first | (with_reducible assumption) | assumption)
        obtain ⟨ad224, A224_4, c224_4, A224_5, c224_5, e224, hx224_0, hx224_1, hx224_2, hx224_3, hx224_4, hx224_5, hx224_6, hx224_7, hx224_8, hx224_9, hl224_4, hi224_4, hl224_5, hi224_5⟩ := at_T56 HR223_1.out x3_2 p224 q224
        cases e224
        replace hx224_0 := sX HB hx224_0
        replace hx224_1 := sX HB hx224_1
        replace hx224_2 := sX HB hx224_2
        replace hx224_3 := sX HB hx224_3
        replace hx224_4 := sX HB hx224_4
        replace hx224_5 := sX HB hx224_5
        replace hx224_6 := sX HB hx224_6
        replace hx224_7 := sX HB hx224_7
        replace hx224_8 := sX HB hx224_8
        replace hx224_9 := sX HB hx224_9
        have HR224_4 := Aside0.mk hi224_4
        have HC224_4 := Aside0.mk hl224_4
        clear hi224_4 hl224_4
        have HR224_5 := Aside0.mk hi224_5
        have HC224_5 := Aside0.mk hl224_5
        clear hi224_5 hl224_5
        replace p224 := eq_true p224
        replace q224 := eq_true q224
        go_upto_region 7 with (first | ((with_reducible refine gate_dst (N := 4) rfl ?_); (try (refine gate_guard (by rfl) ?_; dsimp only)); refine sV (N := 4) (cs := #[.int .i64 0, .int .i64 0, .string (⟨#[]⟩ : ByteArray), .int .i64 0, .slice none 0 0, .slice none 0 0, .int .i64 0, .int .i64 0, .string (⟨#[]⟩ : ByteArray), .int .i64 0]) (t := 56) ?_; intro gb225 hg w11 hbox hb; have n0_ := sB HB hb; have n1_ := Aside0.mk (hbox); have n2_ := sG HB hg; have n3_ := sG HB hg; clear HB; have HB := n0_; have BK225 := n1_; have GW225 := n2_; have GE225 := n3_; clear n0_ n1_ n2_ n3_; clear hb hbox hg; obtain ⟨hcz12_0, hcz12_1, hcz12_2, hcz12_3, hcz12_4, hcz12_5, hcz12_6, hcz12_7, hcz12_8, hcz12_9, hfz12_0, hfz12_1, hfz12_2, hfz12_3, hfz12_4, hfz12_5, hfz12_6, hfz12_7, hfz12_8, hfz12_9⟩ := cells10 BK225.out))
        (try simp only [Act.put, List.setIfInBounds_toArray, List.set_cons_zero, List.set_cons_succ])
        go_cut [65] (fun v65 wc => ∃ (kq : Nat) (x65_9 : Bool), v65 = .bool x65_9 ∧ Aside0 (spec_l07Ok.j2 kq l0 x3_2 x65_9 = some r) ∧ Aside0 (kq ≤ k2) ∧ Aside0 (wc.heap[gb225]? = some (.cells #[.int .i64 ((rd_T56 ((rd_T34 l0 0).f1) x3_2).f0), .int .i64 ((rd_T56 ((rd_T34 l0 0).f1) x3_2).f1), .string ((rd_T56 ((rd_T34 l0 0).f1) x3_2).f2), .int .i64 ((rd_T56 ((rd_T34 l0 0).f1) x3_2).f3), (.slice A224_4 ((rd_T56 ((rd_T34 l0 0).f1) x3_2).f4).length c224_4), (.slice A224_5 ((rd_T56 ((rd_T34 l0 0).f1) x3_2).f5).length c224_5), .int .i64 ((rd_T56 ((rd_T34 l0 0).f1) x3_2).f6.f0), .int .i64 ((rd_T56 ((rd_T34 l0 0).f1) x3_2).f6.f1), .string ((rd_T56 ((rd_T34 l0 0).f1) x3_2).f6.f2), .int .i64 ((rd_T56 ((rd_T34 l0 0).f1) x3_2).f6.f3)] 56 (0, 0))) ∧ Aside0 (Below w.heap.size w wc))
        case first =>
         have H := HC10.out
         clear HC10
         obtain ⟨t226, A13, H⟩ := sO H
         by_cases c14 : t226 = true
         ·subst c14
          rewrite [if_pos rfl] at H
          by_cases c15 : ((rd_T56 ((rd_T34 l0 0).f1) x3_2).f0) > ((rd_T34 l0 0).f0)
          ·rw [if_pos c15] at H
           have c15b0 : decide (((rd_T34 l0 0).f0) < ((rd_T56 ((rd_T34 l0 0).f1) x3_2).f0)) = true := decide_eq_true c15
           clear c15
           (first | rw [c15b0] | (simp only [i64_w, i32_w]; rw [c15b0]) | rw [c15b2] | skip)
           have H' := Aside0.mk H
           clear H
           try go_wp2
           have n0_ : Aside0 (((((((((((w11.setCell ⟨gb225, 0, none⟩ (.int .i64 ((rd_T56 ((rd_T34 l0 0).f1) x3_2).f0))).setCell ⟨gb225, 1, none⟩ (.int .i64 ((rd_T56 ((rd_T34 l0 0).f1) x3_2).f1))).setCell ⟨gb225, 2, none⟩ (.string ((rd_T56 ((rd_T34 l0 0).f1) x3_2).f2))).setCell ⟨gb225, 3, none⟩ (.int .i64 ((rd_T56 ((rd_T34 l0 0).f1) x3_2).f3))).setCell ⟨gb225, 4, none⟩ (.slice A224_4 ((rd_T56 ((rd_T34 l0 0).f1) x3_2).f4).length c224_4)).setCell ⟨gb225, 5, none⟩ (.slice A224_5 ((rd_T56 ((rd_T34 l0 0).f1) x3_2).f5).length c224_5)).setCell ⟨gb225, 6, none⟩ (.int .i64 ((rd_T56 ((rd_T34 l0 0).f1) x3_2).f6.f0))).setCell ⟨gb225, 7, none⟩ (.int .i64 ((rd_T56 ((rd_T34 l0 0).f1) x3_2).f6.f1))).setCell ⟨gb225, 8, none⟩ (.string ((rd_T56 ((rd_T34 l0 0).f1) x3_2).f6.f2))).setCell ⟨gb225, 9, none⟩ (.int .i64 ((rd_T56 ((rd_T34 l0 0).f1) x3_2).f6.f3))).heap[gb225]? = some (.cells #[.int .i64 ((rd_T56 ((rd_T34 l0 0).f1) x3_2).f0), .int .i64 ((rd_T56 ((rd_T34 l0 0).f1) x3_2).f1), .string ((rd_T56 ((rd_T34 l0 0).f1) x3_2).f2), .int .i64 ((rd_T56 ((rd_T34 l0 0).f1) x3_2).f3), .slice A224_4 ((rd_T56 ((rd_T34 l0 0).f1) x3_2).f4).length c224_4, .slice A224_5 ((rd_T56 ((rd_T34 l0 0).f1) x3_2).f5).length c224_5, .int .i64 ((rd_T56 ((rd_T34 l0 0).f1) x3_2).f6.f0), .int .i64 ((rd_T56 ((rd_T34 l0 0).f1) x3_2).f6.f1), .string ((rd_T56 ((rd_T34 l0 0).f1) x3_2).f6.f2), .int .i64 ((rd_T56 ((rd_T34 l0 0).f1) x3_2).f6.f3)] 56 (0, 0))) := ⟨sP10 (sT BK225.out)⟩
           have n1_ : Aside0 (Below w.heap.size w ((((((((((w11.setCell ⟨gb225, 0, none⟩ (.int .i64 ((rd_T56 ((rd_T34 l0 0).f1) x3_2).f0))).setCell ⟨gb225, 1, none⟩ (.int .i64 ((rd_T56 ((rd_T34 l0 0).f1) x3_2).f1))).setCell ⟨gb225, 2, none⟩ (.string ((rd_T56 ((rd_T34 l0 0).f1) x3_2).f2))).setCell ⟨gb225, 3, none⟩ (.int .i64 ((rd_T56 ((rd_T34 l0 0).f1) x3_2).f3))).setCell ⟨gb225, 4, none⟩ (.slice A224_4 ((rd_T56 ((rd_T34 l0 0).f1) x3_2).f4).length c224_4)).setCell ⟨gb225, 5, none⟩ (.slice A224_5 ((rd_T56 ((rd_T34 l0 0).f1) x3_2).f5).length c224_5)).setCell ⟨gb225, 6, none⟩ (.int .i64 ((rd_T56 ((rd_T34 l0 0).f1) x3_2).f6.f0))).setCell ⟨gb225, 7, none⟩ (.int .i64 ((rd_T56 ((rd_T34 l0 0).f1) x3_2).f6.f1))).setCell ⟨gb225, 8, none⟩ (.string ((rd_T56 ((rd_T34 l0 0).f1) x3_2).f6.f2))).setCell ⟨gb225, 9, none⟩ (.int .i64 ((rd_T56 ((rd_T34 l0 0).f1) x3_2).f6.f3)))) := ⟨sb⟩
           (try clear BK225)
           (try clear HB)
           generalize ((((((((((w11.setCell ⟨gb225, 0, none⟩ (.int .i64 ((rd_T56 ((rd_T34 l0 0).f1) x3_2).f0))).setCell ⟨gb225, 1, none⟩ (.int .i64 ((rd_T56 ((rd_T34 l0 0).f1) x3_2).f1))).setCell ⟨gb225, 2, none⟩ (.string ((rd_T56 ((rd_T34 l0 0).f1) x3_2).f2))).setCell ⟨gb225, 3, none⟩ (.int .i64 ((rd_T56 ((rd_T34 l0 0).f1) x3_2).f3))).setCell ⟨gb225, 4, none⟩ (.slice A224_4 ((rd_T56 ((rd_T34 l0 0).f1) x3_2).f4).length c224_4)).setCell ⟨gb225, 5, none⟩ (.slice A224_5 ((rd_T56 ((rd_T34 l0 0).f1) x3_2).f5).length c224_5)).setCell ⟨gb225, 6, none⟩ (.int .i64 ((rd_T56 ((rd_T34 l0 0).f1) x3_2).f6.f0))).setCell ⟨gb225, 7, none⟩ (.int .i64 ((rd_T56 ((rd_T34 l0 0).f1) x3_2).f6.f1))).setCell ⟨gb225, 8, none⟩ (.string ((rd_T56 ((rd_T34 l0 0).f1) x3_2).f6.f2))).setCell ⟨gb225, 9, none⟩ (.int .i64 ((rd_T56 ((rd_T34 l0 0).f1) x3_2).f6.f3))) = w16 at n0_ n1_ ⊢
           have BK225 := n0_
           have HB := n1_
           clear n0_ n1_
           have n0_ := Aside0.mk (blk_drew BK225.out)
           have n1_ := Aside0.mk (below_drew1 HB.out)
           clear BK225
           clear HB
           have BK225 := n0_
           have HB := n1_
           clear n0_ n1_
           have p227 : 0 ≤ (0 : Int) := (by omega)
           have q227 : 0 < (l0.length : Int) := of_decide_eq_true (by first | (with_reducible assumption) | assumption)
           obtain ⟨ad227, A227_1, c227_1, e227, hx227_0, hx227_1, hl227_1, hi227_1⟩ := at_T34 HR0.out 0 p227 q227
           have hw227_1 := hx227_1
           (try rw [sZ] at hw227_1)
           have hw227_0 := hx227_0
           (try rw [sZ] at hw227_0)
           obtain rfl : ad222 = ad227 := (by injection e227)
           have qi227 : (0 < l0.length) = True := eq_true (by omega)
           (try rw [sZ] at hx227_0)
           (try rw [sZ] at hx227_1)
           replace hx227_0 := sX HB hx227_0
           replace hx227_1 := sX HB hx227_1
           have HR227_1 := Aside0.mk hi227_1
           have HC227_1 := Aside0.mk hl227_1
           clear hi227_1 hl227_1
           replace p227 := eq_true p227
           replace q227 := eq_true q227
           refine start_ (n := 30) (S := fun w' => w'.cell? ⟨gb225, 0, none⟩ = some (.int .i64 ((rd_T56 ((rd_T34 l0 0).f1) x3_2).f0)) ∧ w'.cell? ⟨gb225, 1, none⟩ = some (.int .i64 ((rd_T56 ((rd_T34 l0 0).f1) x3_2).f1)) ∧ w'.cell? ⟨gb225, 2, none⟩ = some (.string ((rd_T56 ((rd_T34 l0 0).f1) x3_2).f2)) ∧ w'.cell? ⟨gb225, 3, none⟩ = some (.int .i64 ((rd_T56 ((rd_T34 l0 0).f1) x3_2).f3)) ∧ w'.cell? ⟨gb225, 4, none⟩ = some (.slice A224_4 ((rd_T56 ((rd_T34 l0 0).f1) x3_2).f4).length c224_4) ∧ w'.cell? ⟨gb225, 5, none⟩ = some (.slice A224_5 ((rd_T56 ((rd_T34 l0 0).f1) x3_2).f5).length c224_5) ∧ w'.cell? ⟨gb225, 6, none⟩ = some (.int .i64 ((rd_T56 ((rd_T34 l0 0).f1) x3_2).f6.f0)) ∧ w'.cell? ⟨gb225, 7, none⟩ = some (.int .i64 ((rd_T56 ((rd_T34 l0 0).f1) x3_2).f6.f1)) ∧ w'.cell? ⟨gb225, 8, none⟩ = some (.string ((rd_T56 ((rd_T34 l0 0).f1) x3_2).f6.f2)) ∧ w'.cell? ⟨gb225, 9, none⟩ = some (.int .i64 ((rd_T56 ((rd_T34 l0 0).f1) x3_2).f6.f3)) ∧ w'.cell? ad222 = some (.int .i64 ((rd_T34 l0 0).f0)) ∧ w'.cell? ⟨ad222.block, ad222.off + 1, none⟩ = some (.slice A227_1 ((rd_T34 l0 0).f1).length c227_1)) (ds := []) #[false, false, false, false, false, false, false, false, false, false, false, false, false, false, false, false, false, false, false, false, false, false, false, false, false, false, false, false, false, false] (by kernel_rfl) rfl rfl ⟨(blk_cell BK225.out 0).trans rfl, (blk_cell BK225.out 1).trans rfl, (blk_cell BK225.out 2).trans rfl, (blk_cell BK225.out 3).trans rfl, (blk_cell BK225.out 4).trans rfl, (blk_cell BK225.out 5).trans rfl, (blk_cell BK225.out 6).trans rfl, (blk_cell BK225.out 7).trans rfl, (blk_cell BK225.out 8).trans rfl, (blk_cell BK225.out 9).trans rfl, ((HB.out.cell (World.block_lt_of_cell? w _ hw227_0)).trans hw227_0), ((HB.out.cell (World.block_lt_of_cell? w _ hw227_1)).trans hw227_1)⟩ (fun hHeld => ?_); refine with_tabW spec_l07Ok.tab7 spec_l07Ok.bits7 (fun HT_ HW_ => ?_)
           generalize w16.drew = w17 at BK225 HB HR227_1 hx227_0 hx227_1 hHeld ⊢
           refine take_ (i := 0) (N := some 36) (v := ?_) (a' := ?_) (bN 30 1) rfl rfl (take_ofW HT_.out HW_.out (by kernel_rfl)) (fun _ _ _ h => h) (Or.inl ⟨by rfl, ?_⟩) hHeld ?_ ?_
           rotate_left
           ·rintro w' ⟨s0, s1, s2, s3, s4, s5, s6, s7, s8, s9, s10, s11⟩
            go_simp
            with_reducible rfl
           rotate_left
           ·simp only [Act.put, List.setIfInBounds_toArray, List.set_cons_zero, List.set_cons_succ, i64_w, i32_w]
            rfl
           refine one_ (i := 1) (N := some 37) (bN 30 3) rfl rfl (one_of HT_.out (by kernel_rfl)) (by decide) (fun K hK => ?_)
           refine goes_ Try.func81 (by kernel_rfl) rfl #[.agg #[.int .i64 ((rd_T56 ((rd_T34 l0 0).f1) x3_2).f0), .int .i64 ((rd_T56 ((rd_T34 l0 0).f1) x3_2).f1), .string ((rd_T56 ((rd_T34 l0 0).f1) x3_2).f2), .int .i64 ((rd_T56 ((rd_T34 l0 0).f1) x3_2).f3), .slice A224_4 ((rd_T56 ((rd_T34 l0 0).f1) x3_2).f4).length c224_4, .slice A224_5 ((rd_T56 ((rd_T34 l0 0).f1) x3_2).f5).length c224_5, .int .i64 ((rd_T56 ((rd_T34 l0 0).f1) x3_2).f6.f0), .int .i64 ((rd_T56 ((rd_T34 l0 0).f1) x3_2).f6.f1), .string ((rd_T56 ((rd_T34 l0 0).f1) x3_2).f6.f2), .int .i64 ((rd_T56 ((rd_T34 l0 0).f1) x3_2).f6.f3)]] (by rfl) rfl rfl (by (try simp only [List.map_toArray, List.map_cons, List.map_nil]); first | done | rfl | (simp only [List.length_drop, List.length_take]; rfl)) ?_
           with_reducible refine (spec_l07Object.calls k2 ((rd_T56 ((rd_T34 l0 0).f1) x3_2).f0) ((rd_T56 ((rd_T34 l0 0).f1) x3_2).f1) ((rd_T56 ((rd_T34 l0 0).f1) x3_2).f2) ((rd_T56 ((rd_T34 l0 0).f1) x3_2).f3) _ _ ((rd_T56 ((rd_T34 l0 0).f1) x3_2).f4) _ _ ((rd_T56 ((rd_T34 l0 0).f1) x3_2).f5) ((rd_T56 ((rd_T34 l0 0).f1) x3_2).f6.f0) ((rd_T56 ((rd_T34 l0 0).f1) x3_2).f6.f1) ((rd_T56 ((rd_T34 l0 0).f1) x3_2).f6.f2) ((rd_T56 ((rd_T34 l0 0).f1) x3_2).f6.f3) true _ ?side1 ?side2 ?side3 ?side4 A13.out).mono ?_
           (case side1 => exact sD (Kd.C_below HR224_4.out HB.out))
           (case side2 => exact HC224_4.out)
           (case side3 => exact sD (Kd.C_below HR224_5.out HB.out))
           (case side4 => exact HC224_5.out)
           rintro e w18 ⟨rfl, hb⟩
           refine ⟨_, rfl, ?_⟩
           have n0_ := sK BK225 hb
           have n1_ := sB HB hb
           clear BK225
           clear HB
           have BK225 := n0_
           have HB := n1_
           clear n0_ n1_
           (try clear hb)
           (try clear hb2)
           (try clear hk)
           (try clear hi)
           refine hK.out _ _ ⟨(blk_cell BK225.out 0).trans rfl, (blk_cell BK225.out 1).trans rfl, (blk_cell BK225.out 2).trans rfl, (blk_cell BK225.out 3).trans rfl, (blk_cell BK225.out 4).trans rfl, (blk_cell BK225.out 5).trans rfl, (blk_cell BK225.out 6).trans rfl, (blk_cell BK225.out 7).trans rfl, (blk_cell BK225.out 8).trans rfl, (blk_cell BK225.out 9).trans rfl, ((HB.out.cell (World.block_lt_of_cell? w _ hw227_0)).trans hw227_0), ((HB.out.cell (World.block_lt_of_cell? w _ hw227_1)).trans hw227_1)⟩ (fun hHeld => ?_)
           clear hK K
           refine norm_ (a' := ?_) ?_ ?_
           rotate_left
           ·show Act.put _ (some 37) _ = _
            simp only [Act.put, List.setIfInBounds_toArray, List.set_cons_zero, List.set_cons_succ, i64_w, i32_w]
            rfl
           refine pure_ (i := 2) (N := some 38) (v := ?_) (a' := ?_) (bN 30 7) rfl rfl (any_of HT_.out (by kernel_rfl)) (fun _ _ _ h => h) (Or.inl ⟨by rfl, ?_⟩) ?_ ?_
           rotate_left
           ·intro w'
            go_simp
            with_reducible rfl
           rotate_left
           ·simp only [Act.put, List.setIfInBounds_toArray, List.set_cons_zero, List.set_cons_succ, i64_w, i32_w]
            rfl
           refine pure_ (i := 3) (N := some 39) (v := ?_) (a' := ?_) (bN 30 15) rfl rfl (any_of HT_.out (by kernel_rfl)) (fun _ _ _ h => h) (Or.inl ⟨by rfl, ?_⟩) ?_ ?_
           rotate_left
           ·intro w'
            go_simp
            with_reducible rfl
           rotate_left
           ·simp only [Act.put, List.setIfInBounds_toArray, List.set_cons_zero, List.set_cons_succ, i64_w, i32_w]
            rfl
           refine pure_ (i := 4) (N := some 40) (v := ?_) (a' := ?_) (bN 30 31) rfl rfl (any_of HT_.out (by kernel_rfl)) (fun _ _ _ h => h) (Or.inl ⟨by rfl, ?_⟩) ?_ ?_
           rotate_left
           ·intro w'
            go_simp
            with_reducible rfl
           rotate_left
           ·simp only [Act.put, List.setIfInBounds_toArray, List.set_cons_zero, List.set_cons_succ, i64_w, i32_w]
            rfl
           refine pure_ (i := 6) (N := some 42) (v := ?_) (a' := ?_) (bN 30 95) rfl rfl (any_of HT_.out (by kernel_rfl)) (fun _ _ _ h => h) (Or.inl ⟨by rfl, ?_⟩) ?_ ?_
           rotate_left
           ·intro w'
            go_simp
            with_reducible rfl
           rotate_left
           ·simp only [Act.put, List.setIfInBounds_toArray, List.set_cons_zero, List.set_cons_succ, i64_w, i32_w]
            rfl
           refine pure_ (i := 7) (N := some 43) (v := ?_) (a' := ?_) (bN 30 223) rfl rfl (any_of HT_.out (by kernel_rfl)) (fun _ _ _ h => h) (Or.inl ⟨by rfl, ?_⟩) ?_ ?_
           rotate_left
           ·intro w'
            go_simp
            with_reducible rfl
           rotate_left
           ·simp only [Act.put, List.setIfInBounds_toArray, List.set_cons_zero, List.set_cons_succ, i64_w, i32_w]
            rfl
           refine pure_ (i := 8) (N := some 44) (v := ?_) (a' := ?_) (bN 30 479) rfl rfl (any_of HT_.out (by kernel_rfl)) (fun _ _ _ h => h) (Or.inl ⟨by rfl, ?_⟩) ?_ ?_
           rotate_left
           ·intro w'
            go_simp
            with_reducible rfl
           rotate_left
           ·simp only [Act.put, List.setIfInBounds_toArray, List.set_cons_zero, List.set_cons_succ, i64_w, i32_w]
            rfl
           refine take_ (i := 5) (N := some 41) (v := ?_) (a' := ?_) (bN 30 511) rfl rfl (take_ofW HT_.out HW_.out (by kernel_rfl)) (fun _ _ _ h => h) (Or.inl ⟨by rfl, ?_⟩) hHeld ?_ ?_
           rotate_left
           ·rintro w' ⟨s0, s1, s2, s3, s4, s5, s6, s7, s8, s9, s10, s11⟩
            go_simp
            with_reducible rfl
           rotate_left
           ·simp only [Act.put, List.setIfInBounds_toArray, List.set_cons_zero, List.set_cons_succ, i64_w, i32_w]
            rfl
           refine take_ (i := 9) (N := some 45) (v := ?_) (a' := ?_) (bN 30 1023) rfl rfl (take_ofW HT_.out HW_.out (by kernel_rfl)) (fun _ _ _ h => h) (Or.inl ⟨by rfl, ?_⟩) hHeld ?_ ?_
           rotate_left
           ·rintro w' ⟨s0, s1, s2, s3, s4, s5, s6, s7, s8, s9, s10, s11⟩
            go_simp
            with_reducible rfl
           rotate_left
           ·simp only [Act.put, List.setIfInBounds_toArray, List.set_cons_zero, List.set_cons_succ, i64_w, i32_w]
            rfl
           refine pure_ (i := 10) (N := some 46) (v := ?_) (a' := ?_) (bN 30 2047) rfl rfl (any_of HT_.out (by kernel_rfl)) (fun _ _ _ h => h) (Or.inl ⟨by rfl, ?_⟩) ?_ ?_
           rotate_left
           ·intro w'
            go_simp
            with_reducible rfl
           rotate_left
           ·simp only [Act.put, List.setIfInBounds_toArray, List.set_cons_zero, List.set_cons_succ, i64_w, i32_w]
            rfl
           refine pure_ (i := 11) (N := some 47) (v := ?_) (a' := ?_) (bN 30 4095) rfl rfl (any_of HT_.out (by kernel_rfl)) (fun _ _ _ h => h) (Or.inl ⟨by rfl, ?_⟩) ?_ ?_
           rotate_left
           ·intro w'
            go_simp
            with_reducible rfl
           rotate_left
           ·simp only [Act.put, List.setIfInBounds_toArray, List.set_cons_zero, List.set_cons_succ, i64_w, i32_w]
            rfl
           refine pure_ (i := 12) (N := some 48) (v := ?_) (a' := ?_) (bN 30 8191) rfl rfl (any_of HT_.out (by kernel_rfl)) (fun _ _ _ h => h) (Or.inl ⟨by rfl, ?_⟩) ?_ ?_
           rotate_left
           ·intro w'
            go_simp
            with_reducible rfl
           rotate_left
           ·simp only [Act.put, List.setIfInBounds_toArray, List.set_cons_zero, List.set_cons_succ, i64_w, i32_w]
            rfl
           refine pure_ (i := 13) (N := some 49) (v := undef) (a' := ?_) (bN 30 16383) rfl rfl (any_of HT_.out (by kernel_rfl)) (fun _ _ _ h => h) (Or.inr ⟨by rfl, rfl⟩) ?_ ?_
           rotate_left
           ·simp only [Act.put, List.setIfInBounds_toArray, List.set_cons_zero, List.set_cons_succ, i64_w, i32_w]
            rfl
           refine pure_ (i := 14) (N := some 50) (v := undef) (a' := ?_) (bN 30 32767) rfl rfl (any_of HT_.out (by kernel_rfl)) (fun _ _ _ h => h) (Or.inr ⟨by rfl, rfl⟩) ?_ ?_
           rotate_left
           ·simp only [Act.put, List.setIfInBounds_toArray, List.set_cons_zero, List.set_cons_succ, i64_w, i32_w]
            rfl
           refine pure_ (i := 15) (N := some 51) (v := undef) (a' := ?_) (bN 30 65535) rfl rfl (any_of HT_.out (by kernel_rfl)) (fun _ _ _ h => h) (Or.inr ⟨by rfl, rfl⟩) ?_ ?_
           rotate_left
           ·simp only [Act.put, List.setIfInBounds_toArray, List.set_cons_zero, List.set_cons_succ, i64_w, i32_w]
            rfl
           refine pure_ (i := 16) (N := some 52) (v := undef) (a' := ?_) (bN 30 131071) rfl rfl (any_of HT_.out (by kernel_rfl)) (fun _ _ _ h => h) (Or.inr ⟨by rfl, rfl⟩) ?_ ?_
           rotate_left
           ·simp only [Act.put, List.setIfInBounds_toArray, List.set_cons_zero, List.set_cons_succ, i64_w, i32_w]
            rfl
           refine pure_ (i := 17) (N := some 53) (v := undef) (a' := ?_) (bN 30 262143) rfl rfl (any_of HT_.out (by kernel_rfl)) (fun _ _ _ h => h) (Or.inr ⟨by rfl, rfl⟩) ?_ ?_
           rotate_left
           ·simp only [Act.put, List.setIfInBounds_toArray, List.set_cons_zero, List.set_cons_succ, i64_w, i32_w]
            rfl
           refine pure_ (i := 18) (N := some 54) (v := undef) (a' := ?_) (bN 30 524287) rfl rfl (any_of HT_.out (by kernel_rfl)) (fun _ _ _ h => h) (Or.inr ⟨by rfl, rfl⟩) ?_ ?_
           rotate_left
           ·simp only [Act.put, List.setIfInBounds_toArray, List.set_cons_zero, List.set_cons_succ, i64_w, i32_w]
            rfl
           refine pure_ (i := 19) (N := some 55) (v := undef) (a' := ?_) (bN 30 1048575) rfl rfl (any_of HT_.out (by kernel_rfl)) (fun _ _ _ h => h) (Or.inr ⟨by rfl, rfl⟩) ?_ ?_
           rotate_left
           ·simp only [Act.put, List.setIfInBounds_toArray, List.set_cons_zero, List.set_cons_succ, i64_w, i32_w]
            rfl
           refine pure_ (i := 20) (N := some 56) (v := undef) (a' := ?_) (bN 30 2097151) rfl rfl (any_of HT_.out (by kernel_rfl)) (fun _ _ _ h => h) (Or.inr ⟨by rfl, rfl⟩) ?_ ?_
           rotate_left
           ·simp only [Act.put, List.setIfInBounds_toArray, List.set_cons_zero, List.set_cons_succ, i64_w, i32_w]
            rfl
           refine pure_ (i := 21) (N := some 57) (v := undef) (a' := ?_) (bN 30 4194303) rfl rfl (any_of HT_.out (by kernel_rfl)) (fun _ _ _ h => h) (Or.inr ⟨by rfl, rfl⟩) ?_ ?_
           rotate_left
           ·simp only [Act.put, List.setIfInBounds_toArray, List.set_cons_zero, List.set_cons_succ, i64_w, i32_w]
            rfl
           refine pure_ (i := 22) (N := some 58) (v := undef) (a' := ?_) (bN 30 8388607) rfl rfl (any_of HT_.out (by kernel_rfl)) (fun _ _ _ h => h) (Or.inr ⟨by rfl, rfl⟩) ?_ ?_
           rotate_left
           ·simp only [Act.put, List.setIfInBounds_toArray, List.set_cons_zero, List.set_cons_succ, i64_w, i32_w]
            rfl
           refine pure_ (i := 23) (N := some 59) (v := undef) (a' := ?_) (bN 30 16777215) rfl rfl (any_of HT_.out (by kernel_rfl)) (fun _ _ _ h => h) (Or.inr ⟨by rfl, rfl⟩) ?_ ?_
           rotate_left
           ·simp only [Act.put, List.setIfInBounds_toArray, List.set_cons_zero, List.set_cons_succ, i64_w, i32_w]
            rfl
           refine pure_ (i := 24) (N := some 60) (v := undef) (a' := ?_) (bN 30 33554431) rfl rfl (any_of HT_.out (by kernel_rfl)) (fun _ _ _ h => h) (Or.inr ⟨by rfl, rfl⟩) ?_ ?_
           rotate_left
           ·simp only [Act.put, List.setIfInBounds_toArray, List.set_cons_zero, List.set_cons_succ, i64_w, i32_w]
            rfl
           refine pure_ (i := 25) (N := some 61) (v := undef) (a' := ?_) (bN 30 67108863) rfl rfl (any_of HT_.out (by kernel_rfl)) (fun _ _ _ h => h) (Or.inr ⟨by rfl, rfl⟩) ?_ ?_
           rotate_left
           ·simp only [Act.put, List.setIfInBounds_toArray, List.set_cons_zero, List.set_cons_succ, i64_w, i32_w]
            rfl
           refine pure_ (i := 26) (N := some 62) (v := undef) (a' := ?_) (bN 30 134217727) rfl rfl (any_of HT_.out (by kernel_rfl)) (fun _ _ _ h => h) (Or.inr ⟨by rfl, rfl⟩) ?_ ?_
           rotate_left
           ·simp only [Act.put, List.setIfInBounds_toArray, List.set_cons_zero, List.set_cons_succ, i64_w, i32_w]
            rfl
           refine pure_ (i := 27) (N := some 63) (v := undef) (a' := ?_) (bN 30 268435455) rfl rfl (any_of HT_.out (by kernel_rfl)) (fun _ _ _ h => h) (Or.inr ⟨by rfl, rfl⟩) ?_ ?_
           rotate_left
           ·simp only [Act.put, List.setIfInBounds_toArray, List.set_cons_zero, List.set_cons_succ, i64_w, i32_w]
            rfl
           refine pure_ (i := 28) (N := some 64) (v := undef) (a' := ?_) (bN 30 536870911) rfl rfl (any_of HT_.out (by kernel_rfl)) (fun _ _ _ h => h) (Or.inr ⟨by rfl, rfl⟩) ?_ ?_
           rotate_left
           ·simp only [Act.put, List.setIfInBounds_toArray, List.set_cons_zero, List.set_cons_succ, i64_w, i32_w]
            rfl
           refine pure_ (i := 29) (N := some 65) (v := ?_) (a' := ?_) (bN 30 1073741823) rfl rfl (any_of HT_.out (by kernel_rfl)) (fun _ _ _ h => h) (Or.inl ⟨by rfl, ?_⟩) ?_ ?_
           rotate_left
           ·intro w'
            go_simp
            with_reducible rfl
           rotate_left
           ·simp only [Act.put, List.setIfInBounds_toArray, List.set_cons_zero, List.set_cons_succ, i64_w, i32_w]
            rfl
           refine done_ (done_of HT_.out (by kernel_rfl)) ?_
           try go_wp2
           go_meet
           case rel => exact ⟨_, (true), sr, H', ⟨by have := HJ1.out; have := HK2.out; first | omega | exact Nat.le_refl _⟩, ⟨by exact sT BK225.out⟩, ⟨sb⟩⟩
          rw [if_neg c15] at H
          have c15b0 : decide (((rd_T34 l0 0).f0) < ((rd_T56 ((rd_T34 l0 0).f1) x3_2).f0)) = false := decide_eq_false c15
          clear c15
          (first | rw [c15b0] | (simp only [i64_w, i32_w]; rw [c15b0]) | rw [c15b2] | skip)
          by_cases c19 : x3_2 > 0
          ·rw [if_pos c19] at H
           have c19b0 : decide (0 < x3_2) = true := decide_eq_true c19
           clear c19
           obtain ⟨ji20, hji20⟩ : ∃ j_ : Int, (wrap64 (x3_2 - 1)) = j_ := ⟨_, rfl⟩
           replace H : (if 0 ≤ (ji20) then (if (ji20) < (((rd_T34 l0 0).f1).length : Int) then (spec_l07Ok.j2 k2 l0 x3_2 (decide (((rd_T56 ((rd_T34 l0 0).f1) (ji20)).f0) ≥ ((rd_T56 ((rd_T34 l0 0).f1) x3_2).f0)))) else (none)) else (none)) = some r := by first | (rw [hji20] at H; exact H) | (simp only [hji20] at H ⊢; exact H)
           (try rw [hji20] at A13)
           have hji20w : (IntKind.i64.wrap (x3_2 - 1)) = ji20 := (i64_w _).trans hji20
           by_cases c21 : 0 ≤ (ji20)
           ·rw [if_pos c21] at H
            have c21b0 := decide_eq_true c21
            clear c21
            by_cases c22 : (ji20) < (((rd_T34 l0 0).f1).length : Int)
            ·rw [if_pos c22] at H
             have c22b0 := decide_eq_true c22
             clear c22
             have H' := Aside0.mk H
             clear H
             try go_wp2
             have n0_ : Aside0 (((((((((((w11.setCell ⟨gb225, 0, none⟩ (.int .i64 ((rd_T56 ((rd_T34 l0 0).f1) x3_2).f0))).setCell ⟨gb225, 1, none⟩ (.int .i64 ((rd_T56 ((rd_T34 l0 0).f1) x3_2).f1))).setCell ⟨gb225, 2, none⟩ (.string ((rd_T56 ((rd_T34 l0 0).f1) x3_2).f2))).setCell ⟨gb225, 3, none⟩ (.int .i64 ((rd_T56 ((rd_T34 l0 0).f1) x3_2).f3))).setCell ⟨gb225, 4, none⟩ (.slice A224_4 ((rd_T56 ((rd_T34 l0 0).f1) x3_2).f4).length c224_4)).setCell ⟨gb225, 5, none⟩ (.slice A224_5 ((rd_T56 ((rd_T34 l0 0).f1) x3_2).f5).length c224_5)).setCell ⟨gb225, 6, none⟩ (.int .i64 ((rd_T56 ((rd_T34 l0 0).f1) x3_2).f6.f0))).setCell ⟨gb225, 7, none⟩ (.int .i64 ((rd_T56 ((rd_T34 l0 0).f1) x3_2).f6.f1))).setCell ⟨gb225, 8, none⟩ (.string ((rd_T56 ((rd_T34 l0 0).f1) x3_2).f6.f2))).setCell ⟨gb225, 9, none⟩ (.int .i64 ((rd_T56 ((rd_T34 l0 0).f1) x3_2).f6.f3))).heap[gb225]? = some (.cells #[.int .i64 ((rd_T56 ((rd_T34 l0 0).f1) x3_2).f0), .int .i64 ((rd_T56 ((rd_T34 l0 0).f1) x3_2).f1), .string ((rd_T56 ((rd_T34 l0 0).f1) x3_2).f2), .int .i64 ((rd_T56 ((rd_T34 l0 0).f1) x3_2).f3), .slice A224_4 ((rd_T56 ((rd_T34 l0 0).f1) x3_2).f4).length c224_4, .slice A224_5 ((rd_T56 ((rd_T34 l0 0).f1) x3_2).f5).length c224_5, .int .i64 ((rd_T56 ((rd_T34 l0 0).f1) x3_2).f6.f0), .int .i64 ((rd_T56 ((rd_T34 l0 0).f1) x3_2).f6.f1), .string ((rd_T56 ((rd_T34 l0 0).f1) x3_2).f6.f2), .int .i64 ((rd_T56 ((rd_T34 l0 0).f1) x3_2).f6.f3)] 56 (0, 0))) := ⟨sP10 (sT BK225.out)⟩
             have n1_ : Aside0 (Below w.heap.size w ((((((((((w11.setCell ⟨gb225, 0, none⟩ (.int .i64 ((rd_T56 ((rd_T34 l0 0).f1) x3_2).f0))).setCell ⟨gb225, 1, none⟩ (.int .i64 ((rd_T56 ((rd_T34 l0 0).f1) x3_2).f1))).setCell ⟨gb225, 2, none⟩ (.string ((rd_T56 ((rd_T34 l0 0).f1) x3_2).f2))).setCell ⟨gb225, 3, none⟩ (.int .i64 ((rd_T56 ((rd_T34 l0 0).f1) x3_2).f3))).setCell ⟨gb225, 4, none⟩ (.slice A224_4 ((rd_T56 ((rd_T34 l0 0).f1) x3_2).f4).length c224_4)).setCell ⟨gb225, 5, none⟩ (.slice A224_5 ((rd_T56 ((rd_T34 l0 0).f1) x3_2).f5).length c224_5)).setCell ⟨gb225, 6, none⟩ (.int .i64 ((rd_T56 ((rd_T34 l0 0).f1) x3_2).f6.f0))).setCell ⟨gb225, 7, none⟩ (.int .i64 ((rd_T56 ((rd_T34 l0 0).f1) x3_2).f6.f1))).setCell ⟨gb225, 8, none⟩ (.string ((rd_T56 ((rd_T34 l0 0).f1) x3_2).f6.f2))).setCell ⟨gb225, 9, none⟩ (.int .i64 ((rd_T56 ((rd_T34 l0 0).f1) x3_2).f6.f3)))) := ⟨sb⟩
             (try clear BK225)
             (try clear HB)
             generalize ((((((((((w11.setCell ⟨gb225, 0, none⟩ (.int .i64 ((rd_T56 ((rd_T34 l0 0).f1) x3_2).f0))).setCell ⟨gb225, 1, none⟩ (.int .i64 ((rd_T56 ((rd_T34 l0 0).f1) x3_2).f1))).setCell ⟨gb225, 2, none⟩ (.string ((rd_T56 ((rd_T34 l0 0).f1) x3_2).f2))).setCell ⟨gb225, 3, none⟩ (.int .i64 ((rd_T56 ((rd_T34 l0 0).f1) x3_2).f3))).setCell ⟨gb225, 4, none⟩ (.slice A224_4 ((rd_T56 ((rd_T34 l0 0).f1) x3_2).f4).length c224_4)).setCell ⟨gb225, 5, none⟩ (.slice A224_5 ((rd_T56 ((rd_T34 l0 0).f1) x3_2).f5).length c224_5)).setCell ⟨gb225, 6, none⟩ (.int .i64 ((rd_T56 ((rd_T34 l0 0).f1) x3_2).f6.f0))).setCell ⟨gb225, 7, none⟩ (.int .i64 ((rd_T56 ((rd_T34 l0 0).f1) x3_2).f6.f1))).setCell ⟨gb225, 8, none⟩ (.string ((rd_T56 ((rd_T34 l0 0).f1) x3_2).f6.f2))).setCell ⟨gb225, 9, none⟩ (.int .i64 ((rd_T56 ((rd_T34 l0 0).f1) x3_2).f6.f3))) = w23 at n0_ n1_ ⊢
             have BK225 := n0_
             have HB := n1_
             clear n0_ n1_
             have n0_ := Aside0.mk (blk_drew BK225.out)
             have n1_ := Aside0.mk (below_drew1 HB.out)
             clear BK225
             clear HB
             have BK225 := n0_
             have HB := n1_
             clear n0_ n1_
             have p227 : 0 ≤ (0 : Int) := (by omega)
             have q227 : 0 < (l0.length : Int) := of_decide_eq_true (by first | (with_reducible assumption) | assumption)
             obtain ⟨ad227, A227_1, c227_1, e227, hx227_0, hx227_1, hl227_1, hi227_1⟩ := at_T34 HR0.out 0 p227 q227
             have hw227_1 := hx227_1
             (try rw [sZ] at hw227_1)
             have hw227_0 := hx227_0
             (try rw [sZ] at hw227_0)
             obtain rfl : ad222 = ad227 := (by injection e227)
             have qi227 : (0 < l0.length) = True := eq_true (by omega)
             (try rw [sZ] at hx227_0)
             (try rw [sZ] at hx227_1)
             replace hx227_0 := sX HB hx227_0
             replace hx227_1 := sX HB hx227_1
             have HR227_1 := Aside0.mk hi227_1
             have HC227_1 := Aside0.mk hl227_1
             clear hi227_1 hl227_1
             replace p227 := eq_true p227
             replace q227 := eq_true q227
             have p228 : 0 ≤ (0 : Int) := (by omega)
             have q228 : 0 < (l0.length : Int) := of_decide_eq_true (by first | (with_reducible assumption) | assumption)
             obtain ⟨ad228, A228_1, c228_1, e228, hx228_0, hx228_1, hl228_1, hi228_1⟩ := at_T34 HR0.out 0 p228 q228
             have hw228_1 := hx228_1
             (try rw [sZ] at hw228_1)
             have hw228_0 := hx228_0
             (try rw [sZ] at hw228_0)
             obtain rfl : ad222 = ad228 := (by injection e228)
             have qi228 : (0 < l0.length) = True := eq_true (by omega)
             (try rw [sZ] at hx228_0)
             (try rw [sZ] at hx228_1)
             replace hx228_0 := sX HB hx228_0
             replace hx228_1 := sX HB hx228_1
             have HR228_1 := Aside0.mk hi228_1
             have HC228_1 := Aside0.mk hl228_1
             clear hi228_1 hl228_1
             replace p228 := eq_true p228
             replace q228 := eq_true q228
             have ea_ := Option.some.inj (hx227_1.symm.trans hx228_1)
             injection ea_ with ea_ en_ ec_
             subst ea_
             subst ec_
             clear en_
             have p229 : 0 ≤ ((ji20) : Int) := of_decide_eq_true (by first | (with_reducible assumption) | assumption)
             have q229 : (ji20) < (((rd_T34 l0 0).f1).length : Int) := of_decide_eq_true (by first | (with_reducible assumption) | assumption)
             obtain ⟨ad229, A229_4, c229_4, A229_5, c229_5, e229, hx229_0, hx229_1, hx229_2, hx229_3, hx229_4, hx229_5, hx229_6, hx229_7, hx229_8, hx229_9, hl229_4, hi229_4, hl229_5, hi229_5⟩ := at_T56 HR228_1.out (ji20) p229 q229
             have hw229_9 := hx229_9
             have hw229_8 := hx229_8
             have hw229_7 := hx229_7
             have hw229_6 := hx229_6
             have hw229_5 := hx229_5
             have hw229_4 := hx229_4
             have hw229_3 := hx229_3
             have hw229_2 := hx229_2
             have hw229_1 := hx229_1
             have hw229_0 := hx229_0
             cases e229
             replace hx229_0 := sX HB hx229_0
             replace hx229_1 := sX HB hx229_1
             replace hx229_2 := sX HB hx229_2
             replace hx229_3 := sX HB hx229_3
             replace hx229_4 := sX HB hx229_4
             replace hx229_5 := sX HB hx229_5
             replace hx229_6 := sX HB hx229_6
             replace hx229_7 := sX HB hx229_7
             replace hx229_8 := sX HB hx229_8
             replace hx229_9 := sX HB hx229_9
             have HR229_4 := Aside0.mk hi229_4
             have HC229_4 := Aside0.mk hl229_4
             clear hi229_4 hl229_4
             have HR229_5 := Aside0.mk hi229_5
             have HC229_5 := Aside0.mk hl229_5
             clear hi229_5 hl229_5
             replace p229 := eq_true p229
             replace q229 := eq_true q229
             refine start_ (n := 30) (S := fun w' => w'.cell? ⟨gb225, 0, none⟩ = some (.int .i64 ((rd_T56 ((rd_T34 l0 0).f1) x3_2).f0)) ∧ w'.cell? ⟨gb225, 1, none⟩ = some (.int .i64 ((rd_T56 ((rd_T34 l0 0).f1) x3_2).f1)) ∧ w'.cell? ⟨gb225, 2, none⟩ = some (.string ((rd_T56 ((rd_T34 l0 0).f1) x3_2).f2)) ∧ w'.cell? ⟨gb225, 3, none⟩ = some (.int .i64 ((rd_T56 ((rd_T34 l0 0).f1) x3_2).f3)) ∧ w'.cell? ⟨gb225, 4, none⟩ = some (.slice A224_4 ((rd_T56 ((rd_T34 l0 0).f1) x3_2).f4).length c224_4) ∧ w'.cell? ⟨gb225, 5, none⟩ = some (.slice A224_5 ((rd_T56 ((rd_T34 l0 0).f1) x3_2).f5).length c224_5) ∧ w'.cell? ⟨gb225, 6, none⟩ = some (.int .i64 ((rd_T56 ((rd_T34 l0 0).f1) x3_2).f6.f0)) ∧ w'.cell? ⟨gb225, 7, none⟩ = some (.int .i64 ((rd_T56 ((rd_T34 l0 0).f1) x3_2).f6.f1)) ∧ w'.cell? ⟨gb225, 8, none⟩ = some (.string ((rd_T56 ((rd_T34 l0 0).f1) x3_2).f6.f2)) ∧ w'.cell? ⟨gb225, 9, none⟩ = some (.int .i64 ((rd_T56 ((rd_T34 l0 0).f1) x3_2).f6.f3)) ∧ w'.cell? ad222 = some (.int .i64 ((rd_T34 l0 0).f0)) ∧ w'.cell? ⟨ad222.block, ad222.off + 1, none⟩ = some (.slice (some ad229) ((rd_T34 l0 0).f1).length c227_1) ∧ w'.cell? ad222 = some (.int .i64 ((rd_T34 l0 0).f0)) ∧ w'.cell? ⟨ad222.block, ad222.off + 1, none⟩ = some (.slice (some ad229) ((rd_T34 l0 0).f1).length c227_1) ∧ w'.cell? (ad229.add (((ji20)).toNat * 10)) = some (.int .i64 ((rd_T56 ((rd_T34 l0 0).f1) (ji20)).f0)) ∧ w'.cell? ⟨(ad229.add (((ji20)).toNat * 10)).block, (ad229.add (((ji20)).toNat * 10)).off + 1, none⟩ = some (.int .i64 ((rd_T56 ((rd_T34 l0 0).f1) (ji20)).f1)) ∧ w'.cell? ⟨(ad229.add (((ji20)).toNat * 10)).block, (ad229.add (((ji20)).toNat * 10)).off + 2, none⟩ = some (.string ((rd_T56 ((rd_T34 l0 0).f1) (ji20)).f2)) ∧ w'.cell? ⟨(ad229.add (((ji20)).toNat * 10)).block, (ad229.add (((ji20)).toNat * 10)).off + 3, none⟩ = some (.int .i64 ((rd_T56 ((rd_T34 l0 0).f1) (ji20)).f3)) ∧ w'.cell? ⟨(ad229.add (((ji20)).toNat * 10)).block, (ad229.add (((ji20)).toNat * 10)).off + 4, none⟩ = some (.slice A229_4 ((rd_T56 ((rd_T34 l0 0).f1) (ji20)).f4).length c229_4) ∧ w'.cell? ⟨(ad229.add (((ji20)).toNat * 10)).block, (ad229.add (((ji20)).toNat * 10)).off + 5, none⟩ = some (.slice A229_5 ((rd_T56 ((rd_T34 l0 0).f1) (ji20)).f5).length c229_5) ∧ w'.cell? ⟨(ad229.add (((ji20)).toNat * 10)).block, (ad229.add (((ji20)).toNat * 10)).off + 6, none⟩ = some (.int .i64 ((rd_T56 ((rd_T34 l0 0).f1) (ji20)).f6.f0)) ∧ w'.cell? ⟨(ad229.add (((ji20)).toNat * 10)).block, (ad229.add (((ji20)).toNat * 10)).off + 7, none⟩ = some (.int .i64 ((rd_T56 ((rd_T34 l0 0).f1) (ji20)).f6.f1)) ∧ w'.cell? ⟨(ad229.add (((ji20)).toNat * 10)).block, (ad229.add (((ji20)).toNat * 10)).off + 8, none⟩ = some (.string ((rd_T56 ((rd_T34 l0 0).f1) (ji20)).f6.f2)) ∧ w'.cell? ⟨(ad229.add (((ji20)).toNat * 10)).block, (ad229.add (((ji20)).toNat * 10)).off + 9, none⟩ = some (.int .i64 ((rd_T56 ((rd_T34 l0 0).f1) (ji20)).f6.f3))) (ds := []) #[false, false, false, false, false, false, false, false, false, false, false, false, false, false, false, false, false, false, false, false, false, false, false, false, false, false, false, false, false, false] (by kernel_rfl) rfl rfl ⟨(blk_cell BK225.out 0).trans rfl, (blk_cell BK225.out 1).trans rfl, (blk_cell BK225.out 2).trans rfl, (blk_cell BK225.out 3).trans rfl, (blk_cell BK225.out 4).trans rfl, (blk_cell BK225.out 5).trans rfl, (blk_cell BK225.out 6).trans rfl, (blk_cell BK225.out 7).trans rfl, (blk_cell BK225.out 8).trans rfl, (blk_cell BK225.out 9).trans rfl, ((HB.out.cell (World.block_lt_of_cell? w _ hw227_0)).trans hw227_0), ((HB.out.cell (World.block_lt_of_cell? w _ hw227_1)).trans hw227_1), ((HB.out.cell (World.block_lt_of_cell? w _ hw228_0)).trans hw228_0), ((HB.out.cell (World.block_lt_of_cell? w _ hw228_1)).trans hw228_1), ((HB.out.cell (World.block_lt_of_cell? w _ hw229_0)).trans hw229_0), ((HB.out.cell (World.block_lt_of_cell? w _ hw229_1)).trans hw229_1), ((HB.out.cell (World.block_lt_of_cell? w _ hw229_2)).trans hw229_2), ((HB.out.cell (World.block_lt_of_cell? w _ hw229_3)).trans hw229_3), ((HB.out.cell (World.block_lt_of_cell? w _ hw229_4)).trans hw229_4), ((HB.out.cell (World.block_lt_of_cell? w _ hw229_5)).trans hw229_5), ((HB.out.cell (World.block_lt_of_cell? w _ hw229_6)).trans hw229_6), ((HB.out.cell (World.block_lt_of_cell? w _ hw229_7)).trans hw229_7), ((HB.out.cell (World.block_lt_of_cell? w _ hw229_8)).trans hw229_8), ((HB.out.cell (World.block_lt_of_cell? w _ hw229_9)).trans hw229_9)⟩ (fun hHeld => ?_); refine with_tabW spec_l07Ok.tab7 spec_l07Ok.bits7 (fun HT_ HW_ => ?_)
             generalize w23.drew = w24 at BK225 HB HR227_1 HR228_1 HR229_4 HR229_5 hx227_0 hx227_1 hx228_0 hx228_1 hx229_0 hx229_1 hx229_2 hx229_3 hx229_4 hx229_5 hx229_6 hx229_7 hx229_8 hx229_9 hHeld ⊢
             refine take_ (i := 0) (N := some 36) (v := ?_) (a' := ?_) (bN 30 1) rfl rfl (take_ofW HT_.out HW_.out (by kernel_rfl)) (fun _ _ _ h => h) (Or.inl ⟨by rfl, ?_⟩) hHeld ?_ ?_
             rotate_left
             ·rintro w' ⟨s0, s1, s2, s3, s4, s5, s6, s7, s8, s9, s10, s11, s12, s13, s14, s15, s16, s17, s18, s19, s20, s21, s22, s23⟩
              go_simp
              with_reducible rfl
             rotate_left
             ·simp only [Act.put, List.setIfInBounds_toArray, List.set_cons_zero, List.set_cons_succ, i64_w, i32_w]
              rfl
             refine one_ (i := 1) (N := some 37) (bN 30 3) rfl rfl (one_of HT_.out (by kernel_rfl)) (by decide) (fun K hK => ?_)
             refine goes_ Try.func81 (by kernel_rfl) rfl #[.agg #[.int .i64 ((rd_T56 ((rd_T34 l0 0).f1) x3_2).f0), .int .i64 ((rd_T56 ((rd_T34 l0 0).f1) x3_2).f1), .string ((rd_T56 ((rd_T34 l0 0).f1) x3_2).f2), .int .i64 ((rd_T56 ((rd_T34 l0 0).f1) x3_2).f3), .slice A224_4 ((rd_T56 ((rd_T34 l0 0).f1) x3_2).f4).length c224_4, .slice A224_5 ((rd_T56 ((rd_T34 l0 0).f1) x3_2).f5).length c224_5, .int .i64 ((rd_T56 ((rd_T34 l0 0).f1) x3_2).f6.f0), .int .i64 ((rd_T56 ((rd_T34 l0 0).f1) x3_2).f6.f1), .string ((rd_T56 ((rd_T34 l0 0).f1) x3_2).f6.f2), .int .i64 ((rd_T56 ((rd_T34 l0 0).f1) x3_2).f6.f3)]] (by rfl) rfl rfl (by (try simp only [List.map_toArray, List.map_cons, List.map_nil]); first | done | rfl | (simp only [List.length_drop, List.length_take]; rfl)) ?_
             with_reducible refine (spec_l07Object.calls k2 ((rd_T56 ((rd_T34 l0 0).f1) x3_2).f0) ((rd_T56 ((rd_T34 l0 0).f1) x3_2).f1) ((rd_T56 ((rd_T34 l0 0).f1) x3_2).f2) ((rd_T56 ((rd_T34 l0 0).f1) x3_2).f3) _ _ ((rd_T56 ((rd_T34 l0 0).f1) x3_2).f4) _ _ ((rd_T56 ((rd_T34 l0 0).f1) x3_2).f5) ((rd_T56 ((rd_T34 l0 0).f1) x3_2).f6.f0) ((rd_T56 ((rd_T34 l0 0).f1) x3_2).f6.f1) ((rd_T56 ((rd_T34 l0 0).f1) x3_2).f6.f2) ((rd_T56 ((rd_T34 l0 0).f1) x3_2).f6.f3) true _ ?side1 ?side2 ?side3 ?side4 A13.out).mono ?_
             (case side1 => exact sD (Kd.C_below HR224_4.out HB.out))
             (case side2 => exact HC224_4.out)
             (case side3 => exact sD (Kd.C_below HR224_5.out HB.out))
             (case side4 => exact HC224_5.out)
             rintro e w25 ⟨rfl, hb⟩
             refine ⟨_, rfl, ?_⟩
             have n0_ := sK BK225 hb
             have n1_ := sB HB hb
             clear BK225
             clear HB
             have BK225 := n0_
             have HB := n1_
             clear n0_ n1_
             (try clear hb)
             (try clear hb2)
             (try clear hk)
             (try clear hi)
             refine hK.out _ _ ⟨(blk_cell BK225.out 0).trans rfl, (blk_cell BK225.out 1).trans rfl, (blk_cell BK225.out 2).trans rfl, (blk_cell BK225.out 3).trans rfl, (blk_cell BK225.out 4).trans rfl, (blk_cell BK225.out 5).trans rfl, (blk_cell BK225.out 6).trans rfl, (blk_cell BK225.out 7).trans rfl, (blk_cell BK225.out 8).trans rfl, (blk_cell BK225.out 9).trans rfl, ((HB.out.cell (World.block_lt_of_cell? w _ hw227_0)).trans hw227_0), ((HB.out.cell (World.block_lt_of_cell? w _ hw227_1)).trans hw227_1), ((HB.out.cell (World.block_lt_of_cell? w _ hw228_0)).trans hw228_0), ((HB.out.cell (World.block_lt_of_cell? w _ hw228_1)).trans hw228_1), ((HB.out.cell (World.block_lt_of_cell? w _ hw229_0)).trans hw229_0), ((HB.out.cell (World.block_lt_of_cell? w _ hw229_1)).trans hw229_1), ((HB.out.cell (World.block_lt_of_cell? w _ hw229_2)).trans hw229_2), ((HB.out.cell (World.block_lt_of_cell? w _ hw229_3)).trans hw229_3), ((HB.out.cell (World.block_lt_of_cell? w _ hw229_4)).trans hw229_4), ((HB.out.cell (World.block_lt_of_cell? w _ hw229_5)).trans hw229_5), ((HB.out.cell (World.block_lt_of_cell? w _ hw229_6)).trans hw229_6), ((HB.out.cell (World.block_lt_of_cell? w _ hw229_7)).trans hw229_7), ((HB.out.cell (World.block_lt_of_cell? w _ hw229_8)).trans hw229_8), ((HB.out.cell (World.block_lt_of_cell? w _ hw229_9)).trans hw229_9)⟩ (fun hHeld => ?_)
             clear hK K
             refine norm_ (a' := ?_) ?_ ?_
             rotate_left
             ·show Act.put _ (some 37) _ = _
              simp only [Act.put, List.setIfInBounds_toArray, List.set_cons_zero, List.set_cons_succ, i64_w, i32_w]
              rfl
             refine pure_ (i := 2) (N := some 38) (v := ?_) (a' := ?_) (bN 30 7) rfl rfl (any_of HT_.out (by kernel_rfl)) (fun _ _ _ h => h) (Or.inl ⟨by rfl, ?_⟩) ?_ ?_
             rotate_left
             ·intro w'
              go_simp
              with_reducible rfl
             rotate_left
             ·simp only [Act.put, List.setIfInBounds_toArray, List.set_cons_zero, List.set_cons_succ, i64_w, i32_w]
              rfl
             refine pure_ (i := 3) (N := some 39) (v := ?_) (a' := ?_) (bN 30 15) rfl rfl (any_of HT_.out (by kernel_rfl)) (fun _ _ _ h => h) (Or.inl ⟨by rfl, ?_⟩) ?_ ?_
             rotate_left
             ·intro w'
              go_simp
              with_reducible rfl
             rotate_left
             ·simp only [Act.put, List.setIfInBounds_toArray, List.set_cons_zero, List.set_cons_succ, i64_w, i32_w]
              rfl
             refine pure_ (i := 4) (N := some 40) (v := ?_) (a' := ?_) (bN 30 31) rfl rfl (any_of HT_.out (by kernel_rfl)) (fun _ _ _ h => h) (Or.inl ⟨by rfl, ?_⟩) ?_ ?_
             rotate_left
             ·intro w'
              go_simp
              with_reducible rfl
             rotate_left
             ·simp only [Act.put, List.setIfInBounds_toArray, List.set_cons_zero, List.set_cons_succ, i64_w, i32_w]
              rfl
             refine pure_ (i := 6) (N := some 42) (v := ?_) (a' := ?_) (bN 30 95) rfl rfl (any_of HT_.out (by kernel_rfl)) (fun _ _ _ h => h) (Or.inl ⟨by rfl, ?_⟩) ?_ ?_
             rotate_left
             ·intro w'
              go_simp
              with_reducible rfl
             rotate_left
             ·simp only [Act.put, List.setIfInBounds_toArray, List.set_cons_zero, List.set_cons_succ, i64_w, i32_w]
              rfl
             refine pure_ (i := 7) (N := some 43) (v := ?_) (a' := ?_) (bN 30 223) rfl rfl (any_of HT_.out (by kernel_rfl)) (fun _ _ _ h => h) (Or.inl ⟨by rfl, ?_⟩) ?_ ?_
             rotate_left
             ·intro w'
              go_simp
              with_reducible rfl
             rotate_left
             ·simp only [Act.put, List.setIfInBounds_toArray, List.set_cons_zero, List.set_cons_succ, i64_w, i32_w]
              rfl
             refine pure_ (i := 8) (N := some 44) (v := ?_) (a' := ?_) (bN 30 479) rfl rfl (any_of HT_.out (by kernel_rfl)) (fun _ _ _ h => h) (Or.inl ⟨by rfl, ?_⟩) ?_ ?_
             rotate_left
             ·intro w'
              go_simp
              with_reducible rfl
             rotate_left
             ·simp only [Act.put, List.setIfInBounds_toArray, List.set_cons_zero, List.set_cons_succ, i64_w, i32_w]
              rfl
             refine take_ (i := 5) (N := some 41) (v := ?_) (a' := ?_) (bN 30 511) rfl rfl (take_ofW HT_.out HW_.out (by kernel_rfl)) (fun _ _ _ h => h) (Or.inl ⟨by rfl, ?_⟩) hHeld ?_ ?_
             rotate_left
             ·rintro w' ⟨s0, s1, s2, s3, s4, s5, s6, s7, s8, s9, s10, s11, s12, s13, s14, s15, s16, s17, s18, s19, s20, s21, s22, s23⟩
              go_simp
              with_reducible rfl
             rotate_left
             ·simp only [Act.put, List.setIfInBounds_toArray, List.set_cons_zero, List.set_cons_succ, i64_w, i32_w]
              rfl
             refine take_ (i := 9) (N := some 45) (v := ?_) (a' := ?_) (bN 30 1023) rfl rfl (take_ofW HT_.out HW_.out (by kernel_rfl)) (fun _ _ _ h => h) (Or.inl ⟨by rfl, ?_⟩) hHeld ?_ ?_
             rotate_left
             ·rintro w' ⟨s0, s1, s2, s3, s4, s5, s6, s7, s8, s9, s10, s11, s12, s13, s14, s15, s16, s17, s18, s19, s20, s21, s22, s23⟩
              go_simp
              with_reducible rfl
             rotate_left
             ·simp only [Act.put, List.setIfInBounds_toArray, List.set_cons_zero, List.set_cons_succ, i64_w, i32_w]
              rfl
             refine pure_ (i := 10) (N := some 46) (v := ?_) (a' := ?_) (bN 30 2047) rfl rfl (any_of HT_.out (by kernel_rfl)) (fun _ _ _ h => h) (Or.inl ⟨by rfl, ?_⟩) ?_ ?_
             rotate_left
             ·intro w'
              go_simp
              with_reducible rfl
             rotate_left
             ·simp only [Act.put, List.setIfInBounds_toArray, List.set_cons_zero, List.set_cons_succ, i64_w, i32_w]
              rfl
             refine pure_ (i := 11) (N := some 47) (v := ?_) (a' := ?_) (bN 30 4095) rfl rfl (any_of HT_.out (by kernel_rfl)) (fun _ _ _ h => h) (Or.inl ⟨by rfl, ?_⟩) ?_ ?_
             rotate_left
             ·intro w'
              go_simp
              with_reducible rfl
             rotate_left
             ·simp only [Act.put, List.setIfInBounds_toArray, List.set_cons_zero, List.set_cons_succ, i64_w, i32_w]
              rfl
             refine pure_ (i := 12) (N := some 48) (v := ?_) (a' := ?_) (bN 30 8191) rfl rfl (any_of HT_.out (by kernel_rfl)) (fun _ _ _ h => h) (Or.inl ⟨by rfl, ?_⟩) ?_ ?_
             rotate_left
             ·intro w'
              go_simp
              with_reducible rfl
             rotate_left
             ·simp only [Act.put, List.setIfInBounds_toArray, List.set_cons_zero, List.set_cons_succ, i64_w, i32_w]
              rfl
             refine pure_ (i := 13) (N := some 49) (v := ?_) (a' := ?_) (bN 30 16383) rfl rfl (any_of HT_.out (by kernel_rfl)) (fun _ _ _ h => h) (Or.inl ⟨by rfl, ?_⟩) ?_ ?_
             rotate_left
             ·intro w'
              go_simp
              with_reducible rfl
             rotate_left
             ·simp only [Act.put, List.setIfInBounds_toArray, List.set_cons_zero, List.set_cons_succ, i64_w, i32_w]
              rfl
             refine pure_ (i := 14) (N := some 50) (v := ?_) (a' := ?_) (bN 30 32767) rfl rfl (any_of HT_.out (by kernel_rfl)) (fun _ _ _ h => h) (Or.inl ⟨by rfl, ?_⟩) ?_ ?_
             rotate_left
             ·intro w'
              go_simp
              with_reducible rfl
             rotate_left
             ·simp only [Act.put, List.setIfInBounds_toArray, List.set_cons_zero, List.set_cons_succ, i64_w, i32_w]
              rfl
             refine pure_ (i := 15) (N := some 51) (v := ?_) (a' := ?_) (bN 30 65535) rfl rfl (any_of HT_.out (by kernel_rfl)) (fun _ _ _ h => h) (Or.inl ⟨by rfl, ?_⟩) ?_ ?_
             rotate_left
             ·intro w'
              go_simp
              with_reducible rfl
             rotate_left
             ·simp only [Act.put, List.setIfInBounds_toArray, List.set_cons_zero, List.set_cons_succ, i64_w, i32_w]
              rfl
             refine pure_ (i := 16) (N := some 52) (v := ?_) (a' := ?_) (bN 30 131071) rfl rfl (any_of HT_.out (by kernel_rfl)) (fun _ _ _ h => h) (Or.inl ⟨by rfl, ?_⟩) ?_ ?_
             rotate_left
             ·intro w'
              go_simp
              with_reducible rfl
             rotate_left
             ·simp only [Act.put, List.setIfInBounds_toArray, List.set_cons_zero, List.set_cons_succ, i64_w, i32_w]
              rfl
             refine pure_ (i := 17) (N := some 53) (v := ?_) (a' := ?_) (bN 30 262143) rfl rfl (any_of HT_.out (by kernel_rfl)) (fun _ _ _ h => h) (Or.inl ⟨by rfl, ?_⟩) ?_ ?_
             rotate_left
             ·intro w'
              go_simp
              with_reducible rfl
             rotate_left
             ·simp only [Act.put, List.setIfInBounds_toArray, List.set_cons_zero, List.set_cons_succ, i64_w, i32_w]
              rfl
             refine pure_ (i := 18) (N := some 54) (v := ?_) (a' := ?_) (bN 30 524287) rfl rfl (any_of HT_.out (by kernel_rfl)) (fun _ _ _ h => h) (Or.inl ⟨by rfl, ?_⟩) ?_ ?_
             rotate_left
             ·intro w'
              go_simp
              with_reducible rfl
             rotate_left
             ·simp only [Act.put, List.setIfInBounds_toArray, List.set_cons_zero, List.set_cons_succ, i64_w, i32_w]
              rfl
             refine pure_ (i := 20) (N := some 56) (v := ?_) (a' := ?_) (bN 30 1572863) rfl rfl (any_of HT_.out (by kernel_rfl)) (fun _ _ _ h => h) (Or.inl ⟨by rfl, ?_⟩) ?_ ?_
             rotate_left
             ·intro w'
              go_simp
              with_reducible rfl
             rotate_left
             ·simp only [Act.put, List.setIfInBounds_toArray, List.set_cons_zero, List.set_cons_succ, i64_w, i32_w]
              rfl
             refine pure_ (i := 21) (N := some 57) (v := ?_) (a' := ?_) (bN 30 3670015) rfl rfl (any_of HT_.out (by kernel_rfl)) (fun _ _ _ h => h) (Or.inl ⟨by rfl, ?_⟩) ?_ ?_
             rotate_left
             ·intro w'
              go_simp
              with_reducible rfl
             rotate_left
             ·simp only [Act.put, List.setIfInBounds_toArray, List.set_cons_zero, List.set_cons_succ, i64_w, i32_w]
              rfl
             refine pure_ (i := 25) (N := some 61) (v := ?_) (a' := ?_) (bN 30 37224447) rfl rfl (any_of HT_.out (by kernel_rfl)) (fun _ _ _ h => h) (Or.inl ⟨by rfl, ?_⟩) ?_ ?_
             rotate_left
             ·intro w'
              go_simp
              with_reducible rfl
             rotate_left
             ·simp only [Act.put, List.setIfInBounds_toArray, List.set_cons_zero, List.set_cons_succ, i64_w, i32_w]
              rfl
             refine take_ (i := 19) (N := some 55) (v := ?_) (a' := ?_) (bN 30 37748735) rfl rfl (take_ofW HT_.out HW_.out (by kernel_rfl)) (fun _ _ _ h => h) (Or.inl ⟨by rfl, ?_⟩) hHeld ?_ ?_
             rotate_left
             ·rintro w' ⟨s0, s1, s2, s3, s4, s5, s6, s7, s8, s9, s10, s11, s12, s13, s14, s15, s16, s17, s18, s19, s20, s21, s22, s23⟩
              go_simp
              with_reducible rfl
             rotate_left
             ·simp only [Act.put, List.setIfInBounds_toArray, List.set_cons_zero, List.set_cons_succ, i64_w, i32_w]
              rfl
             refine pure_ (i := 22) (N := some 58) (v := ?_) (a' := ?_) (bN 30 41943039) rfl rfl (any_of HT_.out (by kernel_rfl)) (fun _ _ _ h => h) (Or.inl ⟨by rfl, ?_⟩) ?_ ?_
             rotate_left
             ·intro w'
              go_simp
              with_reducible rfl
             rotate_left
             ·simp only [Act.put, List.setIfInBounds_toArray, List.set_cons_zero, List.set_cons_succ, i64_w, i32_w]
              rfl
             refine pure_ (i := 23) (N := some 59) (v := ?_) (a' := ?_) (bN 30 50331647) rfl rfl (any_of HT_.out (by kernel_rfl)) (fun _ _ _ h => h) (Or.inl ⟨by rfl, ?_⟩) ?_ ?_
             rotate_left
             ·intro w'
              go_simp
              with_reducible rfl
             rotate_left
             ·simp only [Act.put, List.setIfInBounds_toArray, List.set_cons_zero, List.set_cons_succ, i64_w, i32_w]
              rfl
             refine take_ (i := 24) (N := some 60) (v := ?_) (a' := ?_) (bN 30 67108863) rfl rfl (take_ofW HT_.out HW_.out (by kernel_rfl)) (fun _ _ _ h => h) (Or.inl ⟨by rfl, ?_⟩) hHeld ?_ ?_
             rotate_left
             ·rintro w' ⟨s0, s1, s2, s3, s4, s5, s6, s7, s8, s9, s10, s11, s12, s13, s14, s15, s16, s17, s18, s19, s20, s21, s22, s23⟩
              go_simp
              with_reducible rfl
             rotate_left
             ·simp only [Act.put, List.setIfInBounds_toArray, List.set_cons_zero, List.set_cons_succ, i64_w, i32_w]
              rfl
             refine take_ (i := 26) (N := some 62) (v := ?_) (a' := ?_) (bN 30 134217727) rfl rfl (take_ofW HT_.out HW_.out (by kernel_rfl)) (fun _ _ _ h => h) (Or.inl ⟨by rfl, ?_⟩) hHeld ?_ ?_
             rotate_left
             ·rintro w' ⟨s0, s1, s2, s3, s4, s5, s6, s7, s8, s9, s10, s11, s12, s13, s14, s15, s16, s17, s18, s19, s20, s21, s22, s23⟩
              go_simp
              with_reducible rfl
             rotate_left
             ·simp only [Act.put, List.setIfInBounds_toArray, List.set_cons_zero, List.set_cons_succ, i64_w, i32_w]
              rfl
             refine pure_ (i := 27) (N := some 63) (v := ?_) (a' := ?_) (bN 30 268435455) rfl rfl (any_of HT_.out (by kernel_rfl)) (fun _ _ _ h => h) (Or.inl ⟨by rfl, ?_⟩) ?_ ?_
             rotate_left
             ·intro w'
              go_simp
              with_reducible rfl
             rotate_left
             ·simp only [Act.put, List.setIfInBounds_toArray, List.set_cons_zero, List.set_cons_succ, i64_w, i32_w]
              rfl
             refine pure_ (i := 28) (N := some 64) (v := ?_) (a' := ?_) (bN 30 536870911) rfl rfl (any_of HT_.out (by kernel_rfl)) (fun _ _ _ h => h) (Or.inl ⟨by rfl, ?_⟩) ?_ ?_
             rotate_left
             ·intro w'
              go_simp
              with_reducible rfl
             rotate_left
             ·simp only [Act.put, List.setIfInBounds_toArray, List.set_cons_zero, List.set_cons_succ, i64_w, i32_w]
              rfl
             refine pure_ (i := 29) (N := some 65) (v := ?_) (a' := ?_) (bN 30 1073741823) rfl rfl (any_of HT_.out (by kernel_rfl)) (fun _ _ _ h => h) (Or.inl ⟨by rfl, ?_⟩) ?_ ?_
             rotate_left
             ·intro w'
              go_simp
              with_reducible rfl
             rotate_left
             ·simp only [Act.put, List.setIfInBounds_toArray, List.set_cons_zero, List.set_cons_succ, i64_w, i32_w]
              rfl
             refine done_ (done_of HT_.out (by kernel_rfl)) ?_
             try go_wp2
             go_meet
             case rel => exact ⟨_, (decide (((rd_T56 ((rd_T34 l0 0).f1) (ji20)).f0) ≥ ((rd_T56 ((rd_T34 l0 0).f1) x3_2).f0))), (by first | rfl | (simp; done) | (simp only [← hji20] <;> (first | rfl | simp)) | (simp [*]; done)), H', ⟨by have := HJ1.out; have := HK2.out; first | omega | exact Nat.le_refl _⟩, ⟨by exact sT BK225.out⟩, ⟨sb⟩⟩
            rw [if_neg c22] at H
            exact absurd H (by simp)
           rw [if_neg c21] at H
           exact absurd H (by simp)
          rw [if_neg c19] at H
          have c19b0 : decide (0 < x3_2) = false := decide_eq_false c19
          clear c19
          have H' := Aside0.mk H
          clear H
          try go_wp2
          have n0_ : Aside0 (((((((((((w11.setCell ⟨gb225, 0, none⟩ (.int .i64 ((rd_T56 ((rd_T34 l0 0).f1) x3_2).f0))).setCell ⟨gb225, 1, none⟩ (.int .i64 ((rd_T56 ((rd_T34 l0 0).f1) x3_2).f1))).setCell ⟨gb225, 2, none⟩ (.string ((rd_T56 ((rd_T34 l0 0).f1) x3_2).f2))).setCell ⟨gb225, 3, none⟩ (.int .i64 ((rd_T56 ((rd_T34 l0 0).f1) x3_2).f3))).setCell ⟨gb225, 4, none⟩ (.slice A224_4 ((rd_T56 ((rd_T34 l0 0).f1) x3_2).f4).length c224_4)).setCell ⟨gb225, 5, none⟩ (.slice A224_5 ((rd_T56 ((rd_T34 l0 0).f1) x3_2).f5).length c224_5)).setCell ⟨gb225, 6, none⟩ (.int .i64 ((rd_T56 ((rd_T34 l0 0).f1) x3_2).f6.f0))).setCell ⟨gb225, 7, none⟩ (.int .i64 ((rd_T56 ((rd_T34 l0 0).f1) x3_2).f6.f1))).setCell ⟨gb225, 8, none⟩ (.string ((rd_T56 ((rd_T34 l0 0).f1) x3_2).f6.f2))).setCell ⟨gb225, 9, none⟩ (.int .i64 ((rd_T56 ((rd_T34 l0 0).f1) x3_2).f6.f3))).heap[gb225]? = some (.cells #[.int .i64 ((rd_T56 ((rd_T34 l0 0).f1) x3_2).f0), .int .i64 ((rd_T56 ((rd_T34 l0 0).f1) x3_2).f1), .string ((rd_T56 ((rd_T34 l0 0).f1) x3_2).f2), .int .i64 ((rd_T56 ((rd_T34 l0 0).f1) x3_2).f3), .slice A224_4 ((rd_T56 ((rd_T34 l0 0).f1) x3_2).f4).length c224_4, .slice A224_5 ((rd_T56 ((rd_T34 l0 0).f1) x3_2).f5).length c224_5, .int .i64 ((rd_T56 ((rd_T34 l0 0).f1) x3_2).f6.f0), .int .i64 ((rd_T56 ((rd_T34 l0 0).f1) x3_2).f6.f1), .string ((rd_T56 ((rd_T34 l0 0).f1) x3_2).f6.f2), .int .i64 ((rd_T56 ((rd_T34 l0 0).f1) x3_2).f6.f3)] 56 (0, 0))) := ⟨sP10 (sT BK225.out)⟩
          have n1_ : Aside0 (Below w.heap.size w ((((((((((w11.setCell ⟨gb225, 0, none⟩ (.int .i64 ((rd_T56 ((rd_T34 l0 0).f1) x3_2).f0))).setCell ⟨gb225, 1, none⟩ (.int .i64 ((rd_T56 ((rd_T34 l0 0).f1) x3_2).f1))).setCell ⟨gb225, 2, none⟩ (.string ((rd_T56 ((rd_T34 l0 0).f1) x3_2).f2))).setCell ⟨gb225, 3, none⟩ (.int .i64 ((rd_T56 ((rd_T34 l0 0).f1) x3_2).f3))).setCell ⟨gb225, 4, none⟩ (.slice A224_4 ((rd_T56 ((rd_T34 l0 0).f1) x3_2).f4).length c224_4)).setCell ⟨gb225, 5, none⟩ (.slice A224_5 ((rd_T56 ((rd_T34 l0 0).f1) x3_2).f5).length c224_5)).setCell ⟨gb225, 6, none⟩ (.int .i64 ((rd_T56 ((rd_T34 l0 0).f1) x3_2).f6.f0))).setCell ⟨gb225, 7, none⟩ (.int .i64 ((rd_T56 ((rd_T34 l0 0).f1) x3_2).f6.f1))).setCell ⟨gb225, 8, none⟩ (.string ((rd_T56 ((rd_T34 l0 0).f1) x3_2).f6.f2))).setCell ⟨gb225, 9, none⟩ (.int .i64 ((rd_T56 ((rd_T34 l0 0).f1) x3_2).f6.f3)))) := ⟨sb⟩
          (try clear BK225)
          (try clear HB)
          generalize ((((((((((w11.setCell ⟨gb225, 0, none⟩ (.int .i64 ((rd_T56 ((rd_T34 l0 0).f1) x3_2).f0))).setCell ⟨gb225, 1, none⟩ (.int .i64 ((rd_T56 ((rd_T34 l0 0).f1) x3_2).f1))).setCell ⟨gb225, 2, none⟩ (.string ((rd_T56 ((rd_T34 l0 0).f1) x3_2).f2))).setCell ⟨gb225, 3, none⟩ (.int .i64 ((rd_T56 ((rd_T34 l0 0).f1) x3_2).f3))).setCell ⟨gb225, 4, none⟩ (.slice A224_4 ((rd_T56 ((rd_T34 l0 0).f1) x3_2).f4).length c224_4)).setCell ⟨gb225, 5, none⟩ (.slice A224_5 ((rd_T56 ((rd_T34 l0 0).f1) x3_2).f5).length c224_5)).setCell ⟨gb225, 6, none⟩ (.int .i64 ((rd_T56 ((rd_T34 l0 0).f1) x3_2).f6.f0))).setCell ⟨gb225, 7, none⟩ (.int .i64 ((rd_T56 ((rd_T34 l0 0).f1) x3_2).f6.f1))).setCell ⟨gb225, 8, none⟩ (.string ((rd_T56 ((rd_T34 l0 0).f1) x3_2).f6.f2))).setCell ⟨gb225, 9, none⟩ (.int .i64 ((rd_T56 ((rd_T34 l0 0).f1) x3_2).f6.f3))) = w26 at n0_ n1_ ⊢
          have BK225 := n0_
          have HB := n1_
          clear n0_ n1_
          have n0_ := Aside0.mk (blk_drew BK225.out)
          have n1_ := Aside0.mk (below_drew1 HB.out)
          clear BK225
          clear HB
          have BK225 := n0_
          have HB := n1_
          clear n0_ n1_
          have p227 : 0 ≤ (0 : Int) := (by omega)
          have q227 : 0 < (l0.length : Int) := of_decide_eq_true (by first | (with_reducible assumption) | assumption)
          obtain ⟨ad227, A227_1, c227_1, e227, hx227_0, hx227_1, hl227_1, hi227_1⟩ := at_T34 HR0.out 0 p227 q227
          have hw227_1 := hx227_1
          (try rw [sZ] at hw227_1)
          have hw227_0 := hx227_0
          (try rw [sZ] at hw227_0)
          obtain rfl : ad222 = ad227 := (by injection e227)
          have qi227 : (0 < l0.length) = True := eq_true (by omega)
          (try rw [sZ] at hx227_0)
          (try rw [sZ] at hx227_1)
          replace hx227_0 := sX HB hx227_0
          replace hx227_1 := sX HB hx227_1
          have HR227_1 := Aside0.mk hi227_1
          have HC227_1 := Aside0.mk hl227_1
          clear hi227_1 hl227_1
          replace p227 := eq_true p227
          replace q227 := eq_true q227
          refine start_ (n := 30) (S := fun w' => w'.cell? ⟨gb225, 0, none⟩ = some (.int .i64 ((rd_T56 ((rd_T34 l0 0).f1) x3_2).f0)) ∧ w'.cell? ⟨gb225, 1, none⟩ = some (.int .i64 ((rd_T56 ((rd_T34 l0 0).f1) x3_2).f1)) ∧ w'.cell? ⟨gb225, 2, none⟩ = some (.string ((rd_T56 ((rd_T34 l0 0).f1) x3_2).f2)) ∧ w'.cell? ⟨gb225, 3, none⟩ = some (.int .i64 ((rd_T56 ((rd_T34 l0 0).f1) x3_2).f3)) ∧ w'.cell? ⟨gb225, 4, none⟩ = some (.slice A224_4 ((rd_T56 ((rd_T34 l0 0).f1) x3_2).f4).length c224_4) ∧ w'.cell? ⟨gb225, 5, none⟩ = some (.slice A224_5 ((rd_T56 ((rd_T34 l0 0).f1) x3_2).f5).length c224_5) ∧ w'.cell? ⟨gb225, 6, none⟩ = some (.int .i64 ((rd_T56 ((rd_T34 l0 0).f1) x3_2).f6.f0)) ∧ w'.cell? ⟨gb225, 7, none⟩ = some (.int .i64 ((rd_T56 ((rd_T34 l0 0).f1) x3_2).f6.f1)) ∧ w'.cell? ⟨gb225, 8, none⟩ = some (.string ((rd_T56 ((rd_T34 l0 0).f1) x3_2).f6.f2)) ∧ w'.cell? ⟨gb225, 9, none⟩ = some (.int .i64 ((rd_T56 ((rd_T34 l0 0).f1) x3_2).f6.f3)) ∧ w'.cell? ad222 = some (.int .i64 ((rd_T34 l0 0).f0)) ∧ w'.cell? ⟨ad222.block, ad222.off + 1, none⟩ = some (.slice A227_1 ((rd_T34 l0 0).f1).length c227_1)) (ds := []) #[false, false, false, false, false, false, false, false, false, false, false, false, false, false, false, false, false, false, false, false, false, false, false, false, false, false, false, false, false, false] (by kernel_rfl) rfl rfl ⟨(blk_cell BK225.out 0).trans rfl, (blk_cell BK225.out 1).trans rfl, (blk_cell BK225.out 2).trans rfl, (blk_cell BK225.out 3).trans rfl, (blk_cell BK225.out 4).trans rfl, (blk_cell BK225.out 5).trans rfl, (blk_cell BK225.out 6).trans rfl, (blk_cell BK225.out 7).trans rfl, (blk_cell BK225.out 8).trans rfl, (blk_cell BK225.out 9).trans rfl, ((HB.out.cell (World.block_lt_of_cell? w _ hw227_0)).trans hw227_0), ((HB.out.cell (World.block_lt_of_cell? w _ hw227_1)).trans hw227_1)⟩ (fun hHeld => ?_); refine with_tabW spec_l07Ok.tab7 spec_l07Ok.bits7 (fun HT_ HW_ => ?_)
          generalize w26.drew = w27 at BK225 HB HR227_1 hx227_0 hx227_1 hHeld ⊢
          refine take_ (i := 0) (N := some 36) (v := ?_) (a' := ?_) (bN 30 1) rfl rfl (take_ofW HT_.out HW_.out (by kernel_rfl)) (fun _ _ _ h => h) (Or.inl ⟨by rfl, ?_⟩) hHeld ?_ ?_
          rotate_left
          ·rintro w' ⟨s0, s1, s2, s3, s4, s5, s6, s7, s8, s9, s10, s11⟩
           go_simp
           with_reducible rfl
          rotate_left
          ·simp only [Act.put, List.setIfInBounds_toArray, List.set_cons_zero, List.set_cons_succ, i64_w, i32_w]
           rfl
          refine one_ (i := 1) (N := some 37) (bN 30 3) rfl rfl (one_of HT_.out (by kernel_rfl)) (by decide) (fun K hK => ?_)
          refine goes_ Try.func81 (by kernel_rfl) rfl #[.agg #[.int .i64 ((rd_T56 ((rd_T34 l0 0).f1) x3_2).f0), .int .i64 ((rd_T56 ((rd_T34 l0 0).f1) x3_2).f1), .string ((rd_T56 ((rd_T34 l0 0).f1) x3_2).f2), .int .i64 ((rd_T56 ((rd_T34 l0 0).f1) x3_2).f3), .slice A224_4 ((rd_T56 ((rd_T34 l0 0).f1) x3_2).f4).length c224_4, .slice A224_5 ((rd_T56 ((rd_T34 l0 0).f1) x3_2).f5).length c224_5, .int .i64 ((rd_T56 ((rd_T34 l0 0).f1) x3_2).f6.f0), .int .i64 ((rd_T56 ((rd_T34 l0 0).f1) x3_2).f6.f1), .string ((rd_T56 ((rd_T34 l0 0).f1) x3_2).f6.f2), .int .i64 ((rd_T56 ((rd_T34 l0 0).f1) x3_2).f6.f3)]] (by rfl) rfl rfl (by (try simp only [List.map_toArray, List.map_cons, List.map_nil]); first | done | rfl | (simp only [List.length_drop, List.length_take]; rfl)) ?_
          with_reducible refine (spec_l07Object.calls k2 ((rd_T56 ((rd_T34 l0 0).f1) x3_2).f0) ((rd_T56 ((rd_T34 l0 0).f1) x3_2).f1) ((rd_T56 ((rd_T34 l0 0).f1) x3_2).f2) ((rd_T56 ((rd_T34 l0 0).f1) x3_2).f3) _ _ ((rd_T56 ((rd_T34 l0 0).f1) x3_2).f4) _ _ ((rd_T56 ((rd_T34 l0 0).f1) x3_2).f5) ((rd_T56 ((rd_T34 l0 0).f1) x3_2).f6.f0) ((rd_T56 ((rd_T34 l0 0).f1) x3_2).f6.f1) ((rd_T56 ((rd_T34 l0 0).f1) x3_2).f6.f2) ((rd_T56 ((rd_T34 l0 0).f1) x3_2).f6.f3) true _ ?side1 ?side2 ?side3 ?side4 A13.out).mono ?_
          (case side1 => exact sD (Kd.C_below HR224_4.out HB.out))
          (case side2 => exact HC224_4.out)
          (case side3 => exact sD (Kd.C_below HR224_5.out HB.out))
          (case side4 => exact HC224_5.out)
          rintro e w28 ⟨rfl, hb⟩
          refine ⟨_, rfl, ?_⟩
          have n0_ := sK BK225 hb
          have n1_ := sB HB hb
          clear BK225
          clear HB
          have BK225 := n0_
          have HB := n1_
          clear n0_ n1_
          (try clear hb)
          (try clear hb2)
          (try clear hk)
          (try clear hi)
          refine hK.out _ _ ⟨(blk_cell BK225.out 0).trans rfl, (blk_cell BK225.out 1).trans rfl, (blk_cell BK225.out 2).trans rfl, (blk_cell BK225.out 3).trans rfl, (blk_cell BK225.out 4).trans rfl, (blk_cell BK225.out 5).trans rfl, (blk_cell BK225.out 6).trans rfl, (blk_cell BK225.out 7).trans rfl, (blk_cell BK225.out 8).trans rfl, (blk_cell BK225.out 9).trans rfl, ((HB.out.cell (World.block_lt_of_cell? w _ hw227_0)).trans hw227_0), ((HB.out.cell (World.block_lt_of_cell? w _ hw227_1)).trans hw227_1)⟩ (fun hHeld => ?_)
          clear hK K
          refine norm_ (a' := ?_) ?_ ?_
          rotate_left
          ·show Act.put _ (some 37) _ = _
           simp only [Act.put, List.setIfInBounds_toArray, List.set_cons_zero, List.set_cons_succ, i64_w, i32_w]
           rfl
          refine pure_ (i := 2) (N := some 38) (v := ?_) (a' := ?_) (bN 30 7) rfl rfl (any_of HT_.out (by kernel_rfl)) (fun _ _ _ h => h) (Or.inl ⟨by rfl, ?_⟩) ?_ ?_
          rotate_left
          ·intro w'
           go_simp
           with_reducible rfl
          rotate_left
          ·simp only [Act.put, List.setIfInBounds_toArray, List.set_cons_zero, List.set_cons_succ, i64_w, i32_w]
           rfl
          refine pure_ (i := 3) (N := some 39) (v := ?_) (a' := ?_) (bN 30 15) rfl rfl (any_of HT_.out (by kernel_rfl)) (fun _ _ _ h => h) (Or.inl ⟨by rfl, ?_⟩) ?_ ?_
          rotate_left
          ·intro w'
           go_simp
           with_reducible rfl
          rotate_left
          ·simp only [Act.put, List.setIfInBounds_toArray, List.set_cons_zero, List.set_cons_succ, i64_w, i32_w]
           rfl
          refine pure_ (i := 4) (N := some 40) (v := ?_) (a' := ?_) (bN 30 31) rfl rfl (any_of HT_.out (by kernel_rfl)) (fun _ _ _ h => h) (Or.inl ⟨by rfl, ?_⟩) ?_ ?_
          rotate_left
          ·intro w'
           go_simp
           with_reducible rfl
          rotate_left
          ·simp only [Act.put, List.setIfInBounds_toArray, List.set_cons_zero, List.set_cons_succ, i64_w, i32_w]
           rfl
          refine pure_ (i := 6) (N := some 42) (v := ?_) (a' := ?_) (bN 30 95) rfl rfl (any_of HT_.out (by kernel_rfl)) (fun _ _ _ h => h) (Or.inl ⟨by rfl, ?_⟩) ?_ ?_
          rotate_left
          ·intro w'
           go_simp
           with_reducible rfl
          rotate_left
          ·simp only [Act.put, List.setIfInBounds_toArray, List.set_cons_zero, List.set_cons_succ, i64_w, i32_w]
           rfl
          refine pure_ (i := 7) (N := some 43) (v := ?_) (a' := ?_) (bN 30 223) rfl rfl (any_of HT_.out (by kernel_rfl)) (fun _ _ _ h => h) (Or.inl ⟨by rfl, ?_⟩) ?_ ?_
          rotate_left
          ·intro w'
           go_simp
           with_reducible rfl
          rotate_left
          ·simp only [Act.put, List.setIfInBounds_toArray, List.set_cons_zero, List.set_cons_succ, i64_w, i32_w]
           rfl
          refine pure_ (i := 8) (N := some 44) (v := ?_) (a' := ?_) (bN 30 479) rfl rfl (any_of HT_.out (by kernel_rfl)) (fun _ _ _ h => h) (Or.inl ⟨by rfl, ?_⟩) ?_ ?_
          rotate_left
          ·intro w'
           go_simp
           with_reducible rfl
          rotate_left
          ·simp only [Act.put, List.setIfInBounds_toArray, List.set_cons_zero, List.set_cons_succ, i64_w, i32_w]
           rfl
          refine take_ (i := 5) (N := some 41) (v := ?_) (a' := ?_) (bN 30 511) rfl rfl (take_ofW HT_.out HW_.out (by kernel_rfl)) (fun _ _ _ h => h) (Or.inl ⟨by rfl, ?_⟩) hHeld ?_ ?_
          rotate_left
          ·rintro w' ⟨s0, s1, s2, s3, s4, s5, s6, s7, s8, s9, s10, s11⟩
           go_simp
           with_reducible rfl
          rotate_left
          ·simp only [Act.put, List.setIfInBounds_toArray, List.set_cons_zero, List.set_cons_succ, i64_w, i32_w]
           rfl
          refine take_ (i := 9) (N := some 45) (v := ?_) (a' := ?_) (bN 30 1023) rfl rfl (take_ofW HT_.out HW_.out (by kernel_rfl)) (fun _ _ _ h => h) (Or.inl ⟨by rfl, ?_⟩) hHeld ?_ ?_
          rotate_left
          ·rintro w' ⟨s0, s1, s2, s3, s4, s5, s6, s7, s8, s9, s10, s11⟩
           go_simp
           with_reducible rfl
          rotate_left
          ·simp only [Act.put, List.setIfInBounds_toArray, List.set_cons_zero, List.set_cons_succ, i64_w, i32_w]
           rfl
          refine pure_ (i := 10) (N := some 46) (v := ?_) (a' := ?_) (bN 30 2047) rfl rfl (any_of HT_.out (by kernel_rfl)) (fun _ _ _ h => h) (Or.inl ⟨by rfl, ?_⟩) ?_ ?_
          rotate_left
          ·intro w'
           go_simp
           with_reducible rfl
          rotate_left
          ·simp only [Act.put, List.setIfInBounds_toArray, List.set_cons_zero, List.set_cons_succ, i64_w, i32_w]
           rfl
          refine pure_ (i := 11) (N := some 47) (v := ?_) (a' := ?_) (bN 30 4095) rfl rfl (any_of HT_.out (by kernel_rfl)) (fun _ _ _ h => h) (Or.inl ⟨by rfl, ?_⟩) ?_ ?_
          rotate_left
          ·intro w'
           go_simp
           with_reducible rfl
          rotate_left
          ·simp only [Act.put, List.setIfInBounds_toArray, List.set_cons_zero, List.set_cons_succ, i64_w, i32_w]
           rfl
          refine pure_ (i := 12) (N := some 48) (v := ?_) (a' := ?_) (bN 30 8191) rfl rfl (any_of HT_.out (by kernel_rfl)) (fun _ _ _ h => h) (Or.inl ⟨by rfl, ?_⟩) ?_ ?_
          rotate_left
          ·intro w'
           go_simp
           with_reducible rfl
          rotate_left
          ·simp only [Act.put, List.setIfInBounds_toArray, List.set_cons_zero, List.set_cons_succ, i64_w, i32_w]
           rfl
          refine pure_ (i := 13) (N := some 49) (v := ?_) (a' := ?_) (bN 30 16383) rfl rfl (any_of HT_.out (by kernel_rfl)) (fun _ _ _ h => h) (Or.inl ⟨by rfl, ?_⟩) ?_ ?_
          rotate_left
          ·intro w'
           go_simp
           with_reducible rfl
          rotate_left
          ·simp only [Act.put, List.setIfInBounds_toArray, List.set_cons_zero, List.set_cons_succ, i64_w, i32_w]
           rfl
          refine pure_ (i := 14) (N := some 50) (v := ?_) (a' := ?_) (bN 30 32767) rfl rfl (any_of HT_.out (by kernel_rfl)) (fun _ _ _ h => h) (Or.inl ⟨by rfl, ?_⟩) ?_ ?_
          rotate_left
          ·intro w'
           go_simp
           with_reducible rfl
          rotate_left
          ·simp only [Act.put, List.setIfInBounds_toArray, List.set_cons_zero, List.set_cons_succ, i64_w, i32_w]
           rfl
          refine pure_ (i := 15) (N := some 51) (v := ?_) (a' := ?_) (bN 30 65535) rfl rfl (any_of HT_.out (by kernel_rfl)) (fun _ _ _ h => h) (Or.inl ⟨by rfl, ?_⟩) ?_ ?_
          rotate_left
          ·intro w'
           go_simp
           with_reducible rfl
          rotate_left
          ·simp only [Act.put, List.setIfInBounds_toArray, List.set_cons_zero, List.set_cons_succ, i64_w, i32_w]
           rfl
          refine pure_ (i := 16) (N := some 52) (v := undef) (a' := ?_) (bN 30 131071) rfl rfl (any_of HT_.out (by kernel_rfl)) (fun _ _ _ h => h) (Or.inr ⟨by rfl, rfl⟩) ?_ ?_
          rotate_left
          ·simp only [Act.put, List.setIfInBounds_toArray, List.set_cons_zero, List.set_cons_succ, i64_w, i32_w]
           rfl
          refine pure_ (i := 17) (N := some 53) (v := undef) (a' := ?_) (bN 30 262143) rfl rfl (any_of HT_.out (by kernel_rfl)) (fun _ _ _ h => h) (Or.inr ⟨by rfl, rfl⟩) ?_ ?_
          rotate_left
          ·simp only [Act.put, List.setIfInBounds_toArray, List.set_cons_zero, List.set_cons_succ, i64_w, i32_w]
           rfl
          refine pure_ (i := 18) (N := some 54) (v := undef) (a' := ?_) (bN 30 524287) rfl rfl (any_of HT_.out (by kernel_rfl)) (fun _ _ _ h => h) (Or.inr ⟨by rfl, rfl⟩) ?_ ?_
          rotate_left
          ·simp only [Act.put, List.setIfInBounds_toArray, List.set_cons_zero, List.set_cons_succ, i64_w, i32_w]
           rfl
          refine pure_ (i := 19) (N := some 55) (v := undef) (a' := ?_) (bN 30 1048575) rfl rfl (any_of HT_.out (by kernel_rfl)) (fun _ _ _ h => h) (Or.inr ⟨by rfl, rfl⟩) ?_ ?_
          rotate_left
          ·simp only [Act.put, List.setIfInBounds_toArray, List.set_cons_zero, List.set_cons_succ, i64_w, i32_w]
           rfl
          refine pure_ (i := 20) (N := some 56) (v := undef) (a' := ?_) (bN 30 2097151) rfl rfl (any_of HT_.out (by kernel_rfl)) (fun _ _ _ h => h) (Or.inr ⟨by rfl, rfl⟩) ?_ ?_
          rotate_left
          ·simp only [Act.put, List.setIfInBounds_toArray, List.set_cons_zero, List.set_cons_succ, i64_w, i32_w]
           rfl
          refine pure_ (i := 21) (N := some 57) (v := undef) (a' := ?_) (bN 30 4194303) rfl rfl (any_of HT_.out (by kernel_rfl)) (fun _ _ _ h => h) (Or.inr ⟨by rfl, rfl⟩) ?_ ?_
          rotate_left
          ·simp only [Act.put, List.setIfInBounds_toArray, List.set_cons_zero, List.set_cons_succ, i64_w, i32_w]
           rfl
          refine pure_ (i := 22) (N := some 58) (v := undef) (a' := ?_) (bN 30 8388607) rfl rfl (any_of HT_.out (by kernel_rfl)) (fun _ _ _ h => h) (Or.inr ⟨by rfl, rfl⟩) ?_ ?_
          rotate_left
          ·simp only [Act.put, List.setIfInBounds_toArray, List.set_cons_zero, List.set_cons_succ, i64_w, i32_w]
           rfl
          refine pure_ (i := 23) (N := some 59) (v := undef) (a' := ?_) (bN 30 16777215) rfl rfl (any_of HT_.out (by kernel_rfl)) (fun _ _ _ h => h) (Or.inr ⟨by rfl, rfl⟩) ?_ ?_
          rotate_left
          ·simp only [Act.put, List.setIfInBounds_toArray, List.set_cons_zero, List.set_cons_succ, i64_w, i32_w]
           rfl
          refine pure_ (i := 24) (N := some 60) (v := undef) (a' := ?_) (bN 30 33554431) rfl rfl (any_of HT_.out (by kernel_rfl)) (fun _ _ _ h => h) (Or.inr ⟨by rfl, rfl⟩) ?_ ?_
          rotate_left
          ·simp only [Act.put, List.setIfInBounds_toArray, List.set_cons_zero, List.set_cons_succ, i64_w, i32_w]
           rfl
          refine pure_ (i := 25) (N := some 61) (v := undef) (a' := ?_) (bN 30 67108863) rfl rfl (any_of HT_.out (by kernel_rfl)) (fun _ _ _ h => h) (Or.inr ⟨by rfl, rfl⟩) ?_ ?_
          rotate_left
          ·simp only [Act.put, List.setIfInBounds_toArray, List.set_cons_zero, List.set_cons_succ, i64_w, i32_w]
           rfl
          refine pure_ (i := 26) (N := some 62) (v := undef) (a' := ?_) (bN 30 134217727) rfl rfl (any_of HT_.out (by kernel_rfl)) (fun _ _ _ h => h) (Or.inr ⟨by rfl, rfl⟩) ?_ ?_
          rotate_left
          ·simp only [Act.put, List.setIfInBounds_toArray, List.set_cons_zero, List.set_cons_succ, i64_w, i32_w]
           rfl
          refine pure_ (i := 27) (N := some 63) (v := undef) (a' := ?_) (bN 30 268435455) rfl rfl (any_of HT_.out (by kernel_rfl)) (fun _ _ _ h => h) (Or.inr ⟨by rfl, rfl⟩) ?_ ?_
          rotate_left
          ·simp only [Act.put, List.setIfInBounds_toArray, List.set_cons_zero, List.set_cons_succ, i64_w, i32_w]
           rfl
          refine pure_ (i := 28) (N := some 64) (v := ?_) (a' := ?_) (bN 30 536870911) rfl rfl (any_of HT_.out (by kernel_rfl)) (fun _ _ _ h => h) (Or.inl ⟨by rfl, ?_⟩) ?_ ?_
          rotate_left
          ·intro w'
           go_simp
           with_reducible rfl
          rotate_left
          ·simp only [Act.put, List.setIfInBounds_toArray, List.set_cons_zero, List.set_cons_succ, i64_w, i32_w]
           rfl
          refine pure_ (i := 29) (N := some 65) (v := ?_) (a' := ?_) (bN 30 1073741823) rfl rfl (any_of HT_.out (by kernel_rfl)) (fun _ _ _ h => h) (Or.inl ⟨by rfl, ?_⟩) ?_ ?_
          rotate_left
          ·intro w'
           go_simp
           with_reducible rfl
          rotate_left
          ·simp only [Act.put, List.setIfInBounds_toArray, List.set_cons_zero, List.set_cons_succ, i64_w, i32_w]
           rfl
          refine done_ (done_of HT_.out (by kernel_rfl)) ?_
          try go_wp2
          go_meet
          case rel => exact ⟨_, (false), sr, H', ⟨by have := HJ1.out; have := HK2.out; first | omega | exact Nat.le_refl _⟩, ⟨by exact sT BK225.out⟩, ⟨sb⟩⟩
         replace c14 := Bool.eq_false_iff.mpr c14
         subst c14
         rewrite [if_neg (show ¬ (false = true) by decide)] at H
         have H' := Aside0.mk H
         clear H
         try go_wp2
         have n0_ : Aside0 (((((((((((w11.setCell ⟨gb225, 0, none⟩ (.int .i64 ((rd_T56 ((rd_T34 l0 0).f1) x3_2).f0))).setCell ⟨gb225, 1, none⟩ (.int .i64 ((rd_T56 ((rd_T34 l0 0).f1) x3_2).f1))).setCell ⟨gb225, 2, none⟩ (.string ((rd_T56 ((rd_T34 l0 0).f1) x3_2).f2))).setCell ⟨gb225, 3, none⟩ (.int .i64 ((rd_T56 ((rd_T34 l0 0).f1) x3_2).f3))).setCell ⟨gb225, 4, none⟩ (.slice A224_4 ((rd_T56 ((rd_T34 l0 0).f1) x3_2).f4).length c224_4)).setCell ⟨gb225, 5, none⟩ (.slice A224_5 ((rd_T56 ((rd_T34 l0 0).f1) x3_2).f5).length c224_5)).setCell ⟨gb225, 6, none⟩ (.int .i64 ((rd_T56 ((rd_T34 l0 0).f1) x3_2).f6.f0))).setCell ⟨gb225, 7, none⟩ (.int .i64 ((rd_T56 ((rd_T34 l0 0).f1) x3_2).f6.f1))).setCell ⟨gb225, 8, none⟩ (.string ((rd_T56 ((rd_T34 l0 0).f1) x3_2).f6.f2))).setCell ⟨gb225, 9, none⟩ (.int .i64 ((rd_T56 ((rd_T34 l0 0).f1) x3_2).f6.f3))).heap[gb225]? = some (.cells #[.int .i64 ((rd_T56 ((rd_T34 l0 0).f1) x3_2).f0), .int .i64 ((rd_T56 ((rd_T34 l0 0).f1) x3_2).f1), .string ((rd_T56 ((rd_T34 l0 0).f1) x3_2).f2), .int .i64 ((rd_T56 ((rd_T34 l0 0).f1) x3_2).f3), .slice A224_4 ((rd_T56 ((rd_T34 l0 0).f1) x3_2).f4).length c224_4, .slice A224_5 ((rd_T56 ((rd_T34 l0 0).f1) x3_2).f5).length c224_5, .int .i64 ((rd_T56 ((rd_T34 l0 0).f1) x3_2).f6.f0), .int .i64 ((rd_T56 ((rd_T34 l0 0).f1) x3_2).f6.f1), .string ((rd_T56 ((rd_T34 l0 0).f1) x3_2).f6.f2), .int .i64 ((rd_T56 ((rd_T34 l0 0).f1) x3_2).f6.f3)] 56 (0, 0))) := ⟨sP10 (sT BK225.out)⟩
         have n1_ : Aside0 (Below w.heap.size w ((((((((((w11.setCell ⟨gb225, 0, none⟩ (.int .i64 ((rd_T56 ((rd_T34 l0 0).f1) x3_2).f0))).setCell ⟨gb225, 1, none⟩ (.int .i64 ((rd_T56 ((rd_T34 l0 0).f1) x3_2).f1))).setCell ⟨gb225, 2, none⟩ (.string ((rd_T56 ((rd_T34 l0 0).f1) x3_2).f2))).setCell ⟨gb225, 3, none⟩ (.int .i64 ((rd_T56 ((rd_T34 l0 0).f1) x3_2).f3))).setCell ⟨gb225, 4, none⟩ (.slice A224_4 ((rd_T56 ((rd_T34 l0 0).f1) x3_2).f4).length c224_4)).setCell ⟨gb225, 5, none⟩ (.slice A224_5 ((rd_T56 ((rd_T34 l0 0).f1) x3_2).f5).length c224_5)).setCell ⟨gb225, 6, none⟩ (.int .i64 ((rd_T56 ((rd_T34 l0 0).f1) x3_2).f6.f0))).setCell ⟨gb225, 7, none⟩ (.int .i64 ((rd_T56 ((rd_T34 l0 0).f1) x3_2).f6.f1))).setCell ⟨gb225, 8, none⟩ (.string ((rd_T56 ((rd_T34 l0 0).f1) x3_2).f6.f2))).setCell ⟨gb225, 9, none⟩ (.int .i64 ((rd_T56 ((rd_T34 l0 0).f1) x3_2).f6.f3)))) := ⟨sb⟩
         (try clear BK225)
         (try clear HB)
         generalize ((((((((((w11.setCell ⟨gb225, 0, none⟩ (.int .i64 ((rd_T56 ((rd_T34 l0 0).f1) x3_2).f0))).setCell ⟨gb225, 1, none⟩ (.int .i64 ((rd_T56 ((rd_T34 l0 0).f1) x3_2).f1))).setCell ⟨gb225, 2, none⟩ (.string ((rd_T56 ((rd_T34 l0 0).f1) x3_2).f2))).setCell ⟨gb225, 3, none⟩ (.int .i64 ((rd_T56 ((rd_T34 l0 0).f1) x3_2).f3))).setCell ⟨gb225, 4, none⟩ (.slice A224_4 ((rd_T56 ((rd_T34 l0 0).f1) x3_2).f4).length c224_4)).setCell ⟨gb225, 5, none⟩ (.slice A224_5 ((rd_T56 ((rd_T34 l0 0).f1) x3_2).f5).length c224_5)).setCell ⟨gb225, 6, none⟩ (.int .i64 ((rd_T56 ((rd_T34 l0 0).f1) x3_2).f6.f0))).setCell ⟨gb225, 7, none⟩ (.int .i64 ((rd_T56 ((rd_T34 l0 0).f1) x3_2).f6.f1))).setCell ⟨gb225, 8, none⟩ (.string ((rd_T56 ((rd_T34 l0 0).f1) x3_2).f6.f2))).setCell ⟨gb225, 9, none⟩ (.int .i64 ((rd_T56 ((rd_T34 l0 0).f1) x3_2).f6.f3))) = w29 at n0_ n1_ ⊢
         have BK225 := n0_
         have HB := n1_
         clear n0_ n1_
         have n0_ := Aside0.mk (blk_drew BK225.out)
         have n1_ := Aside0.mk (below_drew1 HB.out)
         clear BK225
         clear HB
         have BK225 := n0_
         have HB := n1_
         clear n0_ n1_
         refine start_ (n := 30) (S := fun w' => w'.cell? ⟨gb225, 0, none⟩ = some (.int .i64 ((rd_T56 ((rd_T34 l0 0).f1) x3_2).f0)) ∧ w'.cell? ⟨gb225, 1, none⟩ = some (.int .i64 ((rd_T56 ((rd_T34 l0 0).f1) x3_2).f1)) ∧ w'.cell? ⟨gb225, 2, none⟩ = some (.string ((rd_T56 ((rd_T34 l0 0).f1) x3_2).f2)) ∧ w'.cell? ⟨gb225, 3, none⟩ = some (.int .i64 ((rd_T56 ((rd_T34 l0 0).f1) x3_2).f3)) ∧ w'.cell? ⟨gb225, 4, none⟩ = some (.slice A224_4 ((rd_T56 ((rd_T34 l0 0).f1) x3_2).f4).length c224_4) ∧ w'.cell? ⟨gb225, 5, none⟩ = some (.slice A224_5 ((rd_T56 ((rd_T34 l0 0).f1) x3_2).f5).length c224_5) ∧ w'.cell? ⟨gb225, 6, none⟩ = some (.int .i64 ((rd_T56 ((rd_T34 l0 0).f1) x3_2).f6.f0)) ∧ w'.cell? ⟨gb225, 7, none⟩ = some (.int .i64 ((rd_T56 ((rd_T34 l0 0).f1) x3_2).f6.f1)) ∧ w'.cell? ⟨gb225, 8, none⟩ = some (.string ((rd_T56 ((rd_T34 l0 0).f1) x3_2).f6.f2)) ∧ w'.cell? ⟨gb225, 9, none⟩ = some (.int .i64 ((rd_T56 ((rd_T34 l0 0).f1) x3_2).f6.f3))) (ds := []) #[false, false, false, false, false, false, false, false, false, false, false, false, false, false, false, false, false, false, false, false, false, false, false, false, false, false, false, false, false, false] (by kernel_rfl) rfl rfl ⟨(blk_cell BK225.out 0).trans rfl, (blk_cell BK225.out 1).trans rfl, (blk_cell BK225.out 2).trans rfl, (blk_cell BK225.out 3).trans rfl, (blk_cell BK225.out 4).trans rfl, (blk_cell BK225.out 5).trans rfl, (blk_cell BK225.out 6).trans rfl, (blk_cell BK225.out 7).trans rfl, (blk_cell BK225.out 8).trans rfl, (blk_cell BK225.out 9).trans rfl⟩ (fun hHeld => ?_); refine with_tabW spec_l07Ok.tab7 spec_l07Ok.bits7 (fun HT_ HW_ => ?_)
         generalize w29.drew = w30 at BK225 HB hHeld ⊢
         refine take_ (i := 0) (N := some 36) (v := ?_) (a' := ?_) (bN 30 1) rfl rfl (take_ofW HT_.out HW_.out (by kernel_rfl)) (fun _ _ _ h => h) (Or.inl ⟨by rfl, ?_⟩) hHeld ?_ ?_
         rotate_left
         ·rintro w' ⟨s0, s1, s2, s3, s4, s5, s6, s7, s8, s9⟩
          go_simp
          with_reducible rfl
         rotate_left
         ·simp only [Act.put, List.setIfInBounds_toArray, List.set_cons_zero, List.set_cons_succ, i64_w, i32_w]
          rfl
         refine one_ (i := 1) (N := some 37) (bN 30 3) rfl rfl (one_of HT_.out (by kernel_rfl)) (by decide) (fun K hK => ?_)
         refine goes_ Try.func81 (by kernel_rfl) rfl #[.agg #[.int .i64 ((rd_T56 ((rd_T34 l0 0).f1) x3_2).f0), .int .i64 ((rd_T56 ((rd_T34 l0 0).f1) x3_2).f1), .string ((rd_T56 ((rd_T34 l0 0).f1) x3_2).f2), .int .i64 ((rd_T56 ((rd_T34 l0 0).f1) x3_2).f3), .slice A224_4 ((rd_T56 ((rd_T34 l0 0).f1) x3_2).f4).length c224_4, .slice A224_5 ((rd_T56 ((rd_T34 l0 0).f1) x3_2).f5).length c224_5, .int .i64 ((rd_T56 ((rd_T34 l0 0).f1) x3_2).f6.f0), .int .i64 ((rd_T56 ((rd_T34 l0 0).f1) x3_2).f6.f1), .string ((rd_T56 ((rd_T34 l0 0).f1) x3_2).f6.f2), .int .i64 ((rd_T56 ((rd_T34 l0 0).f1) x3_2).f6.f3)]] (by rfl) rfl rfl (by (try simp only [List.map_toArray, List.map_cons, List.map_nil]); first | done | rfl | (simp only [List.length_drop, List.length_take]; rfl)) ?_
         with_reducible refine (spec_l07Object.calls k2 ((rd_T56 ((rd_T34 l0 0).f1) x3_2).f0) ((rd_T56 ((rd_T34 l0 0).f1) x3_2).f1) ((rd_T56 ((rd_T34 l0 0).f1) x3_2).f2) ((rd_T56 ((rd_T34 l0 0).f1) x3_2).f3) _ _ ((rd_T56 ((rd_T34 l0 0).f1) x3_2).f4) _ _ ((rd_T56 ((rd_T34 l0 0).f1) x3_2).f5) ((rd_T56 ((rd_T34 l0 0).f1) x3_2).f6.f0) ((rd_T56 ((rd_T34 l0 0).f1) x3_2).f6.f1) ((rd_T56 ((rd_T34 l0 0).f1) x3_2).f6.f2) ((rd_T56 ((rd_T34 l0 0).f1) x3_2).f6.f3) false _ ?side1 ?side2 ?side3 ?side4 A13.out).mono ?_
         (case side1 => exact sD (Kd.C_below HR224_4.out HB.out))
         (case side2 => exact HC224_4.out)
         (case side3 => exact sD (Kd.C_below HR224_5.out HB.out))
         (case side4 => exact HC224_5.out)
         rintro e w31 ⟨rfl, hb⟩
         refine ⟨_, rfl, ?_⟩
         have n0_ := sK BK225 hb
         have n1_ := sB HB hb
         clear BK225
         clear HB
         have BK225 := n0_
         have HB := n1_
         clear n0_ n1_
         (try clear hb)
         (try clear hb2)
         (try clear hk)
         (try clear hi)
         refine hK.out _ _ ⟨(blk_cell BK225.out 0).trans rfl, (blk_cell BK225.out 1).trans rfl, (blk_cell BK225.out 2).trans rfl, (blk_cell BK225.out 3).trans rfl, (blk_cell BK225.out 4).trans rfl, (blk_cell BK225.out 5).trans rfl, (blk_cell BK225.out 6).trans rfl, (blk_cell BK225.out 7).trans rfl, (blk_cell BK225.out 8).trans rfl, (blk_cell BK225.out 9).trans rfl⟩ (fun hHeld => ?_)
         clear hK K
         refine norm_ (a' := ?_) ?_ ?_
         rotate_left
         ·show Act.put _ (some 37) _ = _
          simp only [Act.put, List.setIfInBounds_toArray, List.set_cons_zero, List.set_cons_succ, i64_w, i32_w]
          rfl
         refine pure_ (i := 2) (N := some 38) (v := ?_) (a' := ?_) (bN 30 7) rfl rfl (any_of HT_.out (by kernel_rfl)) (fun _ _ _ h => h) (Or.inl ⟨by rfl, ?_⟩) ?_ ?_
         rotate_left
         ·intro w'
          go_simp
          with_reducible rfl
         rotate_left
         ·simp only [Act.put, List.setIfInBounds_toArray, List.set_cons_zero, List.set_cons_succ, i64_w, i32_w]
          rfl
         refine pure_ (i := 3) (N := some 39) (v := ?_) (a' := ?_) (bN 30 15) rfl rfl (any_of HT_.out (by kernel_rfl)) (fun _ _ _ h => h) (Or.inl ⟨by rfl, ?_⟩) ?_ ?_
         rotate_left
         ·intro w'
          go_simp
          with_reducible rfl
         rotate_left
         ·simp only [Act.put, List.setIfInBounds_toArray, List.set_cons_zero, List.set_cons_succ, i64_w, i32_w]
          rfl
         refine pure_ (i := 4) (N := some 40) (v := undef) (a' := ?_) (bN 30 31) rfl rfl (any_of HT_.out (by kernel_rfl)) (fun _ _ _ h => h) (Or.inr ⟨by rfl, rfl⟩) ?_ ?_
         rotate_left
         ·simp only [Act.put, List.setIfInBounds_toArray, List.set_cons_zero, List.set_cons_succ, i64_w, i32_w]
          rfl
         refine pure_ (i := 5) (N := some 41) (v := undef) (a' := ?_) (bN 30 63) rfl rfl (any_of HT_.out (by kernel_rfl)) (fun _ _ _ h => h) (Or.inr ⟨by rfl, rfl⟩) ?_ ?_
         rotate_left
         ·simp only [Act.put, List.setIfInBounds_toArray, List.set_cons_zero, List.set_cons_succ, i64_w, i32_w]
          rfl
         refine pure_ (i := 6) (N := some 42) (v := undef) (a' := ?_) (bN 30 127) rfl rfl (any_of HT_.out (by kernel_rfl)) (fun _ _ _ h => h) (Or.inr ⟨by rfl, rfl⟩) ?_ ?_
         rotate_left
         ·simp only [Act.put, List.setIfInBounds_toArray, List.set_cons_zero, List.set_cons_succ, i64_w, i32_w]
          rfl
         refine pure_ (i := 7) (N := some 43) (v := undef) (a' := ?_) (bN 30 255) rfl rfl (any_of HT_.out (by kernel_rfl)) (fun _ _ _ h => h) (Or.inr ⟨by rfl, rfl⟩) ?_ ?_
         rotate_left
         ·simp only [Act.put, List.setIfInBounds_toArray, List.set_cons_zero, List.set_cons_succ, i64_w, i32_w]
          rfl
         refine pure_ (i := 8) (N := some 44) (v := undef) (a' := ?_) (bN 30 511) rfl rfl (any_of HT_.out (by kernel_rfl)) (fun _ _ _ h => h) (Or.inr ⟨by rfl, rfl⟩) ?_ ?_
         rotate_left
         ·simp only [Act.put, List.setIfInBounds_toArray, List.set_cons_zero, List.set_cons_succ, i64_w, i32_w]
          rfl
         refine pure_ (i := 9) (N := some 45) (v := undef) (a' := ?_) (bN 30 1023) rfl rfl (any_of HT_.out (by kernel_rfl)) (fun _ _ _ h => h) (Or.inr ⟨by rfl, rfl⟩) ?_ ?_
         rotate_left
         ·simp only [Act.put, List.setIfInBounds_toArray, List.set_cons_zero, List.set_cons_succ, i64_w, i32_w]
          rfl
         refine pure_ (i := 10) (N := some 46) (v := undef) (a' := ?_) (bN 30 2047) rfl rfl (any_of HT_.out (by kernel_rfl)) (fun _ _ _ h => h) (Or.inr ⟨by rfl, rfl⟩) ?_ ?_
         rotate_left
         ·simp only [Act.put, List.setIfInBounds_toArray, List.set_cons_zero, List.set_cons_succ, i64_w, i32_w]
          rfl
         refine pure_ (i := 11) (N := some 47) (v := ?_) (a' := ?_) (bN 30 4095) rfl rfl (any_of HT_.out (by kernel_rfl)) (fun _ _ _ h => h) (Or.inl ⟨by rfl, ?_⟩) ?_ ?_
         rotate_left
         ·intro w'
          go_simp
          with_reducible rfl
         rotate_left
         ·simp only [Act.put, List.setIfInBounds_toArray, List.set_cons_zero, List.set_cons_succ, i64_w, i32_w]
          rfl
         refine pure_ (i := 12) (N := some 48) (v := ?_) (a' := ?_) (bN 30 8191) rfl rfl (any_of HT_.out (by kernel_rfl)) (fun _ _ _ h => h) (Or.inl ⟨by rfl, ?_⟩) ?_ ?_
         rotate_left
         ·intro w'
          go_simp
          with_reducible rfl
         rotate_left
         ·simp only [Act.put, List.setIfInBounds_toArray, List.set_cons_zero, List.set_cons_succ, i64_w, i32_w]
          rfl
         refine pure_ (i := 13) (N := some 49) (v := undef) (a' := ?_) (bN 30 16383) rfl rfl (any_of HT_.out (by kernel_rfl)) (fun _ _ _ h => h) (Or.inr ⟨by rfl, rfl⟩) ?_ ?_
         rotate_left
         ·simp only [Act.put, List.setIfInBounds_toArray, List.set_cons_zero, List.set_cons_succ, i64_w, i32_w]
          rfl
         refine pure_ (i := 14) (N := some 50) (v := undef) (a' := ?_) (bN 30 32767) rfl rfl (any_of HT_.out (by kernel_rfl)) (fun _ _ _ h => h) (Or.inr ⟨by rfl, rfl⟩) ?_ ?_
         rotate_left
         ·simp only [Act.put, List.setIfInBounds_toArray, List.set_cons_zero, List.set_cons_succ, i64_w, i32_w]
          rfl
         refine pure_ (i := 15) (N := some 51) (v := undef) (a' := ?_) (bN 30 65535) rfl rfl (any_of HT_.out (by kernel_rfl)) (fun _ _ _ h => h) (Or.inr ⟨by rfl, rfl⟩) ?_ ?_
         rotate_left
         ·simp only [Act.put, List.setIfInBounds_toArray, List.set_cons_zero, List.set_cons_succ, i64_w, i32_w]
          rfl
         refine pure_ (i := 16) (N := some 52) (v := undef) (a' := ?_) (bN 30 131071) rfl rfl (any_of HT_.out (by kernel_rfl)) (fun _ _ _ h => h) (Or.inr ⟨by rfl, rfl⟩) ?_ ?_
         rotate_left
         ·simp only [Act.put, List.setIfInBounds_toArray, List.set_cons_zero, List.set_cons_succ, i64_w, i32_w]
          rfl
         refine pure_ (i := 17) (N := some 53) (v := undef) (a' := ?_) (bN 30 262143) rfl rfl (any_of HT_.out (by kernel_rfl)) (fun _ _ _ h => h) (Or.inr ⟨by rfl, rfl⟩) ?_ ?_
         rotate_left
         ·simp only [Act.put, List.setIfInBounds_toArray, List.set_cons_zero, List.set_cons_succ, i64_w, i32_w]
          rfl
         refine pure_ (i := 18) (N := some 54) (v := undef) (a' := ?_) (bN 30 524287) rfl rfl (any_of HT_.out (by kernel_rfl)) (fun _ _ _ h => h) (Or.inr ⟨by rfl, rfl⟩) ?_ ?_
         rotate_left
         ·simp only [Act.put, List.setIfInBounds_toArray, List.set_cons_zero, List.set_cons_succ, i64_w, i32_w]
          rfl
         refine pure_ (i := 19) (N := some 55) (v := undef) (a' := ?_) (bN 30 1048575) rfl rfl (any_of HT_.out (by kernel_rfl)) (fun _ _ _ h => h) (Or.inr ⟨by rfl, rfl⟩) ?_ ?_
         rotate_left
         ·simp only [Act.put, List.setIfInBounds_toArray, List.set_cons_zero, List.set_cons_succ, i64_w, i32_w]
          rfl
         refine pure_ (i := 20) (N := some 56) (v := undef) (a' := ?_) (bN 30 2097151) rfl rfl (any_of HT_.out (by kernel_rfl)) (fun _ _ _ h => h) (Or.inr ⟨by rfl, rfl⟩) ?_ ?_
         rotate_left
         ·simp only [Act.put, List.setIfInBounds_toArray, List.set_cons_zero, List.set_cons_succ, i64_w, i32_w]
          rfl
         refine pure_ (i := 21) (N := some 57) (v := undef) (a' := ?_) (bN 30 4194303) rfl rfl (any_of HT_.out (by kernel_rfl)) (fun _ _ _ h => h) (Or.inr ⟨by rfl, rfl⟩) ?_ ?_
         rotate_left
         ·simp only [Act.put, List.setIfInBounds_toArray, List.set_cons_zero, List.set_cons_succ, i64_w, i32_w]
          rfl
         refine pure_ (i := 22) (N := some 58) (v := undef) (a' := ?_) (bN 30 8388607) rfl rfl (any_of HT_.out (by kernel_rfl)) (fun _ _ _ h => h) (Or.inr ⟨by rfl, rfl⟩) ?_ ?_
         rotate_left
         ·simp only [Act.put, List.setIfInBounds_toArray, List.set_cons_zero, List.set_cons_succ, i64_w, i32_w]
          rfl
         refine pure_ (i := 23) (N := some 59) (v := undef) (a' := ?_) (bN 30 16777215) rfl rfl (any_of HT_.out (by kernel_rfl)) (fun _ _ _ h => h) (Or.inr ⟨by rfl, rfl⟩) ?_ ?_
         rotate_left
         ·simp only [Act.put, List.setIfInBounds_toArray, List.set_cons_zero, List.set_cons_succ, i64_w, i32_w]
          rfl
         refine pure_ (i := 24) (N := some 60) (v := undef) (a' := ?_) (bN 30 33554431) rfl rfl (any_of HT_.out (by kernel_rfl)) (fun _ _ _ h => h) (Or.inr ⟨by rfl, rfl⟩) ?_ ?_
         rotate_left
         ·simp only [Act.put, List.setIfInBounds_toArray, List.set_cons_zero, List.set_cons_succ, i64_w, i32_w]
          rfl
         refine pure_ (i := 25) (N := some 61) (v := undef) (a' := ?_) (bN 30 67108863) rfl rfl (any_of HT_.out (by kernel_rfl)) (fun _ _ _ h => h) (Or.inr ⟨by rfl, rfl⟩) ?_ ?_
         rotate_left
         ·simp only [Act.put, List.setIfInBounds_toArray, List.set_cons_zero, List.set_cons_succ, i64_w, i32_w]
          rfl
         refine pure_ (i := 26) (N := some 62) (v := undef) (a' := ?_) (bN 30 134217727) rfl rfl (any_of HT_.out (by kernel_rfl)) (fun _ _ _ h => h) (Or.inr ⟨by rfl, rfl⟩) ?_ ?_
         rotate_left
         ·simp only [Act.put, List.setIfInBounds_toArray, List.set_cons_zero, List.set_cons_succ, i64_w, i32_w]
          rfl
         refine pure_ (i := 27) (N := some 63) (v := undef) (a' := ?_) (bN 30 268435455) rfl rfl (any_of HT_.out (by kernel_rfl)) (fun _ _ _ h => h) (Or.inr ⟨by rfl, rfl⟩) ?_ ?_
         rotate_left
         ·simp only [Act.put, List.setIfInBounds_toArray, List.set_cons_zero, List.set_cons_succ, i64_w, i32_w]
          rfl
         refine pure_ (i := 28) (N := some 64) (v := undef) (a' := ?_) (bN 30 536870911) rfl rfl (any_of HT_.out (by kernel_rfl)) (fun _ _ _ h => h) (Or.inr ⟨by rfl, rfl⟩) ?_ ?_
         rotate_left
         ·simp only [Act.put, List.setIfInBounds_toArray, List.set_cons_zero, List.set_cons_succ, i64_w, i32_w]
          rfl
         refine pure_ (i := 29) (N := some 65) (v := ?_) (a' := ?_) (bN 30 1073741823) rfl rfl (any_of HT_.out (by kernel_rfl)) (fun _ _ _ h => h) (Or.inl ⟨by rfl, ?_⟩) ?_ ?_
         rotate_left
         ·intro w'
          go_simp
          with_reducible rfl
         rotate_left
         ·simp only [Act.put, List.setIfInBounds_toArray, List.set_cons_zero, List.set_cons_succ, i64_w, i32_w]
          rfl
         refine done_ (done_of HT_.out (by kernel_rfl)) ?_
         try go_wp2
         go_meet
         case rel => exact ⟨_, (true), sr, H', ⟨by have := HJ1.out; have := HK2.out; first | omega | exact Nat.le_refl _⟩, ⟨by exact sT BK225.out⟩, ⟨sb⟩⟩
        case rest =>
         clear HC10
         try clear c1
         try clear c2
         try clear p2
         try clear q2
         try clear hx2
         try clear qi2
         try clear c8
         try clear c14
         try clear c19
         try clear c19b0
         try clear c21
         try clear c22
         try clear p22
         try clear q22
         try clear hx22
         try clear qi22
         try clear hx227_0
         try clear hx227_1
         try clear p227
         try clear q227
         obtain ⟨kq, x65_9, rfl, HA, HJ9, BK225, HB⟩ := hcut
         cases kq with
         | zero => exact absurd HA.out (by simp [spec_l07Ok.j2])
         | succ kj9 =>
          have H := HA.out
          clear HA
          simp only [spec_l07Ok.j2] at H
          by_cases c32 : x65_9 = true
          ·subst c32
           rewrite [if_pos rfl] at H
           obtain rfl := Option.some.inj H
           go_wp2
           go_ret
           exact ⟨sq, sb⟩
          replace c32 := Bool.eq_false_iff.mpr c32
          subst c32
          rewrite [if_neg (show ¬ (false = true) by decide)] at H
          have H' := Aside0.mk H
          clear H
          go_wp2
          go_roundg kj9
          case measure => have := HJ1.out; have := HK2.out; have := HJ9.out; omega
          case rel => exact ⟨(wrap64 (x3_2 + 1)), sr, H', ⟨by have := HJ1.out; have := HK2.out; have := HJ9.out; omega⟩, ⟨sb⟩⟩
       rw [if_neg c9] at H
       exact absurd H (by simp)
      rw [if_neg c8] at H
      have c8b0 := decide_eq_false c8
      clear c8
      have H' := Aside0.mk H
      clear H
      have p222 : 0 ≤ (0 : Int) := (by omega)
      have q222 : 0 < (l0.length : Int) := of_decide_eq_true (by first | (with_reducible assumption) | assumption)
      obtain ⟨ad222, A222_1, c222_1, e222, hx222_0, hx222_1, hl222_1, hi222_1⟩ := at_T34 HR0.out 0 p222 q222
      cases e222
      have qi222 : (0 < l0.length) = True := eq_true (by omega)
      (try rw [sZ] at hx222_0)
      (try rw [sZ] at hx222_1)
      replace hx222_0 := sX HB hx222_0
      replace hx222_1 := sX HB hx222_1
      have HR222_1 := Aside0.mk hi222_1
      have HC222_1 := Aside0.mk hl222_1
      clear hi222_1 hl222_1
      replace p222 := eq_true p222
      replace q222 := eq_true q222
      go_wp2
      go_loopg [5] k2 (fun kq v5 w' => ∃ (x5_3 : Int), v5 = .int .i64 x5_3 ∧ Aside0 (spec_l07Ok.l1 kq l0 x5_3 = some r) ∧ Aside0 (kq ≤ k2) ∧ Aside0 (Below w.heap.size w w'))
      case atStart => exact ⟨(0), sr, H', ⟨Nat.le_refl _⟩, ⟨sb⟩⟩
      case round =>
       clear H'
       try clear c1
       try clear c2
       try clear p2
       try clear q2
       try clear hx2
       try clear qi2
       try clear c3
       try clear p6
       try clear c8
       try clear c8b0
       try clear c9
       try clear c14
       try clear c19
       try clear c19b0
       try clear c21
       try clear c22
       try clear p22
       try clear q22
       try clear hx22
       try clear qi22
       try clear c32
       try clear hx222_0
       try clear hx222_1
       try clear hx227_0
       try clear hx227_1
       try clear p2
       try clear p22
       try clear p222
       try clear p227
       try clear q2
       try clear q22
       try clear q222
       try clear q227
       obtain ⟨x5_3, rfl, HA, HK3, HB⟩ := hrel
       cases gk with
       | zero => exact absurd HA.out (by simp [spec_l07Ok.l1])
       | succ k3 =>
        have H := HA.out
        clear HA
        simp only [spec_l07Ok.l1] at H
        by_cases c33 : 0 < (l0.length : Int)
        ·rw [if_pos c33] at H
         have c33b0 := decide_eq_true c33
         have c33b1 : decide (0 < l0.length) = true := decide_eq_true (by omega)
         clear c33
         by_cases c34 : x5_3 < (((rd_T34 l0 0).f1).length : Int)
         ·rw [if_pos c34] at H
          have c34b0 := decide_eq_true c34
          clear c34
          by_cases c35 : 0 ≤ x5_3
          ·rw [if_pos c35] at H
           have c35b0 := decide_eq_true c35
           clear c35
           obtain ⟨t233, A36, H⟩ := sO H
           by_cases c37 : t233 = true
           ·subst c37
            rewrite [if_pos rfl] at H
            have H' := Aside0.mk H
            clear H
            have p230 : 0 ≤ (0 : Int) := (by omega)
            have q230 : 0 < (l0.length : Int) := of_decide_eq_true (by first | (with_reducible assumption) | assumption)
            obtain ⟨ad230, A230_1, c230_1, e230, hx230_0, hx230_1, hl230_1, hi230_1⟩ := at_T34 HR0.out 0 p230 q230
            obtain rfl : ad222 = ad230 := (by injection e230)
            have qi230 : (0 < l0.length) = True := eq_true (by omega)
            (try rw [sZ] at hx230_0)
            (try rw [sZ] at hx230_1)
            replace hx230_0 := sX HB hx230_0
            replace hx230_1 := sX HB hx230_1
            have HR230_1 := Aside0.mk hi230_1
            have HC230_1 := Aside0.mk hl230_1
            clear hi230_1 hl230_1
            replace p230 := eq_true p230
            replace q230 := eq_true q230
            have p231 : 0 ≤ (0 : Int) := (by omega)
            have q231 : 0 < (l0.length : Int) := of_decide_eq_true (by first | (with_reducible assumption) | assumption)
            obtain ⟨ad231, A231_1, c231_1, e231, hx231_0, hx231_1, hl231_1, hi231_1⟩ := at_T34 HR0.out 0 p231 q231
            obtain rfl : ad222 = ad231 := (by injection e231)
            have qi231 : (0 < l0.length) = True := eq_true (by omega)
            (try rw [sZ] at hx231_0)
            (try rw [sZ] at hx231_1)
            replace hx231_0 := sX HB hx231_0
            replace hx231_1 := sX HB hx231_1
            have HR231_1 := Aside0.mk hi231_1
            have HC231_1 := Aside0.mk hl231_1
            clear hi231_1 hl231_1
            replace p231 := eq_true p231
            replace q231 := eq_true q231
            have ea_ := Option.some.inj (hx230_1.symm.trans hx231_1)
            injection ea_ with ea_ en_ ec_
            subst ea_
            subst ec_
            clear en_
            have p232 : 0 ≤ (x5_3 : Int) := of_decide_eq_true (by first | (with_reducible assumption) | assumption)
            have q232 : x5_3 < (((rd_T34 l0 0).f1).length : Int) := of_decide_eq_true (by first | (with_reducible assumption) | assumption)
            obtain ⟨ad232, A232_4, c232_4, A232_5, c232_5, e232, hx232_0, hx232_1, hx232_2, hx232_3, hx232_4, hx232_5, hx232_6, hx232_7, hx232_8, hx232_9, hl232_4, hi232_4, hl232_5, hi232_5⟩ := at_T56 HR231_1.out x5_3 p232 q232
            cases e232
            replace hx232_0 := sX HB hx232_0
            replace hx232_1 := sX HB hx232_1
            replace hx232_2 := sX HB hx232_2
            replace hx232_3 := sX HB hx232_3
            replace hx232_4 := sX HB hx232_4
            replace hx232_5 := sX HB hx232_5
            replace hx232_6 := sX HB hx232_6
            replace hx232_7 := sX HB hx232_7
            replace hx232_8 := sX HB hx232_8
            replace hx232_9 := sX HB hx232_9
            have HR232_4 := Aside0.mk hi232_4
            have HC232_4 := Aside0.mk hl232_4
            clear hi232_4 hl232_4
            have HR232_5 := Aside0.mk hi232_5
            have HC232_5 := Aside0.mk hl232_5
            clear hi232_5 hl232_5
            replace p232 := eq_true p232
            replace q232 := eq_true q232
            go_wp2_with (first | ((with_reducible refine gate_callee (f := 145) rfl ?_); refine sC (some 82) Try.func145 #[.pointer (some ad222), .pointer (some (ad232.add ((x5_3).toNat * 10)))] (spec_l07Refs.calls k3 _ l0 _ [rd_T56 ((rd_T34 l0 0).f1) x5_3] true _ ?side1 ?side2 A36.out) ?_; (case side1 => exact sD (Kd.C_below HR0.out HB.out)); (case side2 => first | exact (C_one (by exact sD (Kd.C_below HR231_1.out HB.out)) z56 (x5_3 : Int) (of_eq_true p232) (by have h_ := q232; first | exact of_eq_true h_ | exact h_ | exact of_decide_eq_true (by assumption))) | (have h_ := (C_one (by exact sD (Kd.C_below HR231_1.out HB.out)) z56 (x5_3 : Int) (of_eq_true p232) (by have h_ := q232; first | exact of_eq_true h_ | exact h_ | exact of_decide_eq_true (by assumption))); first | exact h_ | simpa using h_)); rintro e w38 ⟨rfl, hb⟩; refine ⟨_, rfl, ?_⟩; have n0_ := sB HB hb; clear HB; have HB := n0_; clear n0_; (try clear hb); (try clear hb2); (try clear hk); (try clear hi)))
            go_roundg k3
            case measure => have := HJ1.out; have := HK2.out; have := HK3.out; omega
            case rel => exact ⟨(wrap64 (x5_3 + 1)), sr, H', ⟨by have := HJ1.out; have := HK2.out; have := HK3.out; omega⟩, ⟨sb⟩⟩
           replace c37 := Bool.eq_false_iff.mpr c37
           subst c37
           rewrite [if_neg (show ¬ (false = true) by decide)] at H
           obtain rfl := Option.some.inj H
           have p230 : 0 ≤ (0 : Int) := (by omega)
           have q230 : 0 < (l0.length : Int) := of_decide_eq_true (by first | (with_reducible assumption) | assumption)
           obtain ⟨ad230, A230_1, c230_1, e230, hx230_0, hx230_1, hl230_1, hi230_1⟩ := at_T34 HR0.out 0 p230 q230
           obtain rfl : ad222 = ad230 := (by injection e230)
           have qi230 : (0 < l0.length) = True := eq_true (by omega)
           (try rw [sZ] at hx230_0)
           (try rw [sZ] at hx230_1)
           replace hx230_0 := sX HB hx230_0
           replace hx230_1 := sX HB hx230_1
           have HR230_1 := Aside0.mk hi230_1
           have HC230_1 := Aside0.mk hl230_1
           clear hi230_1 hl230_1
           replace p230 := eq_true p230
           replace q230 := eq_true q230
           have p231 : 0 ≤ (0 : Int) := (by omega)
           have q231 : 0 < (l0.length : Int) := of_decide_eq_true (by first | (with_reducible assumption) | assumption)
           obtain ⟨ad231, A231_1, c231_1, e231, hx231_0, hx231_1, hl231_1, hi231_1⟩ := at_T34 HR0.out 0 p231 q231
           obtain rfl : ad222 = ad231 := (by injection e231)
           have qi231 : (0 < l0.length) = True := eq_true (by omega)
           (try rw [sZ] at hx231_0)
           (try rw [sZ] at hx231_1)
           replace hx231_0 := sX HB hx231_0
           replace hx231_1 := sX HB hx231_1
           have HR231_1 := Aside0.mk hi231_1
           have HC231_1 := Aside0.mk hl231_1
           clear hi231_1 hl231_1
           replace p231 := eq_true p231
           replace q231 := eq_true q231
           have ea_ := Option.some.inj (hx230_1.symm.trans hx231_1)
           injection ea_ with ea_ en_ ec_
           subst ea_
           subst ec_
           clear en_
           have p232 : 0 ≤ (x5_3 : Int) := of_decide_eq_true (by first | (with_reducible assumption) | assumption)
           have q232 : x5_3 < (((rd_T34 l0 0).f1).length : Int) := of_decide_eq_true (by first | (with_reducible assumption) | assumption)
           obtain ⟨ad232, A232_4, c232_4, A232_5, c232_5, e232, hx232_0, hx232_1, hx232_2, hx232_3, hx232_4, hx232_5, hx232_6, hx232_7, hx232_8, hx232_9, hl232_4, hi232_4, hl232_5, hi232_5⟩ := at_T56 HR231_1.out x5_3 p232 q232
           cases e232
           replace hx232_0 := sX HB hx232_0
           replace hx232_1 := sX HB hx232_1
           replace hx232_2 := sX HB hx232_2
           replace hx232_3 := sX HB hx232_3
           replace hx232_4 := sX HB hx232_4
           replace hx232_5 := sX HB hx232_5
           replace hx232_6 := sX HB hx232_6
           replace hx232_7 := sX HB hx232_7
           replace hx232_8 := sX HB hx232_8
           replace hx232_9 := sX HB hx232_9
           have HR232_4 := Aside0.mk hi232_4
           have HC232_4 := Aside0.mk hl232_4
           clear hi232_4 hl232_4
           have HR232_5 := Aside0.mk hi232_5
           have HC232_5 := Aside0.mk hl232_5
           clear hi232_5 hl232_5
           replace p232 := eq_true p232
           replace q232 := eq_true q232
           go_wp2_with (first | ((with_reducible refine gate_callee (f := 145) rfl ?_); refine sC (some 82) Try.func145 #[.pointer (some ad222), .pointer (some (ad232.add ((x5_3).toNat * 10)))] (spec_l07Refs.calls k3 _ l0 _ [rd_T56 ((rd_T34 l0 0).f1) x5_3] false _ ?side1 ?side2 A36.out) ?_; (case side1 => exact sD (Kd.C_below HR0.out HB.out)); (case side2 => first | exact (C_one (by exact sD (Kd.C_below HR231_1.out HB.out)) z56 (x5_3 : Int) (of_eq_true p232) (by have h_ := q232; first | exact of_eq_true h_ | exact h_ | exact of_decide_eq_true (by assumption))) | (have h_ := (C_one (by exact sD (Kd.C_below HR231_1.out HB.out)) z56 (x5_3 : Int) (of_eq_true p232) (by have h_ := q232; first | exact of_eq_true h_ | exact h_ | exact of_decide_eq_true (by assumption))); first | exact h_ | simpa using h_)); rintro e w39 ⟨rfl, hb⟩; refine ⟨_, rfl, ?_⟩; have n0_ := sB HB hb; clear HB; have HB := n0_; clear n0_; (try clear hb); (try clear hb2); (try clear hk); (try clear hi)))
           go_ret
           exact ⟨sq, sb⟩
          rw [if_neg c35] at H
          exact absurd H (by simp)
         rw [if_neg c34] at H
         have c34b0 := decide_eq_false c34
         clear c34
         obtain rfl := Option.some.inj H
         have p230 : 0 ≤ (0 : Int) := (by omega)
         have q230 : 0 < (l0.length : Int) := of_decide_eq_true (by first | (with_reducible assumption) | assumption)
         obtain ⟨ad230, A230_1, c230_1, e230, hx230_0, hx230_1, hl230_1, hi230_1⟩ := at_T34 HR0.out 0 p230 q230
         obtain rfl : ad222 = ad230 := (by injection e230)
         have qi230 : (0 < l0.length) = True := eq_true (by omega)
         (try rw [sZ] at hx230_0)
         (try rw [sZ] at hx230_1)
         replace hx230_0 := sX HB hx230_0
         replace hx230_1 := sX HB hx230_1
         have HR230_1 := Aside0.mk hi230_1
         have HC230_1 := Aside0.mk hl230_1
         clear hi230_1 hl230_1
         replace p230 := eq_true p230
         replace q230 := eq_true q230
         go_wp2
         go_ret
         exact ⟨sq, sb⟩
        rw [if_neg c33] at H
        exact absurd H (by simp)
     rw [if_neg c7] at H
     exact absurd H (by simp)
end Go.Proofs.Ytnjkhdhaiicefaa.PFnExactGetField
