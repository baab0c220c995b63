/- Printed functions: spec_l22Same. -/
import Derived.Test.YtabbpnkbhapibaaYSgP0
import Derived.Test.YtabbpnkbhapibaaYSgPE
namespace Go.Proofs.Ytabbpnkbhapibaa.PFnExactSameGen
open Go.RowKit Go.Proofs.YtabbpnkbhapibaaG Go.Proofs.YtabbpnkbhapibaaW.PrintWords Go.Proofs.YtabbpnkbhapibaaW.PrintLast Go.Proofs.YtabbpnkbhapibaaW.PrintMore
attribute [local go_sem] max2_int min2_int max_two min_two max_three min_three max_four min_four   -- for this text's walks alone
set_option linter.unusedVariables false
set_option linter.unusedSimpArgs false
section
attribute [local go_sem high] eqA54
/-! ### spec_l22Same: function 74 -/
mutual
def spec_l22Same.j0 : Nat → List (S57) → List (S57) → Bool → Option (Bool)
 | 0, _, _, _ => none
 | k + 1, x0, x1, x60 => if x60 = true then (some false) else (spec_l22Same.l0 k x0 x1 0)
def spec_l22Same.l0 : Nat → List (S57) → List (S57) → Int → Option (Bool)
 | 0, _, _, _ => none
 | k + 1, x0, x1, x5 => if 0 < (x0.length : Int) then (if x5 < (((rd_T57 x0 0).f4).length : Int) then (if 0 ≤ x5 then (if 0 < (x1.length : Int) then (if x5 < (((rd_T57 x1 0).f4).length : Int) then ((spec_l22Same.f k [rd_T57 ((rd_T57 x0 0).f4) x5] [rd_T57 ((rd_T57 x1 0).f4) x5]).bind fun t150 => (if t150 = true then (spec_l22Same.l0 k x0 x1 (wrap64 (x5 + 1))) else (some false))) else (none)) else (none)) else (none)) else (some true)) else (none)
def spec_l22Same.f : Nat → List (S57) → List (S57) → Option (Bool)
 | 0, _, _ => none
 | k + 1, l0, l1 => if 0 < (l0.length : Int) then (if 0 < (l1.length : Int) then (if ((rd_T57 l0 0).f0) = ((rd_T57 l1 0).f0) then (if ((rd_T57 l0 0).f1) = ((rd_T57 l1 0).f1) then (if ((rd_T57 l0 0).f2).toList = ((rd_T57 l1 0).f2).toList then (if (!(((rd_T57 l0 0).f3.f0) == ((rd_T57 l1 0).f3.f0)) || (!(((rd_T57 l0 0).f3.f1) == ((rd_T57 l1 0).f3.f1)) || (!((((rd_T57 l0 0).f3.f2).toList) == (((rd_T57 l1 0).f3.f2).toList)) || (!(((rd_T57 l0 0).f3.f3) == ((rd_T57 l1 0).f3.f3)))))) = true then (spec_l22Same.j0 k l0 l1 true) else (spec_l22Same.j0 k l0 l1 ((((rd_T57 l0 0).f4).length : Int) != (((rd_T57 l1 0).f4).length : Int)))) else (spec_l22Same.j0 k l0 l1 true)) else (spec_l22Same.j0 k l0 l1 true)) else (spec_l22Same.j0 k l0 l1 true)) else (none)) else (none)
end
def spec_l22Same.T1 : Bool × List (List Nat × List Nat) := (true, [([], []), ([0], [0]), ([1], [1]), ([2], [2]), ([], []), ([4], [4]), ([5], [5]), ([6], [6]), ([3, 7], [3, 7]), ([8], [8]), ([9], [9]), ([10, 9], [9, 10]), ([11, 9], [9, 11]), ([12, 9], [9, 12]), ([9], [9]), ([14, 9], [9, 14]), ([15, 9], [9, 15]), ([16, 9], [9, 16]), ([13, 17, 9], [9, 13, 17]), ([9, 18], [9, 18]), ([19, 9], [19]), ([20], [20]), ([21, 20], [20, 21]), ([22, 20], [20, 22]), ([23, 20], [20, 23]), ([20], [20]), ([25, 20], [20, 25]), ([26, 20], [20, 26]), ([27, 20], [20, 27]), ([24, 28, 20], [20, 24, 28]), ([20, 29], [20, 29]), ([30, 20], [30]), ([31], [31]), ([32, 31], [31, 32]), ([33, 31], [31, 33]), ([34, 31], [31, 34]), ([31], [31]), ([36, 31], [31, 36]), ([37, 31], [31, 37]), ([38, 31], [31, 38]), ([35, 39, 31], [31, 35, 39]), ([31, 40], [31, 40]), ([41, 31], [41]), ([42], [42]), ([43, 42], [42, 43]), ([44, 42], [42, 44]), ([45, 42], [42, 45]), ([46, 42], [42, 46]), ([42], [42]), ([48, 42], [42, 48]), ([49, 42], [42, 49]), ([50, 42], [42, 50]), ([51, 42], [42, 51]), ([47, 52, 42], [42, 47, 52]), ([42, 53], [42, 53])])
def spec_l22Same.B1 : List Nat := [0, 1, 3, 7, 0, 16, 48, 112, 255, 511, 1023, 2047, 4095, 8191, 1023, 17407, 50175, 115711, 262143, 524287, 1048575, 2097151, 4194303, 8388607, 16777215, 2097151, 35651583, 102760447, 236978175, 536870911, 1073741823, 2147483647, 4294967295, 8589934591, 17179869183, 34359738367, 4294967295, 73014444031, 210453397503, 485331304447, 1099511627775, 2199023255551, 4398046511103, 8796093022207, 17592186044415, 35184372088831, 70368744177663, 140737488355327, 8796093022207, 290271069732863, 853221023154175, 1979120929996799, 4230920743682047, 9007199254740991, 18014398509481983]
theorem spec_l22Same.tab1 : rtab .any (opsOf Try.f74 1) = spec_l22Same.T1 := by kernel_rfl
theorem spec_l22Same.bits1 : waitsOk spec_l22Same.T1.2 spec_l22Same.B1 = true := by kernel_rfl
def spec_l22Same.T6 : Bool × List (List Nat × List Nat) := (true, [([], []), ([0], [0]), ([1], [1]), ([2], [2]), ([], []), ([3, 4], [3, 4]), ([], []), ([6], [6]), ([7], [7]), ([8], [8]), ([], []), ([9, 10], [9, 10]), ([5, 11], [5, 11]), ([12], [12])])
def spec_l22Same.B6 : List Nat := [0, 1, 3, 7, 0, 31, 0, 64, 192, 448, 0, 1984, 4095, 8191]
theorem spec_l22Same.tab6 : rtab .any (opsOf Try.f74 6) = spec_l22Same.T6 := by kernel_rfl
theorem spec_l22Same.bits6 : waitsOk spec_l22Same.T6.2 spec_l22Same.B6 = true := by kernel_rfl
set_option maxHeartbeats 8000000 in
set_option maxRecDepth 100000 in
theorem spec_l22Same.calls (k : Nat) : ∀ (A0 : Option Addr) (l0 : List (S57)) (A1 : Option Addr) (l1 : List (S57)) (r : Bool) (w : World) (hr0 : Kd.C k57 w A0 l0.length l0) (hr1 : Kd.C k57 w A1 l1.length l1) (h : spec_l22Same.f k l0 l1 = some r),
  Calls Try.prog 74 #[.pointer A0, .pointer A1] w fun e w' => e = .returned (.bool r) ∧ Below w.heap.size w w' := by
 induction k using Nat.strongRecOn with
 | _ k ih =>
 intro A0 l0 A1 l1 r w hr0 hr1 h
 cases k with
 | zero => exact absurd h (by simp [spec_l22Same.f])
 | succ k =>
 simp only [spec_l22Same.f] at h
 have hu54 := Try.underlying54
 have HR0 := Aside0.mk hr0
 have HC0 := Aside0.mk (Nat.le_refl l0.length)
 clear hr0
 have HR1 := Aside0.mk hr1
 have HC1 := Aside0.mk (Nat.le_refl l1.length)
 clear hr1
 have HB := Aside0.mk (Below.refl w.heap.size w)
 have H : (if 0 < (l0.length : Int) then (if 0 < (l1.length : Int) then (if ((rd_T57 l0 0).f0) = ((rd_T57 l1 0).f0) then (if ((rd_T57 l0 0).f1) = ((rd_T57 l1 0).f1) then (if ((rd_T57 l0 0).f2).toList = ((rd_T57 l1 0).f2).toList then (if (!(((rd_T57 l0 0).f3.f0) == ((rd_T57 l1 0).f3.f0)) || (!(((rd_T57 l0 0).f3.f1) == ((rd_T57 l1 0).f3.f1)) || (!((((rd_T57 l0 0).f3.f2).toList) == (((rd_T57 l1 0).f3.f2).toList)) || (!(((rd_T57 l0 0).f3.f3) == ((rd_T57 l1 0).f3.f3)))))) = true then (spec_l22Same.j0 k l0 l1 true) else (spec_l22Same.j0 k l0 l1 ((((rd_T57 l0 0).f4).length : Int) != (((rd_T57 l1 0).f4).length : Int)))) else (spec_l22Same.j0 k l0 l1 true)) else (spec_l22Same.j0 k l0 l1 true)) else (spec_l22Same.j0 k l0 l1 true)) else (none)) else (none)) = some r := h
 clear h
 have HC3 := Aside0.mk H
 clear H
 go_enter Try.func74, Try.ntmps74
 go_upto_region 1 with (fail)
 go_cut [60] (fun v60 wc => ∃ (kq : Nat) (x60_2 : Bool), v60 = .bool x60_2 ∧ Aside0 (spec_l22Same.j0 kq l0 l1 x60_2 = some r) ∧ Aside0 (kq ≤ k) ∧ Aside0 (Below w.heap.size w wc))
 case first =>
  have H := HC3.out
  clear HC3
  by_cases c4 : 0 < (l0.length : Int)
  ·rw [if_pos c4] at H
   have c4b0 := decide_eq_true c4
   have c4b1 : decide (0 < l0.length) = true := decide_eq_true (by omega)
   clear c4
   (first | rw [c4b0] | (simp only [i64_w, i32_w]; rw [c4b0]) | rw [c4b2] | skip)
   by_cases c5 : 0 < (l1.length : Int)
   ·rw [if_pos c5] at H
    have c5b0 := decide_eq_true c5
    have c5b1 : decide (0 < l1.length) = true := decide_eq_true (by omega)
    clear c5
    by_cases c6 : ((rd_T57 l0 0).f0) = ((rd_T57 l1 0).f0)
    ·rw [if_pos c6] at H
     have c6b0 : (((rd_T57 l0 0).f0) == ((rd_T57 l1 0).f0)) = true := beq_iff_eq.mpr c6
     have c6b1 : (((rd_T57 l0 0).f0) != ((rd_T57 l1 0).f0)) = false := bne_eq_false_iff_eq.mpr c6
     clear c6
     by_cases c7 : ((rd_T57 l0 0).f1) = ((rd_T57 l1 0).f1)
     ·rw [if_pos c7] at H
      have c7b0 : (((rd_T57 l0 0).f1) == ((rd_T57 l1 0).f1)) = true := beq_iff_eq.mpr c7
      have c7b1 : (((rd_T57 l0 0).f1) != ((rd_T57 l1 0).f1)) = false := bne_eq_false_iff_eq.mpr c7
      clear c7
      by_cases c8 : ((rd_T57 l0 0).f2).toList = ((rd_T57 l1 0).f2).toList
      ·rw [if_pos c8] at H
       have c8b0 : (((rd_T57 l0 0).f2).toList == ((rd_T57 l1 0).f2).toList) = true := beq_iff_eq.mpr c8
       have c8b1 : (((rd_T57 l0 0).f2).toList != ((rd_T57 l1 0).f2).toList) = false := bne_eq_false_iff_eq.mpr c8
       clear c8
       by_cases c9 : (!(((rd_T57 l0 0).f3.f0) == ((rd_T57 l1 0).f3.f0)) || (!(((rd_T57 l0 0).f3.f1) == ((rd_T57 l1 0).f3.f1)) || (!((((rd_T57 l0 0).f3.f2).toList) == (((rd_T57 l1 0).f3.f2).toList)) || (!(((rd_T57 l0 0).f3.f3) == ((rd_T57 l1 0).f3.f3)))))) = true
       ·rw [if_pos c9] at H
        have c9b0 : (!(((rd_T57 l0 0).f3.f0) == ((rd_T57 l1 0).f3.f0)) || (!(((rd_T57 l0 0).f3.f1) == ((rd_T57 l1 0).f3.f1)) || (!((((rd_T57 l0 0).f3.f2).toList) == (((rd_T57 l1 0).f3.f2).toList)) || (!(((rd_T57 l0 0).f3.f3) == ((rd_T57 l1 0).f3.f3)))))) = true := c9
        clear c9
        have H' := Aside0.mk H
        clear H
        try go_wp2
        have n0_ := Aside0.mk (below_drew1 HB.out)
        clear HB
        have HB := n0_
        clear n0_
        have p135 : 0 ≤ (0 : Int) := (by omega)
        have q135 : 0 < (l0.length : Int) := of_decide_eq_true (by first | (with_reducible assumption) | assumption)
        obtain ⟨ad135, A135_7, c135_7, e135, hx135_0, hx135_1, hx135_2, hx135_3, hx135_4, hx135_5, hx135_6, hx135_7, hl135_7, hi135_7⟩ := at_T57 HR0.out 0 p135 q135
        have hw135_7 := hx135_7
        (try rw [sZ] at hw135_7)
        have hw135_6 := hx135_6
        (try rw [sZ] at hw135_6)
        have hw135_5 := hx135_5
        (try rw [sZ] at hw135_5)
        have hw135_4 := hx135_4
        (try rw [sZ] at hw135_4)
        have hw135_3 := hx135_3
        (try rw [sZ] at hw135_3)
        have hw135_2 := hx135_2
        (try rw [sZ] at hw135_2)
        have hw135_1 := hx135_1
        (try rw [sZ] at hw135_1)
        have hw135_0 := hx135_0
        (try rw [sZ] at hw135_0)
        cases e135
        have qi135 : (0 < l0.length) = True := eq_true (by omega)
        (try rw [sZ] at hx135_0)
        (try rw [sZ] at hx135_1)
        (try rw [sZ] at hx135_2)
        (try rw [sZ] at hx135_3)
        (try rw [sZ] at hx135_4)
        (try rw [sZ] at hx135_5)
        (try rw [sZ] at hx135_6)
        (try rw [sZ] at hx135_7)
        replace hx135_0 := sX HB hx135_0
        replace hx135_1 := sX HB hx135_1
        replace hx135_2 := sX HB hx135_2
        replace hx135_3 := sX HB hx135_3
        replace hx135_4 := sX HB hx135_4
        replace hx135_5 := sX HB hx135_5
        replace hx135_6 := sX HB hx135_6
        replace hx135_7 := sX HB hx135_7
        have HR135_7 := Aside0.mk hi135_7
        have HC135_7 := Aside0.mk hl135_7
        clear hi135_7 hl135_7
        replace p135 := eq_true p135
        replace q135 := eq_true q135
        have p136 : 0 ≤ (0 : Int) := (by omega)
        have q136 : 0 < (l1.length : Int) := of_decide_eq_true (by first | (with_reducible assumption) | assumption)
        obtain ⟨ad136, A136_7, c136_7, e136, hx136_0, hx136_1, hx136_2, hx136_3, hx136_4, hx136_5, hx136_6, hx136_7, hl136_7, hi136_7⟩ := at_T57 HR1.out 0 p136 q136
        have hw136_7 := hx136_7
        (try rw [sZ] at hw136_7)
        have hw136_6 := hx136_6
        (try rw [sZ] at hw136_6)
        have hw136_5 := hx136_5
        (try rw [sZ] at hw136_5)
        have hw136_4 := hx136_4
        (try rw [sZ] at hw136_4)
        have hw136_3 := hx136_3
        (try rw [sZ] at hw136_3)
        have hw136_2 := hx136_2
        (try rw [sZ] at hw136_2)
        have hw136_1 := hx136_1
        (try rw [sZ] at hw136_1)
        have hw136_0 := hx136_0
        (try rw [sZ] at hw136_0)
        cases e136
        have qi136 : (0 < l1.length) = True := eq_true (by omega)
        (try rw [sZ] at hx136_0)
        (try rw [sZ] at hx136_1)
        (try rw [sZ] at hx136_2)
        (try rw [sZ] at hx136_3)
        (try rw [sZ] at hx136_4)
        (try rw [sZ] at hx136_5)
        (try rw [sZ] at hx136_6)
        (try rw [sZ] at hx136_7)
        replace hx136_0 := sX HB hx136_0
        replace hx136_1 := sX HB hx136_1
        replace hx136_2 := sX HB hx136_2
        replace hx136_3 := sX HB hx136_3
        replace hx136_4 := sX HB hx136_4
        replace hx136_5 := sX HB hx136_5
        replace hx136_6 := sX HB hx136_6
        replace hx136_7 := sX HB hx136_7
        have HR136_7 := Aside0.mk hi136_7
        have HC136_7 := Aside0.mk hl136_7
        clear hi136_7 hl136_7
        replace p136 := eq_true p136
        replace q136 := eq_true q136
        have p137 : 0 ≤ (0 : Int) := (by omega)
        have q137 : 0 < (l0.length : Int) := of_decide_eq_true (by first | (with_reducible assumption) | assumption)
        obtain ⟨ad137, A137_7, c137_7, e137, hx137_0, hx137_1, hx137_2, hx137_3, hx137_4, hx137_5, hx137_6, hx137_7, hl137_7, hi137_7⟩ := at_T57 HR0.out 0 p137 q137
        have hw137_7 := hx137_7
        (try rw [sZ] at hw137_7)
        have hw137_6 := hx137_6
        (try rw [sZ] at hw137_6)
        have hw137_5 := hx137_5
        (try rw [sZ] at hw137_5)
        have hw137_4 := hx137_4
        (try rw [sZ] at hw137_4)
        have hw137_3 := hx137_3
        (try rw [sZ] at hw137_3)
        have hw137_2 := hx137_2
        (try rw [sZ] at hw137_2)
        have hw137_1 := hx137_1
        (try rw [sZ] at hw137_1)
        have hw137_0 := hx137_0
        (try rw [sZ] at hw137_0)
        obtain rfl : ad135 = ad137 := (by injection e137)
        have qi137 : (0 < l0.length) = True := eq_true (by omega)
        (try rw [sZ] at hx137_0)
        (try rw [sZ] at hx137_1)
        (try rw [sZ] at hx137_2)
        (try rw [sZ] at hx137_3)
        (try rw [sZ] at hx137_4)
        (try rw [sZ] at hx137_5)
        (try rw [sZ] at hx137_6)
        (try rw [sZ] at hx137_7)
        replace hx137_0 := sX HB hx137_0
        replace hx137_1 := sX HB hx137_1
        replace hx137_2 := sX HB hx137_2
        replace hx137_3 := sX HB hx137_3
        replace hx137_4 := sX HB hx137_4
        replace hx137_5 := sX HB hx137_5
        replace hx137_6 := sX HB hx137_6
        replace hx137_7 := sX HB hx137_7
        have HR137_7 := Aside0.mk hi137_7
        have HC137_7 := Aside0.mk hl137_7
        clear hi137_7 hl137_7
        replace p137 := eq_true p137
        replace q137 := eq_true q137
        have ea_ := Option.some.inj (hx135_7.symm.trans hx137_7)
        injection ea_ with ea_ en_ ec_
        subst ea_
        subst ec_
        clear en_
        have p138 : 0 ≤ (0 : Int) := (by omega)
        have q138 : 0 < (l1.length : Int) := of_decide_eq_true (by first | (with_reducible assumption) | assumption)
        obtain ⟨ad138, A138_7, c138_7, e138, hx138_0, hx138_1, hx138_2, hx138_3, hx138_4, hx138_5, hx138_6, hx138_7, hl138_7, hi138_7⟩ := at_T57 HR1.out 0 p138 q138
        have hw138_7 := hx138_7
        (try rw [sZ] at hw138_7)
        have hw138_6 := hx138_6
        (try rw [sZ] at hw138_6)
        have hw138_5 := hx138_5
        (try rw [sZ] at hw138_5)
        have hw138_4 := hx138_4
        (try rw [sZ] at hw138_4)
        have hw138_3 := hx138_3
        (try rw [sZ] at hw138_3)
        have hw138_2 := hx138_2
        (try rw [sZ] at hw138_2)
        have hw138_1 := hx138_1
        (try rw [sZ] at hw138_1)
        have hw138_0 := hx138_0
        (try rw [sZ] at hw138_0)
        obtain rfl : ad136 = ad138 := (by injection e138)
        have qi138 : (0 < l1.length) = True := eq_true (by omega)
        (try rw [sZ] at hx138_0)
        (try rw [sZ] at hx138_1)
        (try rw [sZ] at hx138_2)
        (try rw [sZ] at hx138_3)
        (try rw [sZ] at hx138_4)
        (try rw [sZ] at hx138_5)
        (try rw [sZ] at hx138_6)
        (try rw [sZ] at hx138_7)
        replace hx138_0 := sX HB hx138_0
        replace hx138_1 := sX HB hx138_1
        replace hx138_2 := sX HB hx138_2
        replace hx138_3 := sX HB hx138_3
        replace hx138_4 := sX HB hx138_4
        replace hx138_5 := sX HB hx138_5
        replace hx138_6 := sX HB hx138_6
        replace hx138_7 := sX HB hx138_7
        have HR138_7 := Aside0.mk hi138_7
        have HC138_7 := Aside0.mk hl138_7
        clear hi138_7 hl138_7
        replace p138 := eq_true p138
        replace q138 := eq_true q138
        have ea_ := Option.some.inj (hx136_7.symm.trans hx138_7)
        injection ea_ with ea_ en_ ec_
        subst ea_
        subst ec_
        clear en_
        have p139 : 0 ≤ (0 : Int) := (by omega)
        have q139 : 0 < (l0.length : Int) := of_decide_eq_true (by first | (with_reducible assumption) | assumption)
        obtain ⟨ad139, A139_7, c139_7, e139, hx139_0, hx139_1, hx139_2, hx139_3, hx139_4, hx139_5, hx139_6, hx139_7, hl139_7, hi139_7⟩ := at_T57 HR0.out 0 p139 q139
        have hw139_7 := hx139_7
        (try rw [sZ] at hw139_7)
        have hw139_6 := hx139_6
        (try rw [sZ] at hw139_6)
        have hw139_5 := hx139_5
        (try rw [sZ] at hw139_5)
        have hw139_4 := hx139_4
        (try rw [sZ] at hw139_4)
        have hw139_3 := hx139_3
        (try rw [sZ] at hw139_3)
        have hw139_2 := hx139_2
        (try rw [sZ] at hw139_2)
        have hw139_1 := hx139_1
        (try rw [sZ] at hw139_1)
        have hw139_0 := hx139_0
        (try rw [sZ] at hw139_0)
        obtain rfl : ad135 = ad139 := (by injection e139)
        have qi139 : (0 < l0.length) = True := eq_true (by omega)
        (try rw [sZ] at hx139_0)
        (try rw [sZ] at hx139_1)
        (try rw [sZ] at hx139_2)
        (try rw [sZ] at hx139_3)
        (try rw [sZ] at hx139_4)
        (try rw [sZ] at hx139_5)
        (try rw [sZ] at hx139_6)
        (try rw [sZ] at hx139_7)
        replace hx139_0 := sX HB hx139_0
        replace hx139_1 := sX HB hx139_1
        replace hx139_2 := sX HB hx139_2
        replace hx139_3 := sX HB hx139_3
        replace hx139_4 := sX HB hx139_4
        replace hx139_5 := sX HB hx139_5
        replace hx139_6 := sX HB hx139_6
        replace hx139_7 := sX HB hx139_7
        have HR139_7 := Aside0.mk hi139_7
        have HC139_7 := Aside0.mk hl139_7
        clear hi139_7 hl139_7
        replace p139 := eq_true p139
        replace q139 := eq_true q139
        have ea_ := Option.some.inj (hx135_7.symm.trans hx139_7)
        injection ea_ with ea_ en_ ec_
        subst ea_
        subst ec_
        clear en_
        have p140 : 0 ≤ (0 : Int) := (by omega)
        have q140 : 0 < (l1.length : Int) := of_decide_eq_true (by first | (with_reducible assumption) | assumption)
        obtain ⟨ad140, A140_7, c140_7, e140, hx140_0, hx140_1, hx140_2, hx140_3, hx140_4, hx140_5, hx140_6, hx140_7, hl140_7, hi140_7⟩ := at_T57 HR1.out 0 p140 q140
        have hw140_7 := hx140_7
        (try rw [sZ] at hw140_7)
        have hw140_6 := hx140_6
        (try rw [sZ] at hw140_6)
        have hw140_5 := hx140_5
        (try rw [sZ] at hw140_5)
        have hw140_4 := hx140_4
        (try rw [sZ] at hw140_4)
        have hw140_3 := hx140_3
        (try rw [sZ] at hw140_3)
        have hw140_2 := hx140_2
        (try rw [sZ] at hw140_2)
        have hw140_1 := hx140_1
        (try rw [sZ] at hw140_1)
        have hw140_0 := hx140_0
        (try rw [sZ] at hw140_0)
        obtain rfl : ad136 = ad140 := (by injection e140)
        have qi140 : (0 < l1.length) = True := eq_true (by omega)
        (try rw [sZ] at hx140_0)
        (try rw [sZ] at hx140_1)
        (try rw [sZ] at hx140_2)
        (try rw [sZ] at hx140_3)
        (try rw [sZ] at hx140_4)
        (try rw [sZ] at hx140_5)
        (try rw [sZ] at hx140_6)
        (try rw [sZ] at hx140_7)
        replace hx140_0 := sX HB hx140_0
        replace hx140_1 := sX HB hx140_1
        replace hx140_2 := sX HB hx140_2
        replace hx140_3 := sX HB hx140_3
        replace hx140_4 := sX HB hx140_4
        replace hx140_5 := sX HB hx140_5
        replace hx140_6 := sX HB hx140_6
        replace hx140_7 := sX HB hx140_7
        have HR140_7 := Aside0.mk hi140_7
        have HC140_7 := Aside0.mk hl140_7
        clear hi140_7 hl140_7
        replace p140 := eq_true p140
        replace q140 := eq_true q140
        have ea_ := Option.some.inj (hx136_7.symm.trans hx140_7)
        injection ea_ with ea_ en_ ec_
        subst ea_
        subst ec_
        clear en_
        have p141 : 0 ≤ (0 : Int) := (by omega)
        have q141 : 0 < (l0.length : Int) := of_decide_eq_true (by first | (with_reducible assumption) | assumption)
        obtain ⟨ad141, A141_7, c141_7, e141, hx141_0, hx141_1, hx141_2, hx141_3, hx141_4, hx141_5, hx141_6, hx141_7, hl141_7, hi141_7⟩ := at_T57 HR0.out 0 p141 q141
        have hw141_7 := hx141_7
        (try rw [sZ] at hw141_7)
        have hw141_6 := hx141_6
        (try rw [sZ] at hw141_6)
        have hw141_5 := hx141_5
        (try rw [sZ] at hw141_5)
        have hw141_4 := hx141_4
        (try rw [sZ] at hw141_4)
        have hw141_3 := hx141_3
        (try rw [sZ] at hw141_3)
        have hw141_2 := hx141_2
        (try rw [sZ] at hw141_2)
        have hw141_1 := hx141_1
        (try rw [sZ] at hw141_1)
        have hw141_0 := hx141_0
        (try rw [sZ] at hw141_0)
        obtain rfl : ad135 = ad141 := (by injection e141)
        have qi141 : (0 < l0.length) = True := eq_true (by omega)
        (try rw [sZ] at hx141_0)
        (try rw [sZ] at hx141_1)
        (try rw [sZ] at hx141_2)
        (try rw [sZ] at hx141_3)
        (try rw [sZ] at hx141_4)
        (try rw [sZ] at hx141_5)
        (try rw [sZ] at hx141_6)
        (try rw [sZ] at hx141_7)
        replace hx141_0 := sX HB hx141_0
        replace hx141_1 := sX HB hx141_1
        replace hx141_2 := sX HB hx141_2
        replace hx141_3 := sX HB hx141_3
        replace hx141_4 := sX HB hx141_4
        replace hx141_5 := sX HB hx141_5
        replace hx141_6 := sX HB hx141_6
        replace hx141_7 := sX HB hx141_7
        have HR141_7 := Aside0.mk hi141_7
        have HC141_7 := Aside0.mk hl141_7
        clear hi141_7 hl141_7
        replace p141 := eq_true p141
        replace q141 := eq_true q141
        have ea_ := Option.some.inj (hx135_7.symm.trans hx141_7)
        injection ea_ with ea_ en_ ec_
        subst ea_
        subst ec_
        clear en_
        have p142 : 0 ≤ (0 : Int) := (by omega)
        have q142 : 0 < (l1.length : Int) := of_decide_eq_true (by first | (with_reducible assumption) | assumption)
        obtain ⟨ad142, A142_7, c142_7, e142, hx142_0, hx142_1, hx142_2, hx142_3, hx142_4, hx142_5, hx142_6, hx142_7, hl142_7, hi142_7⟩ := at_T57 HR1.out 0 p142 q142
        have hw142_7 := hx142_7
        (try rw [sZ] at hw142_7)
        have hw142_6 := hx142_6
        (try rw [sZ] at hw142_6)
        have hw142_5 := hx142_5
        (try rw [sZ] at hw142_5)
        have hw142_4 := hx142_4
        (try rw [sZ] at hw142_4)
        have hw142_3 := hx142_3
        (try rw [sZ] at hw142_3)
        have hw142_2 := hx142_2
        (try rw [sZ] at hw142_2)
        have hw142_1 := hx142_1
        (try rw [sZ] at hw142_1)
        have hw142_0 := hx142_0
        (try rw [sZ] at hw142_0)
        obtain rfl : ad136 = ad142 := (by injection e142)
        have qi142 : (0 < l1.length) = True := eq_true (by omega)
        (try rw [sZ] at hx142_0)
        (try rw [sZ] at hx142_1)
        (try rw [sZ] at hx142_2)
        (try rw [sZ] at hx142_3)
        (try rw [sZ] at hx142_4)
        (try rw [sZ] at hx142_5)
        (try rw [sZ] at hx142_6)
        (try rw [sZ] at hx142_7)
        replace hx142_0 := sX HB hx142_0
        replace hx142_1 := sX HB hx142_1
        replace hx142_2 := sX HB hx142_2
        replace hx142_3 := sX HB hx142_3
        replace hx142_4 := sX HB hx142_4
        replace hx142_5 := sX HB hx142_5
        replace hx142_6 := sX HB hx142_6
        replace hx142_7 := sX HB hx142_7
        have HR142_7 := Aside0.mk hi142_7
        have HC142_7 := Aside0.mk hl142_7
        clear hi142_7 hl142_7
        replace p142 := eq_true p142
        replace q142 := eq_true q142
        have ea_ := Option.some.inj (hx136_7.symm.trans hx142_7)
        injection ea_ with ea_ en_ ec_
        subst ea_
        subst ec_
        clear en_
        refine start_ (n := 55) (S := fun w' => w'.cell? ad135 = some (.int .i64 ((rd_T57 l0 0).f0)) ∧ w'.cell? ⟨ad135.block, ad135.off + 1, none⟩ = some (.int .i64 ((rd_T57 l0 0).f1)) ∧ w'.cell? ⟨ad135.block, ad135.off + 2, none⟩ = some (.string ((rd_T57 l0 0).f2)) ∧ w'.cell? ⟨ad135.block, ad135.off + 3, none⟩ = some (.int .i64 ((rd_T57 l0 0).f3.f0)) ∧ w'.cell? ⟨ad135.block, ad135.off + 4, none⟩ = some (.int .i64 ((rd_T57 l0 0).f3.f1)) ∧ w'.cell? ⟨ad135.block, ad135.off + 5, none⟩ = some (.string ((rd_T57 l0 0).f3.f2)) ∧ w'.cell? ⟨ad135.block, ad135.off + 6, none⟩ = some (.int .i64 ((rd_T57 l0 0).f3.f3)) ∧ w'.cell? ⟨ad135.block, ad135.off + 7, none⟩ = some (.slice A135_7 ((rd_T57 l0 0).f4).length c135_7) ∧ w'.cell? ad136 = some (.int .i64 ((rd_T57 l1 0).f0)) ∧ w'.cell? ⟨ad136.block, ad136.off + 1, none⟩ = some (.int .i64 ((rd_T57 l1 0).f1)) ∧ w'.cell? ⟨ad136.block, ad136.off + 2, none⟩ = some (.string ((rd_T57 l1 0).f2)) ∧ w'.cell? ⟨ad136.block, ad136.off + 3, none⟩ = some (.int .i64 ((rd_T57 l1 0).f3.f0)) ∧ w'.cell? ⟨ad136.block, ad136.off + 4, none⟩ = some (.int .i64 ((rd_T57 l1 0).f3.f1)) ∧ w'.cell? ⟨ad136.block, ad136.off + 5, none⟩ = some (.string ((rd_T57 l1 0).f3.f2)) ∧ w'.cell? ⟨ad136.block, ad136.off + 6, none⟩ = some (.int .i64 ((rd_T57 l1 0).f3.f3)) ∧ w'.cell? ⟨ad136.block, ad136.off + 7, none⟩ = some (.slice A136_7 ((rd_T57 l1 0).f4).length c136_7) ∧ w'.cell? ad135 = some (.int .i64 ((rd_T57 l0 0).f0)) ∧ w'.cell? ⟨ad135.block, ad135.off + 1, none⟩ = some (.int .i64 ((rd_T57 l0 0).f1)) ∧ w'.cell? ⟨ad135.block, ad135.off + 2, none⟩ = some (.string ((rd_T57 l0 0).f2)) ∧ w'.cell? ⟨ad135.block, ad135.off + 3, none⟩ = some (.int .i64 ((rd_T57 l0 0).f3.f0)) ∧ w'.cell? ⟨ad135.block, ad135.off + 4, none⟩ = some (.int .i64 ((rd_T57 l0 0).f3.f1)) ∧ w'.cell? ⟨ad135.block, ad135.off + 5, none⟩ = some (.string ((rd_T57 l0 0).f3.f2)) ∧ w'.cell? ⟨ad135.block, ad135.off + 6, none⟩ = some (.int .i64 ((rd_T57 l0 0).f3.f3)) ∧ w'.cell? ⟨ad135.block, ad135.off + 7, none⟩ = some (.slice A135_7 ((rd_T57 l0 0).f4).length c135_7) ∧ w'.cell? ad136 = some (.int .i64 ((rd_T57 l1 0).f0)) ∧ w'.cell? ⟨ad136.block, ad136.off + 1, none⟩ = some (.int .i64 ((rd_T57 l1 0).f1)) ∧ w'.cell? ⟨ad136.block, ad136.off + 2, none⟩ = some (.string ((rd_T57 l1 0).f2)) ∧ w'.cell? ⟨ad136.block, ad136.off + 3, none⟩ = some (.int .i64 ((rd_T57 l1 0).f3.f0)) ∧ w'.cell? ⟨ad136.block, ad136.off + 4, none⟩ = some (.int .i64 ((rd_T57 l1 0).f3.f1)) ∧ w'.cell? ⟨ad136.block, ad136.off + 5, none⟩ = some (.string ((rd_T57 l1 0).f3.f2)) ∧ w'.cell? ⟨ad136.block, ad136.off + 6, none⟩ = some (.int .i64 ((rd_T57 l1 0).f3.f3)) ∧ w'.cell? ⟨ad136.block, ad136.off + 7, none⟩ = some (.slice A136_7 ((rd_T57 l1 0).f4).length c136_7) ∧ w'.cell? ad135 = some (.int .i64 ((rd_T57 l0 0).f0)) ∧ w'.cell? ⟨ad135.block, ad135.off + 1, none⟩ = some (.int .i64 ((rd_T57 l0 0).f1)) ∧ w'.cell? ⟨ad135.block, ad135.off + 2, none⟩ = some (.string ((rd_T57 l0 0).f2)) ∧ w'.cell? ⟨ad135.block, ad135.off + 3, none⟩ = some (.int .i64 ((rd_T57 l0 0).f3.f0)) ∧ w'.cell? ⟨ad135.block, ad135.off + 4, none⟩ = some (.int .i64 ((rd_T57 l0 0).f3.f1)) ∧ w'.cell? ⟨ad135.block, ad135.off + 5, none⟩ = some (.string ((rd_T57 l0 0).f3.f2)) ∧ w'.cell? ⟨ad135.block, ad135.off + 6, none⟩ = some (.int .i64 ((rd_T57 l0 0).f3.f3)) ∧ w'.cell? ⟨ad135.block, ad135.off + 7, none⟩ = some (.slice A135_7 ((rd_T57 l0 0).f4).length c135_7) ∧ w'.cell? ad136 = some (.int .i64 ((rd_T57 l1 0).f0)) ∧ w'.cell? ⟨ad136.block, ad136.off + 1, none⟩ = some (.int .i64 ((rd_T57 l1 0).f1)) ∧ w'.cell? ⟨ad136.block, ad136.off + 2, none⟩ = some (.string ((rd_T57 l1 0).f2)) ∧ w'.cell? ⟨ad136.block, ad136.off + 3, none⟩ = some (.int .i64 ((rd_T57 l1 0).f3.f0)) ∧ w'.cell? ⟨ad136.block, ad136.off + 4, none⟩ = some (.int .i64 ((rd_T57 l1 0).f3.f1)) ∧ w'.cell? ⟨ad136.block, ad136.off + 5, none⟩ = some (.string ((rd_T57 l1 0).f3.f2)) ∧ w'.cell? ⟨ad136.block, ad136.off + 6, none⟩ = some (.int .i64 ((rd_T57 l1 0).f3.f3)) ∧ w'.cell? ⟨ad136.block, ad136.off + 7, none⟩ = some (.slice A136_7 ((rd_T57 l1 0).f4).length c136_7) ∧ w'.cell? ad135 = some (.int .i64 ((rd_T57 l0 0).f0)) ∧ w'.cell? ⟨ad135.block, ad135.off + 1, none⟩ = some (.int .i64 ((rd_T57 l0 0).f1)) ∧ w'.cell? ⟨ad135.block, ad135.off + 2, none⟩ = some (.string ((rd_T57 l0 0).f2)) ∧ w'.cell? ⟨ad135.block, ad135.off + 3, none⟩ = some (.int .i64 ((rd_T57 l0 0).f3.f0)) ∧ w'.cell? ⟨ad135.block, ad135.off + 4, none⟩ = some (.int .i64 ((rd_T57 l0 0).f3.f1)) ∧ w'.cell? ⟨ad135.block, ad135.off + 5, none⟩ = some (.string ((rd_T57 l0 0).f3.f2)) ∧ w'.cell? ⟨ad135.block, ad135.off + 6, none⟩ = some (.int .i64 ((rd_T57 l0 0).f3.f3)) ∧ w'.cell? ⟨ad135.block, ad135.off + 7, none⟩ = some (.slice A135_7 ((rd_T57 l0 0).f4).length c135_7) ∧ w'.cell? ad136 = some (.int .i64 ((rd_T57 l1 0).f0)) ∧ w'.cell? ⟨ad136.block, ad136.off + 1, none⟩ = some (.int .i64 ((rd_T57 l1 0).f1)) ∧ w'.cell? ⟨ad136.block, ad136.off + 2, none⟩ = some (.string ((rd_T57 l1 0).f2)) ∧ w'.cell? ⟨ad136.block, ad136.off + 3, none⟩ = some (.int .i64 ((rd_T57 l1 0).f3.f0)) ∧ w'.cell? ⟨ad136.block, ad136.off + 4, none⟩ = some (.int .i64 ((rd_T57 l1 0).f3.f1)) ∧ w'.cell? ⟨ad136.block, ad136.off + 5, none⟩ = some (.string ((rd_T57 l1 0).f3.f2)) ∧ w'.cell? ⟨ad136.block, ad136.off + 6, none⟩ = some (.int .i64 ((rd_T57 l1 0).f3.f3)) ∧ w'.cell? ⟨ad136.block, ad136.off + 7, none⟩ = some (.slice A136_7 ((rd_T57 l1 0).f4).length c136_7)) (ds := []) #[false, false, false, false, false, false, false, false, false, false, false, false, false, false, false, false, false, false, false, false, false, false, false, false, false, false, false, false, false, false, false, false, false, false, false, false, false, false, false, false, false, false, false, false, false, false, false, false, false, false, false, false, false, false, false] (by kernel_rfl) rfl rfl ⟨((HB.out.cell (World.block_lt_of_cell? w _ hw135_0)).trans hw135_0), ((HB.out.cell (World.block_lt_of_cell? w _ hw135_1)).trans hw135_1), ((HB.out.cell (World.block_lt_of_cell? w _ hw135_2)).trans hw135_2), ((HB.out.cell (World.block_lt_of_cell? w _ hw135_3)).trans hw135_3), ((HB.out.cell (World.block_lt_of_cell? w _ hw135_4)).trans hw135_4), ((HB.out.cell (World.block_lt_of_cell? w _ hw135_5)).trans hw135_5), ((HB.out.cell (World.block_lt_of_cell? w _ hw135_6)).trans hw135_6), ((HB.out.cell (World.block_lt_of_cell? w _ hw135_7)).trans hw135_7), ((HB.out.cell (World.block_lt_of_cell? w _ hw136_0)).trans hw136_0), ((HB.out.cell (World.block_lt_of_cell? w _ hw136_1)).trans hw136_1), ((HB.out.cell (World.block_lt_of_cell? w _ hw136_2)).trans hw136_2), ((HB.out.cell (World.block_lt_of_cell? w _ hw136_3)).trans hw136_3), ((HB.out.cell (World.block_lt_of_cell? w _ hw136_4)).trans hw136_4), ((HB.out.cell (World.block_lt_of_cell? w _ hw136_5)).trans hw136_5), ((HB.out.cell (World.block_lt_of_cell? w _ hw136_6)).trans hw136_6), ((HB.out.cell (World.block_lt_of_cell? w _ hw136_7)).trans hw136_7), ((HB.out.cell (World.block_lt_of_cell? w _ hw137_0)).trans hw137_0), ((HB.out.cell (World.block_lt_of_cell? w _ hw137_1)).trans hw137_1), ((HB.out.cell (World.block_lt_of_cell? w _ hw137_2)).trans hw137_2), ((HB.out.cell (World.block_lt_of_cell? w _ hw137_3)).trans hw137_3), ((HB.out.cell (World.block_lt_of_cell? w _ hw137_4)).trans hw137_4), ((HB.out.cell (World.block_lt_of_cell? w _ hw137_5)).trans hw137_5), ((HB.out.cell (World.block_lt_of_cell? w _ hw137_6)).trans hw137_6), ((HB.out.cell (World.block_lt_of_cell? w _ hw137_7)).trans hw137_7), ((HB.out.cell (World.block_lt_of_cell? w _ hw138_0)).trans hw138_0), ((HB.out.cell (World.block_lt_of_cell? w _ hw138_1)).trans hw138_1), ((HB.out.cell (World.block_lt_of_cell? w _ hw138_2)).trans hw138_2), ((HB.out.cell (World.block_lt_of_cell? w _ hw138_3)).trans hw138_3), ((HB.out.cell (World.block_lt_of_cell? w _ hw138_4)).trans hw138_4), ((HB.out.cell (World.block_lt_of_cell? w _ hw138_5)).trans hw138_5), ((HB.out.cell (World.block_lt_of_cell? w _ hw138_6)).trans hw138_6), ((HB.out.cell (World.block_lt_of_cell? w _ hw138_7)).trans hw138_7), ((HB.out.cell (World.block_lt_of_cell? w _ hw139_0)).trans hw139_0), ((HB.out.cell (World.block_lt_of_cell? w _ hw139_1)).trans hw139_1), ((HB.out.cell (World.block_lt_of_cell? w _ hw139_2)).trans hw139_2), ((HB.out.cell (World.block_lt_of_cell? w _ hw139_3)).trans hw139_3), ((HB.out.cell (World.block_lt_of_cell? w _ hw139_4)).trans hw139_4), ((HB.out.cell (World.block_lt_of_cell? w _ hw139_5)).trans hw139_5), ((HB.out.cell (World.block_lt_of_cell? w _ hw139_6)).trans hw139_6), ((HB.out.cell (World.block_lt_of_cell? w _ hw139_7)).trans hw139_7), ((HB.out.cell (World.block_lt_of_cell? w _ hw140_0)).trans hw140_0), ((HB.out.cell (World.block_lt_of_cell? w _ hw140_1)).trans hw140_1), ((HB.out.cell (World.block_lt_of_cell? w _ hw140_2)).trans hw140_2), ((HB.out.cell (World.block_lt_of_cell? w _ hw140_3)).trans hw140_3), ((HB.out.cell (World.block_lt_of_cell? w _ hw140_4)).trans hw140_4), ((HB.out.cell (World.block_lt_of_cell? w _ hw140_5)).trans hw140_5), ((HB.out.cell (World.block_lt_of_cell? w _ hw140_6)).trans hw140_6), ((HB.out.cell (World.block_lt_of_cell? w _ hw140_7)).trans hw140_7), ((HB.out.cell (World.block_lt_of_cell? w _ hw141_0)).trans hw141_0), ((HB.out.cell (World.block_lt_of_cell? w _ hw141_1)).trans hw141_1), ((HB.out.cell (World.block_lt_of_cell? w _ hw141_2)).trans hw141_2), ((HB.out.cell (World.block_lt_of_cell? w _ hw141_3)).trans hw141_3), ((HB.out.cell (World.block_lt_of_cell? w _ hw141_4)).trans hw141_4), ((HB.out.cell (World.block_lt_of_cell? w _ hw141_5)).trans hw141_5), ((HB.out.cell (World.block_lt_of_cell? w _ hw141_6)).trans hw141_6), ((HB.out.cell (World.block_lt_of_cell? w _ hw141_7)).trans hw141_7), ((HB.out.cell (World.block_lt_of_cell? w _ hw142_0)).trans hw142_0), ((HB.out.cell (World.block_lt_of_cell? w _ hw142_1)).trans hw142_1), ((HB.out.cell (World.block_lt_of_cell? w _ hw142_2)).trans hw142_2), ((HB.out.cell (World.block_lt_of_cell? w _ hw142_3)).trans hw142_3), ((HB.out.cell (World.block_lt_of_cell? w _ hw142_4)).trans hw142_4), ((HB.out.cell (World.block_lt_of_cell? w _ hw142_5)).trans hw142_5), ((HB.out.cell (World.block_lt_of_cell? w _ hw142_6)).trans hw142_6), ((HB.out.cell (World.block_lt_of_cell? w _ hw142_7)).trans hw142_7)⟩ (fun hHeld => ?_); refine with_tabW spec_l22Same.tab1 spec_l22Same.bits1 (fun HT_ HW_ => ?_)
        generalize w.drew = w10 at HB HR135_7 HR136_7 HR137_7 HR138_7 HR139_7 HR140_7 HR141_7 HR142_7 hx135_0 hx135_1 hx135_2 hx135_3 hx135_4 hx135_5 hx135_6 hx135_7 hx136_0 hx136_1 hx136_2 hx136_3 hx136_4 hx136_5 hx136_6 hx136_7 hx137_0 hx137_1 hx137_2 hx137_3 hx137_4 hx137_5 hx137_6 hx137_7 hx138_0 hx138_1 hx138_2 hx138_3 hx138_4 hx138_5 hx138_6 hx138_7 hx139_0 hx139_1 hx139_2 hx139_3 hx139_4 hx139_5 hx139_6 hx139_7 hx140_0 hx140_1 hx140_2 hx140_3 hx140_4 hx140_5 hx140_6 hx140_7 hx141_0 hx141_1 hx141_2 hx141_3 hx141_4 hx141_5 hx141_6 hx141_7 hx142_0 hx142_1 hx142_2 hx142_3 hx142_4 hx142_5 hx142_6 hx142_7 hHeld ⊢
        refine pure_ (i := 0) (N := some 6) (v := ?_) (a' := ?_) (bN 55 1) rfl rfl (any_of HT_.out (by kernel_rfl)) (fun _ _ _ h => h) (Or.inl ⟨by rfl, ?_⟩) ?_ ?_
        rotate_left
        ·intro w'
         go_simp
         with_reducible rfl
        rotate_left
        ·simp only [Act.put, List.setIfInBounds_toArray, List.set_cons_zero, List.set_cons_succ, i64_w, i32_w]
         rfl
        refine pure_ (i := 1) (N := some 7) (v := ?_) (a' := ?_) (bN 55 3) rfl rfl (any_of HT_.out (by kernel_rfl)) (fun _ _ _ h => h) (Or.inl ⟨by rfl, ?_⟩) ?_ ?_
        rotate_left
        ·intro w'
         go_simp
         with_reducible rfl
        rotate_left
        ·simp only [Act.put, List.setIfInBounds_toArray, List.set_cons_zero, List.set_cons_succ, i64_w, i32_w]
         rfl
        refine pure_ (i := 2) (N := some 8) (v := ?_) (a' := ?_) (bN 55 7) rfl rfl (any_of HT_.out (by kernel_rfl)) (fun _ _ _ h => h) (Or.inl ⟨by rfl, ?_⟩) ?_ ?_
        rotate_left
        ·intro w'
         go_simp
         with_reducible rfl
        rotate_left
        ·simp only [Act.put, List.setIfInBounds_toArray, List.set_cons_zero, List.set_cons_succ, i64_w, i32_w]
         rfl
        refine pure_ (i := 4) (N := some 10) (v := ?_) (a' := ?_) (bN 55 23) rfl rfl (any_of HT_.out (by kernel_rfl)) (fun _ _ _ h => h) (Or.inl ⟨by rfl, ?_⟩) ?_ ?_
        rotate_left
        ·intro w'
         go_simp
         with_reducible rfl
        rotate_left
        ·simp only [Act.put, List.setIfInBounds_toArray, List.set_cons_zero, List.set_cons_succ, i64_w, i32_w]
         rfl
        refine pure_ (i := 5) (N := some 11) (v := ?_) (a' := ?_) (bN 55 55) rfl rfl (any_of HT_.out (by kernel_rfl)) (fun _ _ _ h => h) (Or.inl ⟨by rfl, ?_⟩) ?_ ?_
        rotate_left
        ·intro w'
         go_simp
         with_reducible rfl
        rotate_left
        ·simp only [Act.put, List.setIfInBounds_toArray, List.set_cons_zero, List.set_cons_succ, i64_w, i32_w]
         rfl
        refine pure_ (i := 6) (N := some 12) (v := ?_) (a' := ?_) (bN 55 119) rfl rfl (any_of HT_.out (by kernel_rfl)) (fun _ _ _ h => h) (Or.inl ⟨by rfl, ?_⟩) ?_ ?_
        rotate_left
        ·intro w'
         go_simp
         with_reducible rfl
        rotate_left
        ·simp only [Act.put, List.setIfInBounds_toArray, List.set_cons_zero, List.set_cons_succ, i64_w, i32_w]
         rfl
        refine take_ (i := 3) (N := some 9) (v := ?_) (a' := ?_) (bN 55 127) rfl rfl (take_ofW HT_.out HW_.out (by kernel_rfl)) (fun _ _ _ h => h) (Or.inl ⟨by rfl, ?_⟩) hHeld ?_ ?_
        rotate_left
        ·rintro w' ⟨s0, s1, s2, s3, s4, s5, s6, s7, s8, s9, s10, s11, s12, s13, s14, s15, s16, s17, s18, s19, s20, s21, s22, s23, s24, s25, s26, s27, s28, s29, s30, s31, s32, s33, s34, s35, s36, s37, s38, s39, s40, s41, s42, s43, s44, s45, s46, s47, s48, s49, s50, s51, s52, s53, s54, s55, s56, s57, s58, s59, s60, s61, s62, s63⟩
         go_simp
         with_reducible rfl
        rotate_left
        ·simp only [Act.put, List.setIfInBounds_toArray, List.set_cons_zero, List.set_cons_succ, i64_w, i32_w]
         rfl
        refine take_ (i := 7) (N := some 13) (v := ?_) (a' := ?_) (bN 55 255) rfl rfl (take_ofW HT_.out HW_.out (by kernel_rfl)) (fun _ _ _ h => h) (Or.inl ⟨by rfl, ?_⟩) hHeld ?_ ?_
        rotate_left
        ·rintro w' ⟨s0, s1, s2, s3, s4, s5, s6, s7, s8, s9, s10, s11, s12, s13, s14, s15, s16, s17, s18, s19, s20, s21, s22, s23, s24, s25, s26, s27, s28, s29, s30, s31, s32, s33, s34, s35, s36, s37, s38, s39, s40, s41, s42, s43, s44, s45, s46, s47, s48, s49, s50, s51, s52, s53, s54, s55, s56, s57, s58, s59, s60, s61, s62, s63⟩
         go_simp
         with_reducible rfl
        rotate_left
        ·simp only [Act.put, List.setIfInBounds_toArray, List.set_cons_zero, List.set_cons_succ, i64_w, i32_w]
         rfl
        refine pure_ (i := 8) (N := some 14) (v := ?_) (a' := ?_) (bN 55 511) rfl rfl (any_of HT_.out (by kernel_rfl)) (fun _ _ _ h => h) (Or.inl ⟨by rfl, ?_⟩) ?_ ?_
        rotate_left
        ·intro w'
         go_simp
         with_reducible rfl
        rotate_left
        ·simp only [Act.put, List.setIfInBounds_toArray, List.set_cons_zero, List.set_cons_succ, i64_w, i32_w]
         rfl
        refine pure_ (i := 9) (N := some 15) (v := ?_) (a' := ?_) (bN 55 1023) rfl rfl (any_of HT_.out (by kernel_rfl)) (fun _ _ _ h => h) (Or.inl ⟨by rfl, ?_⟩) ?_ ?_
        rotate_left
        ·intro w'
         go_simp
         with_reducible rfl
        rotate_left
        ·simp only [Act.put, List.setIfInBounds_toArray, List.set_cons_zero, List.set_cons_succ, i64_w, i32_w]
         rfl
        refine pure_ (i := 10) (N := some 16) (v := ?_) (a' := ?_) (bN 55 2047) rfl rfl (any_of HT_.out (by kernel_rfl)) (fun _ _ _ h => h) (Or.inl ⟨by rfl, ?_⟩) ?_ ?_
        rotate_left
        ·intro w'
         go_simp
         with_reducible rfl
        rotate_left
        ·simp only [Act.put, List.setIfInBounds_toArray, List.set_cons_zero, List.set_cons_succ, i64_w, i32_w]
         rfl
        refine pure_ (i := 11) (N := some 17) (v := ?_) (a' := ?_) (bN 55 4095) rfl rfl (any_of HT_.out (by kernel_rfl)) (fun _ _ _ h => h) (Or.inl ⟨by rfl, ?_⟩) ?_ ?_
        rotate_left
        ·intro w'
         go_simp
         with_reducible rfl
        rotate_left
        ·simp only [Act.put, List.setIfInBounds_toArray, List.set_cons_zero, List.set_cons_succ, i64_w, i32_w]
         rfl
        refine pure_ (i := 12) (N := some 18) (v := ?_) (a' := ?_) (bN 55 8191) rfl rfl (any_of HT_.out (by kernel_rfl)) (fun _ _ _ h => h) (Or.inl ⟨by rfl, ?_⟩) ?_ ?_
        rotate_left
        ·intro w'
         go_simp
         with_reducible rfl
        rotate_left
        ·simp only [Act.put, List.setIfInBounds_toArray, List.set_cons_zero, List.set_cons_succ, i64_w, i32_w]
         rfl
        refine pure_ (i := 14) (N := some 20) (v := ?_) (a' := ?_) (bN 55 24575) rfl rfl (any_of HT_.out (by kernel_rfl)) (fun _ _ _ h => h) (Or.inl ⟨by rfl, ?_⟩) ?_ ?_
        rotate_left
        ·intro w'
         go_simp
         with_reducible rfl
        rotate_left
        ·simp only [Act.put, List.setIfInBounds_toArray, List.set_cons_zero, List.set_cons_succ, i64_w, i32_w]
         rfl
        refine pure_ (i := 15) (N := some 21) (v := ?_) (a' := ?_) (bN 55 57343) rfl rfl (any_of HT_.out (by kernel_rfl)) (fun _ _ _ h => h) (Or.inl ⟨by rfl, ?_⟩) ?_ ?_
        rotate_left
        ·intro w'
         go_simp
         with_reducible rfl
        rotate_left
        ·simp only [Act.put, List.setIfInBounds_toArray, List.set_cons_zero, List.set_cons_succ, i64_w, i32_w]
         rfl
        refine pure_ (i := 16) (N := some 22) (v := ?_) (a' := ?_) (bN 55 122879) rfl rfl (any_of HT_.out (by kernel_rfl)) (fun _ _ _ h => h) (Or.inl ⟨by rfl, ?_⟩) ?_ ?_
        rotate_left
        ·intro w'
         go_simp
         with_reducible rfl
        rotate_left
        ·simp only [Act.put, List.setIfInBounds_toArray, List.set_cons_zero, List.set_cons_succ, i64_w, i32_w]
         rfl
        refine take_ (i := 13) (N := some 19) (v := ?_) (a' := ?_) (bN 55 131071) rfl rfl (take_ofW HT_.out HW_.out (by kernel_rfl)) (fun _ _ _ h => h) (Or.inl ⟨by rfl, ?_⟩) hHeld ?_ ?_
        rotate_left
        ·rintro w' ⟨s0, s1, s2, s3, s4, s5, s6, s7, s8, s9, s10, s11, s12, s13, s14, s15, s16, s17, s18, s19, s20, s21, s22, s23, s24, s25, s26, s27, s28, s29, s30, s31, s32, s33, s34, s35, s36, s37, s38, s39, s40, s41, s42, s43, s44, s45, s46, s47, s48, s49, s50, s51, s52, s53, s54, s55, s56, s57, s58, s59, s60, s61, s62, s63⟩
         go_simp
         with_reducible rfl
        rotate_left
        ·simp only [Act.put, List.setIfInBounds_toArray, List.set_cons_zero, List.set_cons_succ, i64_w, i32_w]
         rfl
        refine take_ (i := 17) (N := some 23) (v := ?_) (a' := ?_) (bN 55 262143) rfl rfl (take_ofW HT_.out HW_.out (by kernel_rfl)) (fun _ _ _ h => h) (Or.inl ⟨by rfl, ?_⟩) hHeld ?_ ?_
        rotate_left
        ·rintro w' ⟨s0, s1, s2, s3, s4, s5, s6, s7, s8, s9, s10, s11, s12, s13, s14, s15, s16, s17, s18, s19, s20, s21, s22, s23, s24, s25, s26, s27, s28, s29, s30, s31, s32, s33, s34, s35, s36, s37, s38, s39, s40, s41, s42, s43, s44, s45, s46, s47, s48, s49, s50, s51, s52, s53, s54, s55, s56, s57, s58, s59, s60, s61, s62, s63⟩
         go_simp
         with_reducible rfl
        rotate_left
        ·simp only [Act.put, List.setIfInBounds_toArray, List.set_cons_zero, List.set_cons_succ, i64_w, i32_w]
         rfl
        refine pure_ (i := 18) (N := some 24) (v := ?_) (a' := ?_) (bN 55 524287) rfl rfl (any_of HT_.out (by kernel_rfl)) (fun _ _ _ h => h) (Or.inl ⟨by rfl, ?_⟩) ?_ ?_
        rotate_left
        ·intro w'
         go_simp
         with_reducible rfl
        rotate_left
        ·simp only [Act.put, List.setIfInBounds_toArray, List.set_cons_zero, List.set_cons_succ, i64_w, i32_w]
         rfl
        refine pure_ (i := 19) (N := some 25) (v := ?_) (a' := ?_) (bN 55 1048575) rfl rfl (any_of HT_.out (by kernel_rfl)) (fun _ _ _ h => h) (Or.inl ⟨by rfl, ?_⟩) ?_ ?_
        rotate_left
        ·intro w'
         go_simp
         with_reducible rfl
        rotate_left
        ·simp only [Act.put, List.setIfInBounds_toArray, List.set_cons_zero, List.set_cons_succ, i64_w, i32_w]
         rfl
        refine pure_ (i := 20) (N := some 26) (v := ?_) (a' := ?_) (bN 55 2097151) rfl rfl (any_of HT_.out (by kernel_rfl)) (fun _ _ _ h => h) (Or.inl ⟨by rfl, ?_⟩) ?_ ?_
        rotate_left
        ·intro w'
         go_simp
         with_reducible rfl
        rotate_left
        ·simp only [Act.put, List.setIfInBounds_toArray, List.set_cons_zero, List.set_cons_succ, i64_w, i32_w]
         rfl
        refine pure_ (i := 21) (N := some 27) (v := ?_) (a' := ?_) (bN 55 4194303) rfl rfl (any_of HT_.out (by kernel_rfl)) (fun _ _ _ h => h) (Or.inl ⟨by rfl, ?_⟩) ?_ ?_
        rotate_left
        ·intro w'
         go_simp
         with_reducible rfl
        rotate_left
        ·simp only [Act.put, List.setIfInBounds_toArray, List.set_cons_zero, List.set_cons_succ, i64_w, i32_w]
         rfl
        refine pure_ (i := 22) (N := some 28) (v := ?_) (a' := ?_) (bN 55 8388607) rfl rfl (any_of HT_.out (by kernel_rfl)) (fun _ _ _ h => h) (Or.inl ⟨by rfl, ?_⟩) ?_ ?_
        rotate_left
        ·intro w'
         go_simp
         with_reducible rfl
        rotate_left
        ·simp only [Act.put, List.setIfInBounds_toArray, List.set_cons_zero, List.set_cons_succ, i64_w, i32_w]
         rfl
        refine pure_ (i := 23) (N := some 29) (v := ?_) (a' := ?_) (bN 55 16777215) rfl rfl (any_of HT_.out (by kernel_rfl)) (fun _ _ _ h => h) (Or.inl ⟨by rfl, ?_⟩) ?_ ?_
        rotate_left
        ·intro w'
         go_simp
         with_reducible rfl
        rotate_left
        ·simp only [Act.put, List.setIfInBounds_toArray, List.set_cons_zero, List.set_cons_succ, i64_w, i32_w]
         rfl
        refine pure_ (i := 25) (N := some 31) (v := ?_) (a' := ?_) (bN 55 50331647) rfl rfl (any_of HT_.out (by kernel_rfl)) (fun _ _ _ h => h) (Or.inl ⟨by rfl, ?_⟩) ?_ ?_
        rotate_left
        ·intro w'
         go_simp
         with_reducible rfl
        rotate_left
        ·simp only [Act.put, List.setIfInBounds_toArray, List.set_cons_zero, List.set_cons_succ, i64_w, i32_w]
         rfl
        refine pure_ (i := 26) (N := some 32) (v := ?_) (a' := ?_) (bN 55 117440511) rfl rfl (any_of HT_.out (by kernel_rfl)) (fun _ _ _ h => h) (Or.inl ⟨by rfl, ?_⟩) ?_ ?_
        rotate_left
        ·intro w'
         go_simp
         with_reducible rfl
        rotate_left
        ·simp only [Act.put, List.setIfInBounds_toArray, List.set_cons_zero, List.set_cons_succ, i64_w, i32_w]
         rfl
        refine pure_ (i := 27) (N := some 33) (v := ?_) (a' := ?_) (bN 55 251658239) rfl rfl (any_of HT_.out (by kernel_rfl)) (fun _ _ _ h => h) (Or.inl ⟨by rfl, ?_⟩) ?_ ?_
        rotate_left
        ·intro w'
         go_simp
         with_reducible rfl
        rotate_left
        ·simp only [Act.put, List.setIfInBounds_toArray, List.set_cons_zero, List.set_cons_succ, i64_w, i32_w]
         rfl
        refine take_ (i := 24) (N := some 30) (v := ?_) (a' := ?_) (bN 55 268435455) rfl rfl (take_ofW HT_.out HW_.out (by kernel_rfl)) (fun _ _ _ h => h) (Or.inl ⟨by rfl, ?_⟩) hHeld ?_ ?_
        rotate_left
        ·rintro w' ⟨s0, s1, s2, s3, s4, s5, s6, s7, s8, s9, s10, s11, s12, s13, s14, s15, s16, s17, s18, s19, s20, s21, s22, s23, s24, s25, s26, s27, s28, s29, s30, s31, s32, s33, s34, s35, s36, s37, s38, s39, s40, s41, s42, s43, s44, s45, s46, s47, s48, s49, s50, s51, s52, s53, s54, s55, s56, s57, s58, s59, s60, s61, s62, s63⟩
         go_simp
         with_reducible rfl
        rotate_left
        ·simp only [Act.put, List.setIfInBounds_toArray, List.set_cons_zero, List.set_cons_succ, i64_w, i32_w]
         rfl
        refine take_ (i := 28) (N := some 34) (v := ?_) (a' := ?_) (bN 55 536870911) rfl rfl (take_ofW HT_.out HW_.out (by kernel_rfl)) (fun _ _ _ h => h) (Or.inl ⟨by rfl, ?_⟩) hHeld ?_ ?_
        rotate_left
        ·rintro w' ⟨s0, s1, s2, s3, s4, s5, s6, s7, s8, s9, s10, s11, s12, s13, s14, s15, s16, s17, s18, s19, s20, s21, s22, s23, s24, s25, s26, s27, s28, s29, s30, s31, s32, s33, s34, s35, s36, s37, s38, s39, s40, s41, s42, s43, s44, s45, s46, s47, s48, s49, s50, s51, s52, s53, s54, s55, s56, s57, s58, s59, s60, s61, s62, s63⟩
         go_simp
         with_reducible rfl
        rotate_left
        ·simp only [Act.put, List.setIfInBounds_toArray, List.set_cons_zero, List.set_cons_succ, i64_w, i32_w]
         rfl
        refine pure_ (i := 29) (N := some 35) (v := ?_) (a' := ?_) (bN 55 1073741823) rfl rfl (any_of HT_.out (by kernel_rfl)) (fun _ _ _ h => h) (Or.inl ⟨by rfl, ?_⟩) ?_ ?_
        rotate_left
        ·intro w'
         go_simp
         with_reducible rfl
        rotate_left
        ·simp only [Act.put, List.setIfInBounds_toArray, List.set_cons_zero, List.set_cons_succ, i64_w, i32_w]
         rfl
        refine pure_ (i := 30) (N := some 36) (v := ?_) (a' := ?_) (bN 55 2147483647) rfl rfl (any_of HT_.out (by kernel_rfl)) (fun _ _ _ h => h) (Or.inl ⟨by rfl, ?_⟩) ?_ ?_
        rotate_left
        ·intro w'
         go_simp
         with_reducible rfl
        rotate_left
        ·simp only [Act.put, List.setIfInBounds_toArray, List.set_cons_zero, List.set_cons_succ, i64_w, i32_w]
         rfl
        refine pure_ (i := 31) (N := some 37) (v := ?_) (a' := ?_) (bN 55 4294967295) rfl rfl (any_of HT_.out (by kernel_rfl)) (fun _ _ _ h => h) (Or.inl ⟨by rfl, ?_⟩) ?_ ?_
        rotate_left
        ·intro w'
         go_simp
         with_reducible rfl
        rotate_left
        ·simp only [Act.put, List.setIfInBounds_toArray, List.set_cons_zero, List.set_cons_succ, i64_w, i32_w]
         rfl
        refine pure_ (i := 32) (N := some 38) (v := ?_) (a' := ?_) (bN 55 8589934591) rfl rfl (any_of HT_.out (by kernel_rfl)) (fun _ _ _ h => h) (Or.inl ⟨by rfl, ?_⟩) ?_ ?_
        rotate_left
        ·intro w'
         go_simp
         with_reducible rfl
        rotate_left
        ·simp only [Act.put, List.setIfInBounds_toArray, List.set_cons_zero, List.set_cons_succ, i64_w, i32_w]
         rfl
        refine pure_ (i := 33) (N := some 39) (v := ?_) (a' := ?_) (bN 55 17179869183) rfl rfl (any_of HT_.out (by kernel_rfl)) (fun _ _ _ h => h) (Or.inl ⟨by rfl, ?_⟩) ?_ ?_
        rotate_left
        ·intro w'
         go_simp
         with_reducible rfl
        rotate_left
        ·simp only [Act.put, List.setIfInBounds_toArray, List.set_cons_zero, List.set_cons_succ, i64_w, i32_w]
         rfl
        refine pure_ (i := 34) (N := some 40) (v := ?_) (a' := ?_) (bN 55 34359738367) rfl rfl (any_of HT_.out (by kernel_rfl)) (fun _ _ _ h => h) (Or.inl ⟨by rfl, ?_⟩) ?_ ?_
        rotate_left
        ·intro w'
         go_simp
         with_reducible rfl
        rotate_left
        ·simp only [Act.put, List.setIfInBounds_toArray, List.set_cons_zero, List.set_cons_succ, i64_w, i32_w]
         rfl
        refine pure_ (i := 36) (N := some 42) (v := ?_) (a' := ?_) (bN 55 103079215103) rfl rfl (any_of HT_.out (by kernel_rfl)) (fun _ _ _ h => h) (Or.inl ⟨by rfl, ?_⟩) ?_ ?_
        rotate_left
        ·intro w'
         go_simp
         with_reducible rfl
        rotate_left
        ·simp only [Act.put, List.setIfInBounds_toArray, List.set_cons_zero, List.set_cons_succ, i64_w, i32_w]
         rfl
        refine pure_ (i := 37) (N := some 43) (v := ?_) (a' := ?_) (bN 55 240518168575) rfl rfl (any_of HT_.out (by kernel_rfl)) (fun _ _ _ h => h) (Or.inl ⟨by rfl, ?_⟩) ?_ ?_
        rotate_left
        ·intro w'
         go_simp
         with_reducible rfl
        rotate_left
        ·simp only [Act.put, List.setIfInBounds_toArray, List.set_cons_zero, List.set_cons_succ, i64_w, i32_w]
         rfl
        refine pure_ (i := 38) (N := some 44) (v := ?_) (a' := ?_) (bN 55 515396075519) rfl rfl (any_of HT_.out (by kernel_rfl)) (fun _ _ _ h => h) (Or.inl ⟨by rfl, ?_⟩) ?_ ?_
        rotate_left
        ·intro w'
         go_simp
         with_reducible rfl
        rotate_left
        ·simp only [Act.put, List.setIfInBounds_toArray, List.set_cons_zero, List.set_cons_succ, i64_w, i32_w]
         rfl
        refine take_ (i := 35) (N := some 41) (v := ?_) (a' := ?_) (bN 55 549755813887) rfl rfl (take_ofW HT_.out HW_.out (by kernel_rfl)) (fun _ _ _ h => h) (Or.inl ⟨by rfl, ?_⟩) hHeld ?_ ?_
        rotate_left
        ·rintro w' ⟨s0, s1, s2, s3, s4, s5, s6, s7, s8, s9, s10, s11, s12, s13, s14, s15, s16, s17, s18, s19, s20, s21, s22, s23, s24, s25, s26, s27, s28, s29, s30, s31, s32, s33, s34, s35, s36, s37, s38, s39, s40, s41, s42, s43, s44, s45, s46, s47, s48, s49, s50, s51, s52, s53, s54, s55, s56, s57, s58, s59, s60, s61, s62, s63⟩
         go_simp
         with_reducible rfl
        rotate_left
        ·simp only [Act.put, List.setIfInBounds_toArray, List.set_cons_zero, List.set_cons_succ, i64_w, i32_w]
         rfl
        refine take_ (i := 39) (N := some 45) (v := ?_) (a' := ?_) (bN 55 1099511627775) rfl rfl (take_ofW HT_.out HW_.out (by kernel_rfl)) (fun _ _ _ h => h) (Or.inl ⟨by rfl, ?_⟩) hHeld ?_ ?_
        rotate_left
        ·rintro w' ⟨s0, s1, s2, s3, s4, s5, s6, s7, s8, s9, s10, s11, s12, s13, s14, s15, s16, s17, s18, s19, s20, s21, s22, s23, s24, s25, s26, s27, s28, s29, s30, s31, s32, s33, s34, s35, s36, s37, s38, s39, s40, s41, s42, s43, s44, s45, s46, s47, s48, s49, s50, s51, s52, s53, s54, s55, s56, s57, s58, s59, s60, s61, s62, s63⟩
         go_simp
         with_reducible rfl
        rotate_left
        ·simp only [Act.put, List.setIfInBounds_toArray, List.set_cons_zero, List.set_cons_succ, i64_w, i32_w]
         rfl
        refine pure_ (i := 40) (N := some 46) (v := ?_) (a' := ?_) (bN 55 2199023255551) rfl rfl (any_of HT_.out (by kernel_rfl)) (fun _ _ _ h => h) (Or.inl ⟨by rfl, ?_⟩) ?_ ?_
        rotate_left
        ·intro w'
         go_simp
         with_reducible rfl
        rotate_left
        ·simp only [Act.put, List.setIfInBounds_toArray, List.set_cons_zero, List.set_cons_succ, i64_w, i32_w]
         rfl
        refine pure_ (i := 41) (N := some 47) (v := ?_) (a' := ?_) (bN 55 4398046511103) rfl rfl (any_of HT_.out (by kernel_rfl)) (fun _ _ _ h => h) (Or.inl ⟨by rfl, ?_⟩) ?_ ?_
        rotate_left
        ·intro w'
         go_simp
         with_reducible rfl
        rotate_left
        ·simp only [Act.put, List.setIfInBounds_toArray, List.set_cons_zero, List.set_cons_succ, i64_w, i32_w]
         rfl
        refine pure_ (i := 42) (N := some 48) (v := ?_) (a' := ?_) (bN 55 8796093022207) rfl rfl (any_of HT_.out (by kernel_rfl)) (fun _ _ _ h => h) (Or.inl ⟨by rfl, ?_⟩) ?_ ?_
        rotate_left
        ·intro w'
         go_simp
         with_reducible rfl
        rotate_left
        ·simp only [Act.put, List.setIfInBounds_toArray, List.set_cons_zero, List.set_cons_succ, i64_w, i32_w]
         rfl
        refine pure_ (i := 43) (N := some 49) (v := undef) (a' := ?_) (bN 55 17592186044415) rfl rfl (any_of HT_.out (by kernel_rfl)) (fun _ _ _ h => h) (Or.inr ⟨by rfl, rfl⟩) ?_ ?_
        rotate_left
        ·simp only [Act.put, List.setIfInBounds_toArray, List.set_cons_zero, List.set_cons_succ, i64_w, i32_w]
         rfl
        refine pure_ (i := 44) (N := some 50) (v := undef) (a' := ?_) (bN 55 35184372088831) rfl rfl (any_of HT_.out (by kernel_rfl)) (fun _ _ _ h => h) (Or.inr ⟨by rfl, rfl⟩) ?_ ?_
        rotate_left
        ·simp only [Act.put, List.setIfInBounds_toArray, List.set_cons_zero, List.set_cons_succ, i64_w, i32_w]
         rfl
        refine pure_ (i := 45) (N := some 51) (v := undef) (a' := ?_) (bN 55 70368744177663) rfl rfl (any_of HT_.out (by kernel_rfl)) (fun _ _ _ h => h) (Or.inr ⟨by rfl, rfl⟩) ?_ ?_
        rotate_left
        ·simp only [Act.put, List.setIfInBounds_toArray, List.set_cons_zero, List.set_cons_succ, i64_w, i32_w]
         rfl
        refine pure_ (i := 46) (N := some 52) (v := undef) (a' := ?_) (bN 55 140737488355327) rfl rfl (any_of HT_.out (by kernel_rfl)) (fun _ _ _ h => h) (Or.inr ⟨by rfl, rfl⟩) ?_ ?_
        rotate_left
        ·simp only [Act.put, List.setIfInBounds_toArray, List.set_cons_zero, List.set_cons_succ, i64_w, i32_w]
         rfl
        refine pure_ (i := 47) (N := some 53) (v := undef) (a' := ?_) (bN 55 281474976710655) rfl rfl (any_of HT_.out (by kernel_rfl)) (fun _ _ _ h => h) (Or.inr ⟨by rfl, rfl⟩) ?_ ?_
        rotate_left
        ·simp only [Act.put, List.setIfInBounds_toArray, List.set_cons_zero, List.set_cons_succ, i64_w, i32_w]
         rfl
        refine pure_ (i := 48) (N := some 54) (v := undef) (a' := ?_) (bN 55 562949953421311) rfl rfl (any_of HT_.out (by kernel_rfl)) (fun _ _ _ h => h) (Or.inr ⟨by rfl, rfl⟩) ?_ ?_
        rotate_left
        ·simp only [Act.put, List.setIfInBounds_toArray, List.set_cons_zero, List.set_cons_succ, i64_w, i32_w]
         rfl
        refine pure_ (i := 49) (N := some 55) (v := undef) (a' := ?_) (bN 55 1125899906842623) rfl rfl (any_of HT_.out (by kernel_rfl)) (fun _ _ _ h => h) (Or.inr ⟨by rfl, rfl⟩) ?_ ?_
        rotate_left
        ·simp only [Act.put, List.setIfInBounds_toArray, List.set_cons_zero, List.set_cons_succ, i64_w, i32_w]
         rfl
        refine pure_ (i := 50) (N := some 56) (v := undef) (a' := ?_) (bN 55 2251799813685247) rfl rfl (any_of HT_.out (by kernel_rfl)) (fun _ _ _ h => h) (Or.inr ⟨by rfl, rfl⟩) ?_ ?_
        rotate_left
        ·simp only [Act.put, List.setIfInBounds_toArray, List.set_cons_zero, List.set_cons_succ, i64_w, i32_w]
         rfl
        refine pure_ (i := 51) (N := some 57) (v := undef) (a' := ?_) (bN 55 4503599627370495) rfl rfl (any_of HT_.out (by kernel_rfl)) (fun _ _ _ h => h) (Or.inr ⟨by rfl, rfl⟩) ?_ ?_
        rotate_left
        ·simp only [Act.put, List.setIfInBounds_toArray, List.set_cons_zero, List.set_cons_succ, i64_w, i32_w]
         rfl
        refine pure_ (i := 52) (N := some 58) (v := undef) (a' := ?_) (bN 55 9007199254740991) rfl rfl (any_of HT_.out (by kernel_rfl)) (fun _ _ _ h => h) (Or.inr ⟨by rfl, rfl⟩) ?_ ?_
        rotate_left
        ·simp only [Act.put, List.setIfInBounds_toArray, List.set_cons_zero, List.set_cons_succ, i64_w, i32_w]
         rfl
        refine pure_ (i := 53) (N := some 59) (v := undef) (a' := ?_) (bN 55 18014398509481983) rfl rfl (any_of HT_.out (by kernel_rfl)) (fun _ _ _ h => h) (Or.inr ⟨by rfl, rfl⟩) ?_ ?_
        rotate_left
        ·simp only [Act.put, List.setIfInBounds_toArray, List.set_cons_zero, List.set_cons_succ, i64_w, i32_w]
         rfl
        refine pure_ (i := 54) (N := some 60) (v := ?_) (a' := ?_) (bN 55 36028797018963967) rfl rfl (any_of HT_.out (by kernel_rfl)) (fun _ _ _ h => h) (Or.inl ⟨by rfl, ?_⟩) ?_ ?_
        rotate_left
        ·intro w'
         go_simp
         with_reducible rfl
        rotate_left
        ·simp only [Act.put, List.setIfInBounds_toArray, List.set_cons_zero, List.set_cons_succ, i64_w, i32_w]
         rfl
        refine done_ (done_of HT_.out (by kernel_rfl)) ?_
        try go_wp2
        go_meet
        case rel => exact ⟨_, (true), sr, H', ⟨by first | omega | exact Nat.le_refl _⟩, ⟨sb⟩⟩
       rw [if_neg c9] at H
       have c9b0 : (!(((rd_T57 l0 0).f3.f0) == ((rd_T57 l1 0).f3.f0)) || (!(((rd_T57 l0 0).f3.f1) == ((rd_T57 l1 0).f3.f1)) || (!((((rd_T57 l0 0).f3.f2).toList) == (((rd_T57 l1 0).f3.f2).toList)) || (!(((rd_T57 l0 0).f3.f3) == ((rd_T57 l1 0).f3.f3)))))) = false := by simpa using c9
       clear c9
       have H' := Aside0.mk H
       clear H
       try go_wp2
       have n0_ := Aside0.mk (below_drew1 HB.out)
       clear HB
       have HB := n0_
       clear n0_
       have p135 : 0 ≤ (0 : Int) := (by omega)
       have q135 : 0 < (l0.length : Int) := of_decide_eq_true (by first | (with_reducible assumption) | assumption)
       obtain ⟨ad135, A135_7, c135_7, e135, hx135_0, hx135_1, hx135_2, hx135_3, hx135_4, hx135_5, hx135_6, hx135_7, hl135_7, hi135_7⟩ := at_T57 HR0.out 0 p135 q135
       have hw135_7 := hx135_7
       (try rw [sZ] at hw135_7)
       have hw135_6 := hx135_6
       (try rw [sZ] at hw135_6)
       have hw135_5 := hx135_5
       (try rw [sZ] at hw135_5)
       have hw135_4 := hx135_4
       (try rw [sZ] at hw135_4)
       have hw135_3 := hx135_3
       (try rw [sZ] at hw135_3)
       have hw135_2 := hx135_2
       (try rw [sZ] at hw135_2)
       have hw135_1 := hx135_1
       (try rw [sZ] at hw135_1)
       have hw135_0 := hx135_0
       (try rw [sZ] at hw135_0)
       cases e135
       have qi135 : (0 < l0.length) = True := eq_true (by omega)
       (try rw [sZ] at hx135_0)
       (try rw [sZ] at hx135_1)
       (try rw [sZ] at hx135_2)
       (try rw [sZ] at hx135_3)
       (try rw [sZ] at hx135_4)
       (try rw [sZ] at hx135_5)
       (try rw [sZ] at hx135_6)
       (try rw [sZ] at hx135_7)
       replace hx135_0 := sX HB hx135_0
       replace hx135_1 := sX HB hx135_1
       replace hx135_2 := sX HB hx135_2
       replace hx135_3 := sX HB hx135_3
       replace hx135_4 := sX HB hx135_4
       replace hx135_5 := sX HB hx135_5
       replace hx135_6 := sX HB hx135_6
       replace hx135_7 := sX HB hx135_7
       have HR135_7 := Aside0.mk hi135_7
       have HC135_7 := Aside0.mk hl135_7
       clear hi135_7 hl135_7
       replace p135 := eq_true p135
       replace q135 := eq_true q135
       have p136 : 0 ≤ (0 : Int) := (by omega)
       have q136 : 0 < (l1.length : Int) := of_decide_eq_true (by first | (with_reducible assumption) | assumption)
       obtain ⟨ad136, A136_7, c136_7, e136, hx136_0, hx136_1, hx136_2, hx136_3, hx136_4, hx136_5, hx136_6, hx136_7, hl136_7, hi136_7⟩ := at_T57 HR1.out 0 p136 q136
       have hw136_7 := hx136_7
       (try rw [sZ] at hw136_7)
       have hw136_6 := hx136_6
       (try rw [sZ] at hw136_6)
       have hw136_5 := hx136_5
       (try rw [sZ] at hw136_5)
       have hw136_4 := hx136_4
       (try rw [sZ] at hw136_4)
       have hw136_3 := hx136_3
       (try rw [sZ] at hw136_3)
       have hw136_2 := hx136_2
       (try rw [sZ] at hw136_2)
       have hw136_1 := hx136_1
       (try rw [sZ] at hw136_1)
       have hw136_0 := hx136_0
       (try rw [sZ] at hw136_0)
       cases e136
       have qi136 : (0 < l1.length) = True := eq_true (by omega)
       (try rw [sZ] at hx136_0)
       (try rw [sZ] at hx136_1)
       (try rw [sZ] at hx136_2)
       (try rw [sZ] at hx136_3)
       (try rw [sZ] at hx136_4)
       (try rw [sZ] at hx136_5)
       (try rw [sZ] at hx136_6)
       (try rw [sZ] at hx136_7)
       replace hx136_0 := sX HB hx136_0
       replace hx136_1 := sX HB hx136_1
       replace hx136_2 := sX HB hx136_2
       replace hx136_3 := sX HB hx136_3
       replace hx136_4 := sX HB hx136_4
       replace hx136_5 := sX HB hx136_5
       replace hx136_6 := sX HB hx136_6
       replace hx136_7 := sX HB hx136_7
       have HR136_7 := Aside0.mk hi136_7
       have HC136_7 := Aside0.mk hl136_7
       clear hi136_7 hl136_7
       replace p136 := eq_true p136
       replace q136 := eq_true q136
       have p137 : 0 ≤ (0 : Int) := (by omega)
       have q137 : 0 < (l0.length : Int) := of_decide_eq_true (by first | (with_reducible assumption) | assumption)
       obtain ⟨ad137, A137_7, c137_7, e137, hx137_0, hx137_1, hx137_2, hx137_3, hx137_4, hx137_5, hx137_6, hx137_7, hl137_7, hi137_7⟩ := at_T57 HR0.out 0 p137 q137
       have hw137_7 := hx137_7
       (try rw [sZ] at hw137_7)
       have hw137_6 := hx137_6
       (try rw [sZ] at hw137_6)
       have hw137_5 := hx137_5
       (try rw [sZ] at hw137_5)
       have hw137_4 := hx137_4
       (try rw [sZ] at hw137_4)
       have hw137_3 := hx137_3
       (try rw [sZ] at hw137_3)
       have hw137_2 := hx137_2
       (try rw [sZ] at hw137_2)
       have hw137_1 := hx137_1
       (try rw [sZ] at hw137_1)
       have hw137_0 := hx137_0
       (try rw [sZ] at hw137_0)
       obtain rfl : ad135 = ad137 := (by injection e137)
       have qi137 : (0 < l0.length) = True := eq_true (by omega)
       (try rw [sZ] at hx137_0)
       (try rw [sZ] at hx137_1)
       (try rw [sZ] at hx137_2)
       (try rw [sZ] at hx137_3)
       (try rw [sZ] at hx137_4)
       (try rw [sZ] at hx137_5)
       (try rw [sZ] at hx137_6)
       (try rw [sZ] at hx137_7)
       replace hx137_0 := sX HB hx137_0
       replace hx137_1 := sX HB hx137_1
       replace hx137_2 := sX HB hx137_2
       replace hx137_3 := sX HB hx137_3
       replace hx137_4 := sX HB hx137_4
       replace hx137_5 := sX HB hx137_5
       replace hx137_6 := sX HB hx137_6
       replace hx137_7 := sX HB hx137_7
       have HR137_7 := Aside0.mk hi137_7
       have HC137_7 := Aside0.mk hl137_7
       clear hi137_7 hl137_7
       replace p137 := eq_true p137
       replace q137 := eq_true q137
       have ea_ := Option.some.inj (hx135_7.symm.trans hx137_7)
       injection ea_ with ea_ en_ ec_
       subst ea_
       subst ec_
       clear en_
       have p138 : 0 ≤ (0 : Int) := (by omega)
       have q138 : 0 < (l1.length : Int) := of_decide_eq_true (by first | (with_reducible assumption) | assumption)
       obtain ⟨ad138, A138_7, c138_7, e138, hx138_0, hx138_1, hx138_2, hx138_3, hx138_4, hx138_5, hx138_6, hx138_7, hl138_7, hi138_7⟩ := at_T57 HR1.out 0 p138 q138
       have hw138_7 := hx138_7
       (try rw [sZ] at hw138_7)
       have hw138_6 := hx138_6
       (try rw [sZ] at hw138_6)
       have hw138_5 := hx138_5
       (try rw [sZ] at hw138_5)
       have hw138_4 := hx138_4
       (try rw [sZ] at hw138_4)
       have hw138_3 := hx138_3
       (try rw [sZ] at hw138_3)
       have hw138_2 := hx138_2
       (try rw [sZ] at hw138_2)
       have hw138_1 := hx138_1
       (try rw [sZ] at hw138_1)
       have hw138_0 := hx138_0
       (try rw [sZ] at hw138_0)
       obtain rfl : ad136 = ad138 := (by injection e138)
       have qi138 : (0 < l1.length) = True := eq_true (by omega)
       (try rw [sZ] at hx138_0)
       (try rw [sZ] at hx138_1)
       (try rw [sZ] at hx138_2)
       (try rw [sZ] at hx138_3)
       (try rw [sZ] at hx138_4)
       (try rw [sZ] at hx138_5)
       (try rw [sZ] at hx138_6)
       (try rw [sZ] at hx138_7)
       replace hx138_0 := sX HB hx138_0
       replace hx138_1 := sX HB hx138_1
       replace hx138_2 := sX HB hx138_2
       replace hx138_3 := sX HB hx138_3
       replace hx138_4 := sX HB hx138_4
       replace hx138_5 := sX HB hx138_5
       replace hx138_6 := sX HB hx138_6
       replace hx138_7 := sX HB hx138_7
       have HR138_7 := Aside0.mk hi138_7
       have HC138_7 := Aside0.mk hl138_7
       clear hi138_7 hl138_7
       replace p138 := eq_true p138
       replace q138 := eq_true q138
       have ea_ := Option.some.inj (hx136_7.symm.trans hx138_7)
       injection ea_ with ea_ en_ ec_
       subst ea_
       subst ec_
       clear en_
       have p139 : 0 ≤ (0 : Int) := (by omega)
       have q139 : 0 < (l0.length : Int) := of_decide_eq_true (by first | (with_reducible assumption) | assumption)
       obtain ⟨ad139, A139_7, c139_7, e139, hx139_0, hx139_1, hx139_2, hx139_3, hx139_4, hx139_5, hx139_6, hx139_7, hl139_7, hi139_7⟩ := at_T57 HR0.out 0 p139 q139
       have hw139_7 := hx139_7
       (try rw [sZ] at hw139_7)
       have hw139_6 := hx139_6
       (try rw [sZ] at hw139_6)
       have hw139_5 := hx139_5
       (try rw [sZ] at hw139_5)
       have hw139_4 := hx139_4
       (try rw [sZ] at hw139_4)
       have hw139_3 := hx139_3
       (try rw [sZ] at hw139_3)
       have hw139_2 := hx139_2
       (try rw [sZ] at hw139_2)
       have hw139_1 := hx139_1
       (try rw [sZ] at hw139_1)
       have hw139_0 := hx139_0
       (try rw [sZ] at hw139_0)
       obtain rfl : ad135 = ad139 := (by injection e139)
       have qi139 : (0 < l0.length) = True := eq_true (by omega)
       (try rw [sZ] at hx139_0)
       (try rw [sZ] at hx139_1)
       (try rw [sZ] at hx139_2)
       (try rw [sZ] at hx139_3)
       (try rw [sZ] at hx139_4)
       (try rw [sZ] at hx139_5)
       (try rw [sZ] at hx139_6)
       (try rw [sZ] at hx139_7)
       replace hx139_0 := sX HB hx139_0
       replace hx139_1 := sX HB hx139_1
       replace hx139_2 := sX HB hx139_2
       replace hx139_3 := sX HB hx139_3
       replace hx139_4 := sX HB hx139_4
       replace hx139_5 := sX HB hx139_5
       replace hx139_6 := sX HB hx139_6
       replace hx139_7 := sX HB hx139_7
       have HR139_7 := Aside0.mk hi139_7
       have HC139_7 := Aside0.mk hl139_7
       clear hi139_7 hl139_7
       replace p139 := eq_true p139
       replace q139 := eq_true q139
       have ea_ := Option.some.inj (hx135_7.symm.trans hx139_7)
       injection ea_ with ea_ en_ ec_
       subst ea_
       subst ec_
       clear en_
       have p140 : 0 ≤ (0 : Int) := (by omega)
       have q140 : 0 < (l1.length : Int) := of_decide_eq_true (by first | (with_reducible assumption) | assumption)
       obtain ⟨ad140, A140_7, c140_7, e140, hx140_0, hx140_1, hx140_2, hx140_3, hx140_4, hx140_5, hx140_6, hx140_7, hl140_7, hi140_7⟩ := at_T57 HR1.out 0 p140 q140
       have hw140_7 := hx140_7
       (try rw [sZ] at hw140_7)
       have hw140_6 := hx140_6
       (try rw [sZ] at hw140_6)
       have hw140_5 := hx140_5
       (try rw [sZ] at hw140_5)
       have hw140_4 := hx140_4
       (try rw [sZ] at hw140_4)
       have hw140_3 := hx140_3
       (try rw [sZ] at hw140_3)
       have hw140_2 := hx140_2
       (try rw [sZ] at hw140_2)
       have hw140_1 := hx140_1
       (try rw [sZ] at hw140_1)
       have hw140_0 := hx140_0
       (try rw [sZ] at hw140_0)
       obtain rfl : ad136 = ad140 := (by injection e140)
       have qi140 : (0 < l1.length) = True := eq_true (by omega)
       (try rw [sZ] at hx140_0)
       (try rw [sZ] at hx140_1)
       (try rw [sZ] at hx140_2)
       (try rw [sZ] at hx140_3)
       (try rw [sZ] at hx140_4)
       (try rw [sZ] at hx140_5)
       (try rw [sZ] at hx140_6)
       (try rw [sZ] at hx140_7)
       replace hx140_0 := sX HB hx140_0
       replace hx140_1 := sX HB hx140_1
       replace hx140_2 := sX HB hx140_2
       replace hx140_3 := sX HB hx140_3
       replace hx140_4 := sX HB hx140_4
       replace hx140_5 := sX HB hx140_5
       replace hx140_6 := sX HB hx140_6
       replace hx140_7 := sX HB hx140_7
       have HR140_7 := Aside0.mk hi140_7
       have HC140_7 := Aside0.mk hl140_7
       clear hi140_7 hl140_7
       replace p140 := eq_true p140
       replace q140 := eq_true q140
       have ea_ := Option.some.inj (hx136_7.symm.trans hx140_7)
       injection ea_ with ea_ en_ ec_
       subst ea_
       subst ec_
       clear en_
       have p141 : 0 ≤ (0 : Int) := (by omega)
       have q141 : 0 < (l0.length : Int) := of_decide_eq_true (by first | (with_reducible assumption) | assumption)
       obtain ⟨ad141, A141_7, c141_7, e141, hx141_0, hx141_1, hx141_2, hx141_3, hx141_4, hx141_5, hx141_6, hx141_7, hl141_7, hi141_7⟩ := at_T57 HR0.out 0 p141 q141
       have hw141_7 := hx141_7
       (try rw [sZ] at hw141_7)
       have hw141_6 := hx141_6
       (try rw [sZ] at hw141_6)
       have hw141_5 := hx141_5
       (try rw [sZ] at hw141_5)
       have hw141_4 := hx141_4
       (try rw [sZ] at hw141_4)
       have hw141_3 := hx141_3
       (try rw [sZ] at hw141_3)
       have hw141_2 := hx141_2
       (try rw [sZ] at hw141_2)
       have hw141_1 := hx141_1
       (try rw [sZ] at hw141_1)
       have hw141_0 := hx141_0
       (try rw [sZ] at hw141_0)
       obtain rfl : ad135 = ad141 := (by injection e141)
       have qi141 : (0 < l0.length) = True := eq_true (by omega)
       (try rw [sZ] at hx141_0)
       (try rw [sZ] at hx141_1)
       (try rw [sZ] at hx141_2)
       (try rw [sZ] at hx141_3)
       (try rw [sZ] at hx141_4)
       (try rw [sZ] at hx141_5)
       (try rw [sZ] at hx141_6)
       (try rw [sZ] at hx141_7)
       replace hx141_0 := sX HB hx141_0
       replace hx141_1 := sX HB hx141_1
       replace hx141_2 := sX HB hx141_2
       replace hx141_3 := sX HB hx141_3
       replace hx141_4 := sX HB hx141_4
       replace hx141_5 := sX HB hx141_5
       replace hx141_6 := sX HB hx141_6
       replace hx141_7 := sX HB hx141_7
       have HR141_7 := Aside0.mk hi141_7
       have HC141_7 := Aside0.mk hl141_7
       clear hi141_7 hl141_7
       replace p141 := eq_true p141
       replace q141 := eq_true q141
       have ea_ := Option.some.inj (hx135_7.symm.trans hx141_7)
       injection ea_ with ea_ en_ ec_
       subst ea_
       subst ec_
       clear en_
       have p142 : 0 ≤ (0 : Int) := (by omega)
       have q142 : 0 < (l1.length : Int) := of_decide_eq_true (by first | (with_reducible assumption) | assumption)
       obtain ⟨ad142, A142_7, c142_7, e142, hx142_0, hx142_1, hx142_2, hx142_3, hx142_4, hx142_5, hx142_6, hx142_7, hl142_7, hi142_7⟩ := at_T57 HR1.out 0 p142 q142
       have hw142_7 := hx142_7
       (try rw [sZ] at hw142_7)
       have hw142_6 := hx142_6
       (try rw [sZ] at hw142_6)
       have hw142_5 := hx142_5
       (try rw [sZ] at hw142_5)
       have hw142_4 := hx142_4
       (try rw [sZ] at hw142_4)
       have hw142_3 := hx142_3
       (try rw [sZ] at hw142_3)
       have hw142_2 := hx142_2
       (try rw [sZ] at hw142_2)
       have hw142_1 := hx142_1
       (try rw [sZ] at hw142_1)
       have hw142_0 := hx142_0
       (try rw [sZ] at hw142_0)
       obtain rfl : ad136 = ad142 := (by injection e142)
       have qi142 : (0 < l1.length) = True := eq_true (by omega)
       (try rw [sZ] at hx142_0)
       (try rw [sZ] at hx142_1)
       (try rw [sZ] at hx142_2)
       (try rw [sZ] at hx142_3)
       (try rw [sZ] at hx142_4)
       (try rw [sZ] at hx142_5)
       (try rw [sZ] at hx142_6)
       (try rw [sZ] at hx142_7)
       replace hx142_0 := sX HB hx142_0
       replace hx142_1 := sX HB hx142_1
       replace hx142_2 := sX HB hx142_2
       replace hx142_3 := sX HB hx142_3
       replace hx142_4 := sX HB hx142_4
       replace hx142_5 := sX HB hx142_5
       replace hx142_6 := sX HB hx142_6
       replace hx142_7 := sX HB hx142_7
       have HR142_7 := Aside0.mk hi142_7
       have HC142_7 := Aside0.mk hl142_7
       clear hi142_7 hl142_7
       replace p142 := eq_true p142
       replace q142 := eq_true q142
       have ea_ := Option.some.inj (hx136_7.symm.trans hx142_7)
       injection ea_ with ea_ en_ ec_
       subst ea_
       subst ec_
       clear en_
       have p143 : 0 ≤ (0 : Int) := (by omega)
       have q143 : 0 < (l0.length : Int) := of_decide_eq_true (by first | (with_reducible assumption) | assumption)
       obtain ⟨ad143, A143_7, c143_7, e143, hx143_0, hx143_1, hx143_2, hx143_3, hx143_4, hx143_5, hx143_6, hx143_7, hl143_7, hi143_7⟩ := at_T57 HR0.out 0 p143 q143
       have hw143_7 := hx143_7
       (try rw [sZ] at hw143_7)
       have hw143_6 := hx143_6
       (try rw [sZ] at hw143_6)
       have hw143_5 := hx143_5
       (try rw [sZ] at hw143_5)
       have hw143_4 := hx143_4
       (try rw [sZ] at hw143_4)
       have hw143_3 := hx143_3
       (try rw [sZ] at hw143_3)
       have hw143_2 := hx143_2
       (try rw [sZ] at hw143_2)
       have hw143_1 := hx143_1
       (try rw [sZ] at hw143_1)
       have hw143_0 := hx143_0
       (try rw [sZ] at hw143_0)
       obtain rfl : ad135 = ad143 := (by injection e143)
       have qi143 : (0 < l0.length) = True := eq_true (by omega)
       (try rw [sZ] at hx143_0)
       (try rw [sZ] at hx143_1)
       (try rw [sZ] at hx143_2)
       (try rw [sZ] at hx143_3)
       (try rw [sZ] at hx143_4)
       (try rw [sZ] at hx143_5)
       (try rw [sZ] at hx143_6)
       (try rw [sZ] at hx143_7)
       replace hx143_0 := sX HB hx143_0
       replace hx143_1 := sX HB hx143_1
       replace hx143_2 := sX HB hx143_2
       replace hx143_3 := sX HB hx143_3
       replace hx143_4 := sX HB hx143_4
       replace hx143_5 := sX HB hx143_5
       replace hx143_6 := sX HB hx143_6
       replace hx143_7 := sX HB hx143_7
       have HR143_7 := Aside0.mk hi143_7
       have HC143_7 := Aside0.mk hl143_7
       clear hi143_7 hl143_7
       replace p143 := eq_true p143
       replace q143 := eq_true q143
       have ea_ := Option.some.inj (hx135_7.symm.trans hx143_7)
       injection ea_ with ea_ en_ ec_
       subst ea_
       subst ec_
       clear en_
       have p144 : 0 ≤ (0 : Int) := (by omega)
       have q144 : 0 < (l1.length : Int) := of_decide_eq_true (by first | (with_reducible assumption) | assumption)
       obtain ⟨ad144, A144_7, c144_7, e144, hx144_0, hx144_1, hx144_2, hx144_3, hx144_4, hx144_5, hx144_6, hx144_7, hl144_7, hi144_7⟩ := at_T57 HR1.out 0 p144 q144
       have hw144_7 := hx144_7
       (try rw [sZ] at hw144_7)
       have hw144_6 := hx144_6
       (try rw [sZ] at hw144_6)
       have hw144_5 := hx144_5
       (try rw [sZ] at hw144_5)
       have hw144_4 := hx144_4
       (try rw [sZ] at hw144_4)
       have hw144_3 := hx144_3
       (try rw [sZ] at hw144_3)
       have hw144_2 := hx144_2
       (try rw [sZ] at hw144_2)
       have hw144_1 := hx144_1
       (try rw [sZ] at hw144_1)
       have hw144_0 := hx144_0
       (try rw [sZ] at hw144_0)
       obtain rfl : ad136 = ad144 := (by injection e144)
       have qi144 : (0 < l1.length) = True := eq_true (by omega)
       (try rw [sZ] at hx144_0)
       (try rw [sZ] at hx144_1)
       (try rw [sZ] at hx144_2)
       (try rw [sZ] at hx144_3)
       (try rw [sZ] at hx144_4)
       (try rw [sZ] at hx144_5)
       (try rw [sZ] at hx144_6)
       (try rw [sZ] at hx144_7)
       replace hx144_0 := sX HB hx144_0
       replace hx144_1 := sX HB hx144_1
       replace hx144_2 := sX HB hx144_2
       replace hx144_3 := sX HB hx144_3
       replace hx144_4 := sX HB hx144_4
       replace hx144_5 := sX HB hx144_5
       replace hx144_6 := sX HB hx144_6
       replace hx144_7 := sX HB hx144_7
       have HR144_7 := Aside0.mk hi144_7
       have HC144_7 := Aside0.mk hl144_7
       clear hi144_7 hl144_7
       replace p144 := eq_true p144
       replace q144 := eq_true q144
       have ea_ := Option.some.inj (hx136_7.symm.trans hx144_7)
       injection ea_ with ea_ en_ ec_
       subst ea_
       subst ec_
       clear en_
       refine start_ (n := 55) (S := fun w' => w'.cell? ad135 = some (.int .i64 ((rd_T57 l0 0).f0)) ∧ w'.cell? ⟨ad135.block, ad135.off + 1, none⟩ = some (.int .i64 ((rd_T57 l0 0).f1)) ∧ w'.cell? ⟨ad135.block, ad135.off + 2, none⟩ = some (.string ((rd_T57 l0 0).f2)) ∧ w'.cell? ⟨ad135.block, ad135.off + 3, none⟩ = some (.int .i64 ((rd_T57 l0 0).f3.f0)) ∧ w'.cell? ⟨ad135.block, ad135.off + 4, none⟩ = some (.int .i64 ((rd_T57 l0 0).f3.f1)) ∧ w'.cell? ⟨ad135.block, ad135.off + 5, none⟩ = some (.string ((rd_T57 l0 0).f3.f2)) ∧ w'.cell? ⟨ad135.block, ad135.off + 6, none⟩ = some (.int .i64 ((rd_T57 l0 0).f3.f3)) ∧ w'.cell? ⟨ad135.block, ad135.off + 7, none⟩ = some (.slice A135_7 ((rd_T57 l0 0).f4).length c135_7) ∧ w'.cell? ad136 = some (.int .i64 ((rd_T57 l1 0).f0)) ∧ w'.cell? ⟨ad136.block, ad136.off + 1, none⟩ = some (.int .i64 ((rd_T57 l1 0).f1)) ∧ w'.cell? ⟨ad136.block, ad136.off + 2, none⟩ = some (.string ((rd_T57 l1 0).f2)) ∧ w'.cell? ⟨ad136.block, ad136.off + 3, none⟩ = some (.int .i64 ((rd_T57 l1 0).f3.f0)) ∧ w'.cell? ⟨ad136.block, ad136.off + 4, none⟩ = some (.int .i64 ((rd_T57 l1 0).f3.f1)) ∧ w'.cell? ⟨ad136.block, ad136.off + 5, none⟩ = some (.string ((rd_T57 l1 0).f3.f2)) ∧ w'.cell? ⟨ad136.block, ad136.off + 6, none⟩ = some (.int .i64 ((rd_T57 l1 0).f3.f3)) ∧ w'.cell? ⟨ad136.block, ad136.off + 7, none⟩ = some (.slice A136_7 ((rd_T57 l1 0).f4).length c136_7) ∧ w'.cell? ad135 = some (.int .i64 ((rd_T57 l0 0).f0)) ∧ w'.cell? ⟨ad135.block, ad135.off + 1, none⟩ = some (.int .i64 ((rd_T57 l0 0).f1)) ∧ w'.cell? ⟨ad135.block, ad135.off + 2, none⟩ = some (.string ((rd_T57 l0 0).f2)) ∧ w'.cell? ⟨ad135.block, ad135.off + 3, none⟩ = some (.int .i64 ((rd_T57 l0 0).f3.f0)) ∧ w'.cell? ⟨ad135.block, ad135.off + 4, none⟩ = some (.int .i64 ((rd_T57 l0 0).f3.f1)) ∧ w'.cell? ⟨ad135.block, ad135.off + 5, none⟩ = some (.string ((rd_T57 l0 0).f3.f2)) ∧ w'.cell? ⟨ad135.block, ad135.off + 6, none⟩ = some (.int .i64 ((rd_T57 l0 0).f3.f3)) ∧ w'.cell? ⟨ad135.block, ad135.off + 7, none⟩ = some (.slice A135_7 ((rd_T57 l0 0).f4).length c135_7) ∧ w'.cell? ad136 = some (.int .i64 ((rd_T57 l1 0).f0)) ∧ w'.cell? ⟨ad136.block, ad136.off + 1, none⟩ = some (.int .i64 ((rd_T57 l1 0).f1)) ∧ w'.cell? ⟨ad136.block, ad136.off + 2, none⟩ = some (.string ((rd_T57 l1 0).f2)) ∧ w'.cell? ⟨ad136.block, ad136.off + 3, none⟩ = some (.int .i64 ((rd_T57 l1 0).f3.f0)) ∧ w'.cell? ⟨ad136.block, ad136.off + 4, none⟩ = some (.int .i64 ((rd_T57 l1 0).f3.f1)) ∧ w'.cell? ⟨ad136.block, ad136.off + 5, none⟩ = some (.string ((rd_T57 l1 0).f3.f2)) ∧ w'.cell? ⟨ad136.block, ad136.off + 6, none⟩ = some (.int .i64 ((rd_T57 l1 0).f3.f3)) ∧ w'.cell? ⟨ad136.block, ad136.off + 7, none⟩ = some (.slice A136_7 ((rd_T57 l1 0).f4).length c136_7) ∧ w'.cell? ad135 = some (.int .i64 ((rd_T57 l0 0).f0)) ∧ w'.cell? ⟨ad135.block, ad135.off + 1, none⟩ = some (.int .i64 ((rd_T57 l0 0).f1)) ∧ w'.cell? ⟨ad135.block, ad135.off + 2, none⟩ = some (.string ((rd_T57 l0 0).f2)) ∧ w'.cell? ⟨ad135.block, ad135.off + 3, none⟩ = some (.int .i64 ((rd_T57 l0 0).f3.f0)) ∧ w'.cell? ⟨ad135.block, ad135.off + 4, none⟩ = some (.int .i64 ((rd_T57 l0 0).f3.f1)) ∧ w'.cell? ⟨ad135.block, ad135.off + 5, none⟩ = some (.string ((rd_T57 l0 0).f3.f2)) ∧ w'.cell? ⟨ad135.block, ad135.off + 6, none⟩ = some (.int .i64 ((rd_T57 l0 0).f3.f3)) ∧ w'.cell? ⟨ad135.block, ad135.off + 7, none⟩ = some (.slice A135_7 ((rd_T57 l0 0).f4).length c135_7) ∧ w'.cell? ad136 = some (.int .i64 ((rd_T57 l1 0).f0)) ∧ w'.cell? ⟨ad136.block, ad136.off + 1, none⟩ = some (.int .i64 ((rd_T57 l1 0).f1)) ∧ w'.cell? ⟨ad136.block, ad136.off + 2, none⟩ = some (.string ((rd_T57 l1 0).f2)) ∧ w'.cell? ⟨ad136.block, ad136.off + 3, none⟩ = some (.int .i64 ((rd_T57 l1 0).f3.f0)) ∧ w'.cell? ⟨ad136.block, ad136.off + 4, none⟩ = some (.int .i64 ((rd_T57 l1 0).f3.f1)) ∧ w'.cell? ⟨ad136.block, ad136.off + 5, none⟩ = some (.string ((rd_T57 l1 0).f3.f2)) ∧ w'.cell? ⟨ad136.block, ad136.off + 6, none⟩ = some (.int .i64 ((rd_T57 l1 0).f3.f3)) ∧ w'.cell? ⟨ad136.block, ad136.off + 7, none⟩ = some (.slice A136_7 ((rd_T57 l1 0).f4).length c136_7) ∧ w'.cell? ad135 = some (.int .i64 ((rd_T57 l0 0).f0)) ∧ w'.cell? ⟨ad135.block, ad135.off + 1, none⟩ = some (.int .i64 ((rd_T57 l0 0).f1)) ∧ w'.cell? ⟨ad135.block, ad135.off + 2, none⟩ = some (.string ((rd_T57 l0 0).f2)) ∧ w'.cell? ⟨ad135.block, ad135.off + 3, none⟩ = some (.int .i64 ((rd_T57 l0 0).f3.f0)) ∧ w'.cell? ⟨ad135.block, ad135.off + 4, none⟩ = some (.int .i64 ((rd_T57 l0 0).f3.f1)) ∧ w'.cell? ⟨ad135.block, ad135.off + 5, none⟩ = some (.string ((rd_T57 l0 0).f3.f2)) ∧ w'.cell? ⟨ad135.block, ad135.off + 6, none⟩ = some (.int .i64 ((rd_T57 l0 0).f3.f3)) ∧ w'.cell? ⟨ad135.block, ad135.off + 7, none⟩ = some (.slice A135_7 ((rd_T57 l0 0).f4).length c135_7) ∧ w'.cell? ad136 = some (.int .i64 ((rd_T57 l1 0).f0)) ∧ w'.cell? ⟨ad136.block, ad136.off + 1, none⟩ = some (.int .i64 ((rd_T57 l1 0).f1)) ∧ w'.cell? ⟨ad136.block, ad136.off + 2, none⟩ = some (.string ((rd_T57 l1 0).f2)) ∧ w'.cell? ⟨ad136.block, ad136.off + 3, none⟩ = some (.int .i64 ((rd_T57 l1 0).f3.f0)) ∧ w'.cell? ⟨ad136.block, ad136.off + 4, none⟩ = some (.int .i64 ((rd_T57 l1 0).f3.f1)) ∧ w'.cell? ⟨ad136.block, ad136.off + 5, none⟩ = some (.string ((rd_T57 l1 0).f3.f2)) ∧ w'.cell? ⟨ad136.block, ad136.off + 6, none⟩ = some (.int .i64 ((rd_T57 l1 0).f3.f3)) ∧ w'.cell? ⟨ad136.block, ad136.off + 7, none⟩ = some (.slice A136_7 ((rd_T57 l1 0).f4).length c136_7) ∧ w'.cell? ad135 = some (.int .i64 ((rd_T57 l0 0).f0)) ∧ w'.cell? ⟨ad135.block, ad135.off + 1, none⟩ = some (.int .i64 ((rd_T57 l0 0).f1)) ∧ w'.cell? ⟨ad135.block, ad135.off + 2, none⟩ = some (.string ((rd_T57 l0 0).f2)) ∧ w'.cell? ⟨ad135.block, ad135.off + 3, none⟩ = some (.int .i64 ((rd_T57 l0 0).f3.f0)) ∧ w'.cell? ⟨ad135.block, ad135.off + 4, none⟩ = some (.int .i64 ((rd_T57 l0 0).f3.f1)) ∧ w'.cell? ⟨ad135.block, ad135.off + 5, none⟩ = some (.string ((rd_T57 l0 0).f3.f2)) ∧ w'.cell? ⟨ad135.block, ad135.off + 6, none⟩ = some (.int .i64 ((rd_T57 l0 0).f3.f3)) ∧ w'.cell? ⟨ad135.block, ad135.off + 7, none⟩ = some (.slice A135_7 ((rd_T57 l0 0).f4).length c135_7) ∧ w'.cell? ad136 = some (.int .i64 ((rd_T57 l1 0).f0)) ∧ w'.cell? ⟨ad136.block, ad136.off + 1, none⟩ = some (.int .i64 ((rd_T57 l1 0).f1)) ∧ w'.cell? ⟨ad136.block, ad136.off + 2, none⟩ = some (.string ((rd_T57 l1 0).f2)) ∧ w'.cell? ⟨ad136.block, ad136.off + 3, none⟩ = some (.int .i64 ((rd_T57 l1 0).f3.f0)) ∧ w'.cell? ⟨ad136.block, ad136.off + 4, none⟩ = some (.int .i64 ((rd_T57 l1 0).f3.f1)) ∧ w'.cell? ⟨ad136.block, ad136.off + 5, none⟩ = some (.string ((rd_T57 l1 0).f3.f2)) ∧ w'.cell? ⟨ad136.block, ad136.off + 6, none⟩ = some (.int .i64 ((rd_T57 l1 0).f3.f3)) ∧ w'.cell? ⟨ad136.block, ad136.off + 7, none⟩ = some (.slice A136_7 ((rd_T57 l1 0).f4).length c136_7)) (ds := []) #[false, false, false, false, false, false, false, false, false, false, false, false, false, false, false, false, false, false, false, false, false, false, false, false, false, false, false, false, false, false, false, false, false, false, false, false, false, false, false, false, false, false, false, false, false, false, false, false, false, false, false, false, false, false, false] (by kernel_rfl) rfl rfl ⟨((HB.out.cell (World.block_lt_of_cell? w _ hw135_0)).trans hw135_0), ((HB.out.cell (World.block_lt_of_cell? w _ hw135_1)).trans hw135_1), ((HB.out.cell (World.block_lt_of_cell? w _ hw135_2)).trans hw135_2), ((HB.out.cell (World.block_lt_of_cell? w _ hw135_3)).trans hw135_3), ((HB.out.cell (World.block_lt_of_cell? w _ hw135_4)).trans hw135_4), ((HB.out.cell (World.block_lt_of_cell? w _ hw135_5)).trans hw135_5), ((HB.out.cell (World.block_lt_of_cell? w _ hw135_6)).trans hw135_6), ((HB.out.cell (World.block_lt_of_cell? w _ hw135_7)).trans hw135_7), ((HB.out.cell (World.block_lt_of_cell? w _ hw136_0)).trans hw136_0), ((HB.out.cell (World.block_lt_of_cell? w _ hw136_1)).trans hw136_1), ((HB.out.cell (World.block_lt_of_cell? w _ hw136_2)).trans hw136_2), ((HB.out.cell (World.block_lt_of_cell? w _ hw136_3)).trans hw136_3), ((HB.out.cell (World.block_lt_of_cell? w _ hw136_4)).trans hw136_4), ((HB.out.cell (World.block_lt_of_cell? w _ hw136_5)).trans hw136_5), ((HB.out.cell (World.block_lt_of_cell? w _ hw136_6)).trans hw136_6), ((HB.out.cell (World.block_lt_of_cell? w _ hw136_7)).trans hw136_7), ((HB.out.cell (World.block_lt_of_cell? w _ hw137_0)).trans hw137_0), ((HB.out.cell (World.block_lt_of_cell? w _ hw137_1)).trans hw137_1), ((HB.out.cell (World.block_lt_of_cell? w _ hw137_2)).trans hw137_2), ((HB.out.cell (World.block_lt_of_cell? w _ hw137_3)).trans hw137_3), ((HB.out.cell (World.block_lt_of_cell? w _ hw137_4)).trans hw137_4), ((HB.out.cell (World.block_lt_of_cell? w _ hw137_5)).trans hw137_5), ((HB.out.cell (World.block_lt_of_cell? w _ hw137_6)).trans hw137_6), ((HB.out.cell (World.block_lt_of_cell? w _ hw137_7)).trans hw137_7), ((HB.out.cell (World.block_lt_of_cell? w _ hw138_0)).trans hw138_0), ((HB.out.cell (World.block_lt_of_cell? w _ hw138_1)).trans hw138_1), ((HB.out.cell (World.block_lt_of_cell? w _ hw138_2)).trans hw138_2), ((HB.out.cell (World.block_lt_of_cell? w _ hw138_3)).trans hw138_3), ((HB.out.cell (World.block_lt_of_cell? w _ hw138_4)).trans hw138_4), ((HB.out.cell (World.block_lt_of_cell? w _ hw138_5)).trans hw138_5), ((HB.out.cell (World.block_lt_of_cell? w _ hw138_6)).trans hw138_6), ((HB.out.cell (World.block_lt_of_cell? w _ hw138_7)).trans hw138_7), ((HB.out.cell (World.block_lt_of_cell? w _ hw139_0)).trans hw139_0), ((HB.out.cell (World.block_lt_of_cell? w _ hw139_1)).trans hw139_1), ((HB.out.cell (World.block_lt_of_cell? w _ hw139_2)).trans hw139_2), ((HB.out.cell (World.block_lt_of_cell? w _ hw139_3)).trans hw139_3), ((HB.out.cell (World.block_lt_of_cell? w _ hw139_4)).trans hw139_4), ((HB.out.cell (World.block_lt_of_cell? w _ hw139_5)).trans hw139_5), ((HB.out.cell (World.block_lt_of_cell? w _ hw139_6)).trans hw139_6), ((HB.out.cell (World.block_lt_of_cell? w _ hw139_7)).trans hw139_7), ((HB.out.cell (World.block_lt_of_cell? w _ hw140_0)).trans hw140_0), ((HB.out.cell (World.block_lt_of_cell? w _ hw140_1)).trans hw140_1), ((HB.out.cell (World.block_lt_of_cell? w _ hw140_2)).trans hw140_2), ((HB.out.cell (World.block_lt_of_cell? w _ hw140_3)).trans hw140_3), ((HB.out.cell (World.block_lt_of_cell? w _ hw140_4)).trans hw140_4), ((HB.out.cell (World.block_lt_of_cell? w _ hw140_5)).trans hw140_5), ((HB.out.cell (World.block_lt_of_cell? w _ hw140_6)).trans hw140_6), ((HB.out.cell (World.block_lt_of_cell? w _ hw140_7)).trans hw140_7), ((HB.out.cell (World.block_lt_of_cell? w _ hw141_0)).trans hw141_0), ((HB.out.cell (World.block_lt_of_cell? w _ hw141_1)).trans hw141_1), ((HB.out.cell (World.block_lt_of_cell? w _ hw141_2)).trans hw141_2), ((HB.out.cell (World.block_lt_of_cell? w _ hw141_3)).trans hw141_3), ((HB.out.cell (World.block_lt_of_cell? w _ hw141_4)).trans hw141_4), ((HB.out.cell (World.block_lt_of_cell? w _ hw141_5)).trans hw141_5), ((HB.out.cell (World.block_lt_of_cell? w _ hw141_6)).trans hw141_6), ((HB.out.cell (World.block_lt_of_cell? w _ hw141_7)).trans hw141_7), ((HB.out.cell (World.block_lt_of_cell? w _ hw142_0)).trans hw142_0), ((HB.out.cell (World.block_lt_of_cell? w _ hw142_1)).trans hw142_1), ((HB.out.cell (World.block_lt_of_cell? w _ hw142_2)).trans hw142_2), ((HB.out.cell (World.block_lt_of_cell? w _ hw142_3)).trans hw142_3), ((HB.out.cell (World.block_lt_of_cell? w _ hw142_4)).trans hw142_4), ((HB.out.cell (World.block_lt_of_cell? w _ hw142_5)).trans hw142_5), ((HB.out.cell (World.block_lt_of_cell? w _ hw142_6)).trans hw142_6), ((HB.out.cell (World.block_lt_of_cell? w _ hw142_7)).trans hw142_7), ((HB.out.cell (World.block_lt_of_cell? w _ hw143_0)).trans hw143_0), ((HB.out.cell (World.block_lt_of_cell? w _ hw143_1)).trans hw143_1), ((HB.out.cell (World.block_lt_of_cell? w _ hw143_2)).trans hw143_2), ((HB.out.cell (World.block_lt_of_cell? w _ hw143_3)).trans hw143_3), ((HB.out.cell (World.block_lt_of_cell? w _ hw143_4)).trans hw143_4), ((HB.out.cell (World.block_lt_of_cell? w _ hw143_5)).trans hw143_5), ((HB.out.cell (World.block_lt_of_cell? w _ hw143_6)).trans hw143_6), ((HB.out.cell (World.block_lt_of_cell? w _ hw143_7)).trans hw143_7), ((HB.out.cell (World.block_lt_of_cell? w _ hw144_0)).trans hw144_0), ((HB.out.cell (World.block_lt_of_cell? w _ hw144_1)).trans hw144_1), ((HB.out.cell (World.block_lt_of_cell? w _ hw144_2)).trans hw144_2), ((HB.out.cell (World.block_lt_of_cell? w _ hw144_3)).trans hw144_3), ((HB.out.cell (World.block_lt_of_cell? w _ hw144_4)).trans hw144_4), ((HB.out.cell (World.block_lt_of_cell? w _ hw144_5)).trans hw144_5), ((HB.out.cell (World.block_lt_of_cell? w _ hw144_6)).trans hw144_6), ((HB.out.cell (World.block_lt_of_cell? w _ hw144_7)).trans hw144_7)⟩ (fun hHeld => ?_); refine with_tabW spec_l22Same.tab1 spec_l22Same.bits1 (fun HT_ HW_ => ?_)
       generalize w.drew = w11 at HB HR135_7 HR136_7 HR137_7 HR138_7 HR139_7 HR140_7 HR141_7 HR142_7 HR143_7 HR144_7 hx135_0 hx135_1 hx135_2 hx135_3 hx135_4 hx135_5 hx135_6 hx135_7 hx136_0 hx136_1 hx136_2 hx136_3 hx136_4 hx136_5 hx136_6 hx136_7 hx137_0 hx137_1 hx137_2 hx137_3 hx137_4 hx137_5 hx137_6 hx137_7 hx138_0 hx138_1 hx138_2 hx138_3 hx138_4 hx138_5 hx138_6 hx138_7 hx139_0 hx139_1 hx139_2 hx139_3 hx139_4 hx139_5 hx139_6 hx139_7 hx140_0 hx140_1 hx140_2 hx140_3 hx140_4 hx140_5 hx140_6 hx140_7 hx141_0 hx141_1 hx141_2 hx141_3 hx141_4 hx141_5 hx141_6 hx141_7 hx142_0 hx142_1 hx142_2 hx142_3 hx142_4 hx142_5 hx142_6 hx142_7 hx143_0 hx143_1 hx143_2 hx143_3 hx143_4 hx143_5 hx143_6 hx143_7 hx144_0 hx144_1 hx144_2 hx144_3 hx144_4 hx144_5 hx144_6 hx144_7 hHeld ⊢
       refine pure_ (i := 0) (N := some 6) (v := ?_) (a' := ?_) (bN 55 1) rfl rfl (any_of HT_.out (by kernel_rfl)) (fun _ _ _ h => h) (Or.inl ⟨by rfl, ?_⟩) ?_ ?_
       rotate_left
       ·intro w'
        go_simp
        with_reducible rfl
       rotate_left
       ·simp only [Act.put, List.setIfInBounds_toArray, List.set_cons_zero, List.set_cons_succ, i64_w, i32_w]
        rfl
       refine pure_ (i := 1) (N := some 7) (v := ?_) (a' := ?_) (bN 55 3) rfl rfl (any_of HT_.out (by kernel_rfl)) (fun _ _ _ h => h) (Or.inl ⟨by rfl, ?_⟩) ?_ ?_
       rotate_left
       ·intro w'
        go_simp
        with_reducible rfl
       rotate_left
       ·simp only [Act.put, List.setIfInBounds_toArray, List.set_cons_zero, List.set_cons_succ, i64_w, i32_w]
        rfl
       refine pure_ (i := 2) (N := some 8) (v := ?_) (a' := ?_) (bN 55 7) rfl rfl (any_of HT_.out (by kernel_rfl)) (fun _ _ _ h => h) (Or.inl ⟨by rfl, ?_⟩) ?_ ?_
       rotate_left
       ·intro w'
        go_simp
        with_reducible rfl
       rotate_left
       ·simp only [Act.put, List.setIfInBounds_toArray, List.set_cons_zero, List.set_cons_succ, i64_w, i32_w]
        rfl
       refine pure_ (i := 4) (N := some 10) (v := ?_) (a' := ?_) (bN 55 23) rfl rfl (any_of HT_.out (by kernel_rfl)) (fun _ _ _ h => h) (Or.inl ⟨by rfl, ?_⟩) ?_ ?_
       rotate_left
       ·intro w'
        go_simp
        with_reducible rfl
       rotate_left
       ·simp only [Act.put, List.setIfInBounds_toArray, List.set_cons_zero, List.set_cons_succ, i64_w, i32_w]
        rfl
       refine pure_ (i := 5) (N := some 11) (v := ?_) (a' := ?_) (bN 55 55) rfl rfl (any_of HT_.out (by kernel_rfl)) (fun _ _ _ h => h) (Or.inl ⟨by rfl, ?_⟩) ?_ ?_
       rotate_left
       ·intro w'
        go_simp
        with_reducible rfl
       rotate_left
       ·simp only [Act.put, List.setIfInBounds_toArray, List.set_cons_zero, List.set_cons_succ, i64_w, i32_w]
        rfl
       refine pure_ (i := 6) (N := some 12) (v := ?_) (a' := ?_) (bN 55 119) rfl rfl (any_of HT_.out (by kernel_rfl)) (fun _ _ _ h => h) (Or.inl ⟨by rfl, ?_⟩) ?_ ?_
       rotate_left
       ·intro w'
        go_simp
        with_reducible rfl
       rotate_left
       ·simp only [Act.put, List.setIfInBounds_toArray, List.set_cons_zero, List.set_cons_succ, i64_w, i32_w]
        rfl
       refine take_ (i := 3) (N := some 9) (v := ?_) (a' := ?_) (bN 55 127) rfl rfl (take_ofW HT_.out HW_.out (by kernel_rfl)) (fun _ _ _ h => h) (Or.inl ⟨by rfl, ?_⟩) hHeld ?_ ?_
       rotate_left
       ·rintro w' ⟨s0, s1, s2, s3, s4, s5, s6, s7, s8, s9, s10, s11, s12, s13, s14, s15, s16, s17, s18, s19, s20, s21, s22, s23, s24, s25, s26, s27, s28, s29, s30, s31, s32, s33, s34, s35, s36, s37, s38, s39, s40, s41, s42, s43, s44, s45, s46, s47, s48, s49, s50, s51, s52, s53, s54, s55, s56, s57, s58, s59, s60, s61, s62, s63, s64, s65, s66, s67, s68, s69, s70, s71, s72, s73, s74, s75, s76, s77, s78, s79⟩
        go_simp
        with_reducible rfl
       rotate_left
       ·simp only [Act.put, List.setIfInBounds_toArray, List.set_cons_zero, List.set_cons_succ, i64_w, i32_w]
        rfl
       refine take_ (i := 7) (N := some 13) (v := ?_) (a' := ?_) (bN 55 255) rfl rfl (take_ofW HT_.out HW_.out (by kernel_rfl)) (fun _ _ _ h => h) (Or.inl ⟨by rfl, ?_⟩) hHeld ?_ ?_
       rotate_left
       ·rintro w' ⟨s0, s1, s2, s3, s4, s5, s6, s7, s8, s9, s10, s11, s12, s13, s14, s15, s16, s17, s18, s19, s20, s21, s22, s23, s24, s25, s26, s27, s28, s29, s30, s31, s32, s33, s34, s35, s36, s37, s38, s39, s40, s41, s42, s43, s44, s45, s46, s47, s48, s49, s50, s51, s52, s53, s54, s55, s56, s57, s58, s59, s60, s61, s62, s63, s64, s65, s66, s67, s68, s69, s70, s71, s72, s73, s74, s75, s76, s77, s78, s79⟩
        go_simp
        with_reducible rfl
       rotate_left
       ·simp only [Act.put, List.setIfInBounds_toArray, List.set_cons_zero, List.set_cons_succ, i64_w, i32_w]
        rfl
       refine pure_ (i := 8) (N := some 14) (v := ?_) (a' := ?_) (bN 55 511) rfl rfl (any_of HT_.out (by kernel_rfl)) (fun _ _ _ h => h) (Or.inl ⟨by rfl, ?_⟩) ?_ ?_
       rotate_left
       ·intro w'
        go_simp
        with_reducible rfl
       rotate_left
       ·simp only [Act.put, List.setIfInBounds_toArray, List.set_cons_zero, List.set_cons_succ, i64_w, i32_w]
        rfl
       refine pure_ (i := 9) (N := some 15) (v := ?_) (a' := ?_) (bN 55 1023) rfl rfl (any_of HT_.out (by kernel_rfl)) (fun _ _ _ h => h) (Or.inl ⟨by rfl, ?_⟩) ?_ ?_
       rotate_left
       ·intro w'
        go_simp
        with_reducible rfl
       rotate_left
       ·simp only [Act.put, List.setIfInBounds_toArray, List.set_cons_zero, List.set_cons_succ, i64_w, i32_w]
        rfl
       refine pure_ (i := 10) (N := some 16) (v := ?_) (a' := ?_) (bN 55 2047) rfl rfl (any_of HT_.out (by kernel_rfl)) (fun _ _ _ h => h) (Or.inl ⟨by rfl, ?_⟩) ?_ ?_
       rotate_left
       ·intro w'
        go_simp
        with_reducible rfl
       rotate_left
       ·simp only [Act.put, List.setIfInBounds_toArray, List.set_cons_zero, List.set_cons_succ, i64_w, i32_w]
        rfl
       refine pure_ (i := 11) (N := some 17) (v := ?_) (a' := ?_) (bN 55 4095) rfl rfl (any_of HT_.out (by kernel_rfl)) (fun _ _ _ h => h) (Or.inl ⟨by rfl, ?_⟩) ?_ ?_
       rotate_left
       ·intro w'
        go_simp
        with_reducible rfl
       rotate_left
       ·simp only [Act.put, List.setIfInBounds_toArray, List.set_cons_zero, List.set_cons_succ, i64_w, i32_w]
        rfl
       refine pure_ (i := 12) (N := some 18) (v := ?_) (a' := ?_) (bN 55 8191) rfl rfl (any_of HT_.out (by kernel_rfl)) (fun _ _ _ h => h) (Or.inl ⟨by rfl, ?_⟩) ?_ ?_
       rotate_left
       ·intro w'
        go_simp
        with_reducible rfl
       rotate_left
       ·simp only [Act.put, List.setIfInBounds_toArray, List.set_cons_zero, List.set_cons_succ, i64_w, i32_w]
        rfl
       refine pure_ (i := 14) (N := some 20) (v := ?_) (a' := ?_) (bN 55 24575) rfl rfl (any_of HT_.out (by kernel_rfl)) (fun _ _ _ h => h) (Or.inl ⟨by rfl, ?_⟩) ?_ ?_
       rotate_left
       ·intro w'
        go_simp
        with_reducible rfl
       rotate_left
       ·simp only [Act.put, List.setIfInBounds_toArray, List.set_cons_zero, List.set_cons_succ, i64_w, i32_w]
        rfl
       refine pure_ (i := 15) (N := some 21) (v := ?_) (a' := ?_) (bN 55 57343) rfl rfl (any_of HT_.out (by kernel_rfl)) (fun _ _ _ h => h) (Or.inl ⟨by rfl, ?_⟩) ?_ ?_
       rotate_left
       ·intro w'
        go_simp
        with_reducible rfl
       rotate_left
       ·simp only [Act.put, List.setIfInBounds_toArray, List.set_cons_zero, List.set_cons_succ, i64_w, i32_w]
        rfl
       refine pure_ (i := 16) (N := some 22) (v := ?_) (a' := ?_) (bN 55 122879) rfl rfl (any_of HT_.out (by kernel_rfl)) (fun _ _ _ h => h) (Or.inl ⟨by rfl, ?_⟩) ?_ ?_
       rotate_left
       ·intro w'
        go_simp
        with_reducible rfl
       rotate_left
       ·simp only [Act.put, List.setIfInBounds_toArray, List.set_cons_zero, List.set_cons_succ, i64_w, i32_w]
        rfl
       refine take_ (i := 13) (N := some 19) (v := ?_) (a' := ?_) (bN 55 131071) rfl rfl (take_ofW HT_.out HW_.out (by kernel_rfl)) (fun _ _ _ h => h) (Or.inl ⟨by rfl, ?_⟩) hHeld ?_ ?_
       rotate_left
       ·rintro w' ⟨s0, s1, s2, s3, s4, s5, s6, s7, s8, s9, s10, s11, s12, s13, s14, s15, s16, s17, s18, s19, s20, s21, s22, s23, s24, s25, s26, s27, s28, s29, s30, s31, s32, s33, s34, s35, s36, s37, s38, s39, s40, s41, s42, s43, s44, s45, s46, s47, s48, s49, s50, s51, s52, s53, s54, s55, s56, s57, s58, s59, s60, s61, s62, s63, s64, s65, s66, s67, s68, s69, s70, s71, s72, s73, s74, s75, s76, s77, s78, s79⟩
        go_simp
        with_reducible rfl
       rotate_left
       ·simp only [Act.put, List.setIfInBounds_toArray, List.set_cons_zero, List.set_cons_succ, i64_w, i32_w]
        rfl
       refine take_ (i := 17) (N := some 23) (v := ?_) (a' := ?_) (bN 55 262143) rfl rfl (take_ofW HT_.out HW_.out (by kernel_rfl)) (fun _ _ _ h => h) (Or.inl ⟨by rfl, ?_⟩) hHeld ?_ ?_
       rotate_left
       ·rintro w' ⟨s0, s1, s2, s3, s4, s5, s6, s7, s8, s9, s10, s11, s12, s13, s14, s15, s16, s17, s18, s19, s20, s21, s22, s23, s24, s25, s26, s27, s28, s29, s30, s31, s32, s33, s34, s35, s36, s37, s38, s39, s40, s41, s42, s43, s44, s45, s46, s47, s48, s49, s50, s51, s52, s53, s54, s55, s56, s57, s58, s59, s60, s61, s62, s63, s64, s65, s66, s67, s68, s69, s70, s71, s72, s73, s74, s75, s76, s77, s78, s79⟩
        go_simp
        with_reducible rfl
       rotate_left
       ·simp only [Act.put, List.setIfInBounds_toArray, List.set_cons_zero, List.set_cons_succ, i64_w, i32_w]
        rfl
       refine pure_ (i := 18) (N := some 24) (v := ?_) (a' := ?_) (bN 55 524287) rfl rfl (any_of HT_.out (by kernel_rfl)) (fun _ _ _ h => h) (Or.inl ⟨by rfl, ?_⟩) ?_ ?_
       rotate_left
       ·intro w'
        go_simp
        with_reducible rfl
       rotate_left
       ·simp only [Act.put, List.setIfInBounds_toArray, List.set_cons_zero, List.set_cons_succ, i64_w, i32_w]
        rfl
       refine pure_ (i := 19) (N := some 25) (v := ?_) (a' := ?_) (bN 55 1048575) rfl rfl (any_of HT_.out (by kernel_rfl)) (fun _ _ _ h => h) (Or.inl ⟨by rfl, ?_⟩) ?_ ?_
       rotate_left
       ·intro w'
        go_simp
        with_reducible rfl
       rotate_left
       ·simp only [Act.put, List.setIfInBounds_toArray, List.set_cons_zero, List.set_cons_succ, i64_w, i32_w]
        rfl
       refine pure_ (i := 20) (N := some 26) (v := ?_) (a' := ?_) (bN 55 2097151) rfl rfl (any_of HT_.out (by kernel_rfl)) (fun _ _ _ h => h) (Or.inl ⟨by rfl, ?_⟩) ?_ ?_
       rotate_left
       ·intro w'
        go_simp
        with_reducible rfl
       rotate_left
       ·simp only [Act.put, List.setIfInBounds_toArray, List.set_cons_zero, List.set_cons_succ, i64_w, i32_w]
        rfl
       refine pure_ (i := 21) (N := some 27) (v := ?_) (a' := ?_) (bN 55 4194303) rfl rfl (any_of HT_.out (by kernel_rfl)) (fun _ _ _ h => h) (Or.inl ⟨by rfl, ?_⟩) ?_ ?_
       rotate_left
       ·intro w'
        go_simp
        with_reducible rfl
       rotate_left
       ·simp only [Act.put, List.setIfInBounds_toArray, List.set_cons_zero, List.set_cons_succ, i64_w, i32_w]
        rfl
       refine pure_ (i := 22) (N := some 28) (v := ?_) (a' := ?_) (bN 55 8388607) rfl rfl (any_of HT_.out (by kernel_rfl)) (fun _ _ _ h => h) (Or.inl ⟨by rfl, ?_⟩) ?_ ?_
       rotate_left
       ·intro w'
        go_simp
        with_reducible rfl
       rotate_left
       ·simp only [Act.put, List.setIfInBounds_toArray, List.set_cons_zero, List.set_cons_succ, i64_w, i32_w]
        rfl
       refine pure_ (i := 23) (N := some 29) (v := ?_) (a' := ?_) (bN 55 16777215) rfl rfl (any_of HT_.out (by kernel_rfl)) (fun _ _ _ h => h) (Or.inl ⟨by rfl, ?_⟩) ?_ ?_
       rotate_left
       ·intro w'
        go_simp
        with_reducible rfl
       rotate_left
       ·simp only [Act.put, List.setIfInBounds_toArray, List.set_cons_zero, List.set_cons_succ, i64_w, i32_w]
        rfl
       refine pure_ (i := 25) (N := some 31) (v := ?_) (a' := ?_) (bN 55 50331647) rfl rfl (any_of HT_.out (by kernel_rfl)) (fun _ _ _ h => h) (Or.inl ⟨by rfl, ?_⟩) ?_ ?_
       rotate_left
       ·intro w'
        go_simp
        with_reducible rfl
       rotate_left
       ·simp only [Act.put, List.setIfInBounds_toArray, List.set_cons_zero, List.set_cons_succ, i64_w, i32_w]
        rfl
       refine pure_ (i := 26) (N := some 32) (v := ?_) (a' := ?_) (bN 55 117440511) rfl rfl (any_of HT_.out (by kernel_rfl)) (fun _ _ _ h => h) (Or.inl ⟨by rfl, ?_⟩) ?_ ?_
       rotate_left
       ·intro w'
        go_simp
        with_reducible rfl
       rotate_left
       ·simp only [Act.put, List.setIfInBounds_toArray, List.set_cons_zero, List.set_cons_succ, i64_w, i32_w]
        rfl
       refine pure_ (i := 27) (N := some 33) (v := ?_) (a' := ?_) (bN 55 251658239) rfl rfl (any_of HT_.out (by kernel_rfl)) (fun _ _ _ h => h) (Or.inl ⟨by rfl, ?_⟩) ?_ ?_
       rotate_left
       ·intro w'
        go_simp
        with_reducible rfl
       rotate_left
       ·simp only [Act.put, List.setIfInBounds_toArray, List.set_cons_zero, List.set_cons_succ, i64_w, i32_w]
        rfl
       refine take_ (i := 24) (N := some 30) (v := ?_) (a' := ?_) (bN 55 268435455) rfl rfl (take_ofW HT_.out HW_.out (by kernel_rfl)) (fun _ _ _ h => h) (Or.inl ⟨by rfl, ?_⟩) hHeld ?_ ?_
       rotate_left
       ·rintro w' ⟨s0, s1, s2, s3, s4, s5, s6, s7, s8, s9, s10, s11, s12, s13, s14, s15, s16, s17, s18, s19, s20, s21, s22, s23, s24, s25, s26, s27, s28, s29, s30, s31, s32, s33, s34, s35, s36, s37, s38, s39, s40, s41, s42, s43, s44, s45, s46, s47, s48, s49, s50, s51, s52, s53, s54, s55, s56, s57, s58, s59, s60, s61, s62, s63, s64, s65, s66, s67, s68, s69, s70, s71, s72, s73, s74, s75, s76, s77, s78, s79⟩
        go_simp
        with_reducible rfl
       rotate_left
       ·simp only [Act.put, List.setIfInBounds_toArray, List.set_cons_zero, List.set_cons_succ, i64_w, i32_w]
        rfl
       refine take_ (i := 28) (N := some 34) (v := ?_) (a' := ?_) (bN 55 536870911) rfl rfl (take_ofW HT_.out HW_.out (by kernel_rfl)) (fun _ _ _ h => h) (Or.inl ⟨by rfl, ?_⟩) hHeld ?_ ?_
       rotate_left
       ·rintro w' ⟨s0, s1, s2, s3, s4, s5, s6, s7, s8, s9, s10, s11, s12, s13, s14, s15, s16, s17, s18, s19, s20, s21, s22, s23, s24, s25, s26, s27, s28, s29, s30, s31, s32, s33, s34, s35, s36, s37, s38, s39, s40, s41, s42, s43, s44, s45, s46, s47, s48, s49, s50, s51, s52, s53, s54, s55, s56, s57, s58, s59, s60, s61, s62, s63, s64, s65, s66, s67, s68, s69, s70, s71, s72, s73, s74, s75, s76, s77, s78, s79⟩
        go_simp
        with_reducible rfl
       rotate_left
       ·simp only [Act.put, List.setIfInBounds_toArray, List.set_cons_zero, List.set_cons_succ, i64_w, i32_w]
        rfl
       refine pure_ (i := 29) (N := some 35) (v := ?_) (a' := ?_) (bN 55 1073741823) rfl rfl (any_of HT_.out (by kernel_rfl)) (fun _ _ _ h => h) (Or.inl ⟨by rfl, ?_⟩) ?_ ?_
       rotate_left
       ·intro w'
        go_simp
        with_reducible rfl
       rotate_left
       ·simp only [Act.put, List.setIfInBounds_toArray, List.set_cons_zero, List.set_cons_succ, i64_w, i32_w]
        rfl
       refine pure_ (i := 30) (N := some 36) (v := ?_) (a' := ?_) (bN 55 2147483647) rfl rfl (any_of HT_.out (by kernel_rfl)) (fun _ _ _ h => h) (Or.inl ⟨by rfl, ?_⟩) ?_ ?_
       rotate_left
       ·intro w'
        go_simp
        with_reducible rfl
       rotate_left
       ·simp only [Act.put, List.setIfInBounds_toArray, List.set_cons_zero, List.set_cons_succ, i64_w, i32_w]
        rfl
       refine pure_ (i := 31) (N := some 37) (v := ?_) (a' := ?_) (bN 55 4294967295) rfl rfl (any_of HT_.out (by kernel_rfl)) (fun _ _ _ h => h) (Or.inl ⟨by rfl, ?_⟩) ?_ ?_
       rotate_left
       ·intro w'
        go_simp
        with_reducible rfl
       rotate_left
       ·simp only [Act.put, List.setIfInBounds_toArray, List.set_cons_zero, List.set_cons_succ, i64_w, i32_w]
        rfl
       refine pure_ (i := 32) (N := some 38) (v := ?_) (a' := ?_) (bN 55 8589934591) rfl rfl (any_of HT_.out (by kernel_rfl)) (fun _ _ _ h => h) (Or.inl ⟨by rfl, ?_⟩) ?_ ?_
       rotate_left
       ·intro w'
        go_simp
        with_reducible rfl
       rotate_left
       ·simp only [Act.put, List.setIfInBounds_toArray, List.set_cons_zero, List.set_cons_succ, i64_w, i32_w]
        rfl
       refine pure_ (i := 33) (N := some 39) (v := ?_) (a' := ?_) (bN 55 17179869183) rfl rfl (any_of HT_.out (by kernel_rfl)) (fun _ _ _ h => h) (Or.inl ⟨by rfl, ?_⟩) ?_ ?_
       rotate_left
       ·intro w'
        go_simp
        with_reducible rfl
       rotate_left
       ·simp only [Act.put, List.setIfInBounds_toArray, List.set_cons_zero, List.set_cons_succ, i64_w, i32_w]
        rfl
       refine pure_ (i := 34) (N := some 40) (v := ?_) (a' := ?_) (bN 55 34359738367) rfl rfl (any_of HT_.out (by kernel_rfl)) (fun _ _ _ h => h) (Or.inl ⟨by rfl, ?_⟩) ?_ ?_
       rotate_left
       ·intro w'
        go_simp
        with_reducible rfl
       rotate_left
       ·simp only [Act.put, List.setIfInBounds_toArray, List.set_cons_zero, List.set_cons_succ, i64_w, i32_w]
        rfl
       refine pure_ (i := 36) (N := some 42) (v := ?_) (a' := ?_) (bN 55 103079215103) rfl rfl (any_of HT_.out (by kernel_rfl)) (fun _ _ _ h => h) (Or.inl ⟨by rfl, ?_⟩) ?_ ?_
       rotate_left
       ·intro w'
        go_simp
        with_reducible rfl
       rotate_left
       ·simp only [Act.put, List.setIfInBounds_toArray, List.set_cons_zero, List.set_cons_succ, i64_w, i32_w]
        rfl
       refine pure_ (i := 37) (N := some 43) (v := ?_) (a' := ?_) (bN 55 240518168575) rfl rfl (any_of HT_.out (by kernel_rfl)) (fun _ _ _ h => h) (Or.inl ⟨by rfl, ?_⟩) ?_ ?_
       rotate_left
       ·intro w'
        go_simp
        with_reducible rfl
       rotate_left
       ·simp only [Act.put, List.setIfInBounds_toArray, List.set_cons_zero, List.set_cons_succ, i64_w, i32_w]
        rfl
       refine pure_ (i := 38) (N := some 44) (v := ?_) (a' := ?_) (bN 55 515396075519) rfl rfl (any_of HT_.out (by kernel_rfl)) (fun _ _ _ h => h) (Or.inl ⟨by rfl, ?_⟩) ?_ ?_
       rotate_left
       ·intro w'
        go_simp
        with_reducible rfl
       rotate_left
       ·simp only [Act.put, List.setIfInBounds_toArray, List.set_cons_zero, List.set_cons_succ, i64_w, i32_w]
        rfl
       refine take_ (i := 35) (N := some 41) (v := ?_) (a' := ?_) (bN 55 549755813887) rfl rfl (take_ofW HT_.out HW_.out (by kernel_rfl)) (fun _ _ _ h => h) (Or.inl ⟨by rfl, ?_⟩) hHeld ?_ ?_
       rotate_left
       ·rintro w' ⟨s0, s1, s2, s3, s4, s5, s6, s7, s8, s9, s10, s11, s12, s13, s14, s15, s16, s17, s18, s19, s20, s21, s22, s23, s24, s25, s26, s27, s28, s29, s30, s31, s32, s33, s34, s35, s36, s37, s38, s39, s40, s41, s42, s43, s44, s45, s46, s47, s48, s49, s50, s51, s52, s53, s54, s55, s56, s57, s58, s59, s60, s61, s62, s63, s64, s65, s66, s67, s68, s69, s70, s71, s72, s73, s74, s75, s76, s77, s78, s79⟩
        go_simp
        with_reducible rfl
       rotate_left
       ·simp only [Act.put, List.setIfInBounds_toArray, List.set_cons_zero, List.set_cons_succ, i64_w, i32_w]
        rfl
       refine take_ (i := 39) (N := some 45) (v := ?_) (a' := ?_) (bN 55 1099511627775) rfl rfl (take_ofW HT_.out HW_.out (by kernel_rfl)) (fun _ _ _ h => h) (Or.inl ⟨by rfl, ?_⟩) hHeld ?_ ?_
       rotate_left
       ·rintro w' ⟨s0, s1, s2, s3, s4, s5, s6, s7, s8, s9, s10, s11, s12, s13, s14, s15, s16, s17, s18, s19, s20, s21, s22, s23, s24, s25, s26, s27, s28, s29, s30, s31, s32, s33, s34, s35, s36, s37, s38, s39, s40, s41, s42, s43, s44, s45, s46, s47, s48, s49, s50, s51, s52, s53, s54, s55, s56, s57, s58, s59, s60, s61, s62, s63, s64, s65, s66, s67, s68, s69, s70, s71, s72, s73, s74, s75, s76, s77, s78, s79⟩
        go_simp
        with_reducible rfl
       rotate_left
       ·simp only [Act.put, List.setIfInBounds_toArray, List.set_cons_zero, List.set_cons_succ, i64_w, i32_w]
        rfl
       refine pure_ (i := 40) (N := some 46) (v := ?_) (a' := ?_) (bN 55 2199023255551) rfl rfl (any_of HT_.out (by kernel_rfl)) (fun _ _ _ h => h) (Or.inl ⟨by rfl, ?_⟩) ?_ ?_
       rotate_left
       ·intro w'
        go_simp
        with_reducible rfl
       rotate_left
       ·simp only [Act.put, List.setIfInBounds_toArray, List.set_cons_zero, List.set_cons_succ, i64_w, i32_w]
        rfl
       refine pure_ (i := 41) (N := some 47) (v := ?_) (a' := ?_) (bN 55 4398046511103) rfl rfl (any_of HT_.out (by kernel_rfl)) (fun _ _ _ h => h) (Or.inl ⟨by rfl, ?_⟩) ?_ ?_
       rotate_left
       ·intro w'
        go_simp
        with_reducible rfl
       rotate_left
       ·simp only [Act.put, List.setIfInBounds_toArray, List.set_cons_zero, List.set_cons_succ, i64_w, i32_w]
        rfl
       refine pure_ (i := 42) (N := some 48) (v := ?_) (a' := ?_) (bN 55 8796093022207) rfl rfl (any_of HT_.out (by kernel_rfl)) (fun _ _ _ h => h) (Or.inl ⟨by rfl, ?_⟩) ?_ ?_
       rotate_left
       ·intro w'
        go_simp
        with_reducible rfl
       rotate_left
       ·simp only [Act.put, List.setIfInBounds_toArray, List.set_cons_zero, List.set_cons_succ, i64_w, i32_w]
        rfl
       refine pure_ (i := 43) (N := some 49) (v := ?_) (a' := ?_) (bN 55 17592186044415) rfl rfl (any_of HT_.out (by kernel_rfl)) (fun _ _ _ h => h) (Or.inl ⟨by rfl, ?_⟩) ?_ ?_
       rotate_left
       ·intro w'
        go_simp
        with_reducible rfl
       rotate_left
       ·simp only [Act.put, List.setIfInBounds_toArray, List.set_cons_zero, List.set_cons_succ, i64_w, i32_w]
        rfl
       refine pure_ (i := 44) (N := some 50) (v := ?_) (a' := ?_) (bN 55 35184372088831) rfl rfl (any_of HT_.out (by kernel_rfl)) (fun _ _ _ h => h) (Or.inl ⟨by rfl, ?_⟩) ?_ ?_
       rotate_left
       ·intro w'
        go_simp
        with_reducible rfl
       rotate_left
       ·simp only [Act.put, List.setIfInBounds_toArray, List.set_cons_zero, List.set_cons_succ, i64_w, i32_w]
        rfl
       refine pure_ (i := 45) (N := some 51) (v := ?_) (a' := ?_) (bN 55 70368744177663) rfl rfl (any_of HT_.out (by kernel_rfl)) (fun _ _ _ h => h) (Or.inl ⟨by rfl, ?_⟩) ?_ ?_
       rotate_left
       ·intro w'
        go_simp
        with_reducible rfl
       rotate_left
       ·simp only [Act.put, List.setIfInBounds_toArray, List.set_cons_zero, List.set_cons_succ, i64_w, i32_w]
        rfl
       refine pure_ (i := 48) (N := some 54) (v := ?_) (a' := ?_) (bN 55 351843720888319) rfl rfl (any_of HT_.out (by kernel_rfl)) (fun _ _ _ h => h) (Or.inl ⟨by rfl, ?_⟩) ?_ ?_
       rotate_left
       ·intro w'
        go_simp
        with_reducible rfl
       rotate_left
       ·simp only [Act.put, List.setIfInBounds_toArray, List.set_cons_zero, List.set_cons_succ, i64_w, i32_w]
        rfl
       refine pure_ (i := 49) (N := some 55) (v := ?_) (a' := ?_) (bN 55 914793674309631) rfl rfl (any_of HT_.out (by kernel_rfl)) (fun _ _ _ h => h) (Or.inl ⟨by rfl, ?_⟩) ?_ ?_
       rotate_left
       ·intro w'
        go_simp
        with_reducible rfl
       rotate_left
       ·simp only [Act.put, List.setIfInBounds_toArray, List.set_cons_zero, List.set_cons_succ, i64_w, i32_w]
        rfl
       refine pure_ (i := 50) (N := some 56) (v := ?_) (a' := ?_) (bN 55 2040693581152255) rfl rfl (any_of HT_.out (by kernel_rfl)) (fun _ _ _ h => h) (Or.inl ⟨by rfl, ?_⟩) ?_ ?_
       rotate_left
       ·intro w'
        go_simp
        with_reducible rfl
       rotate_left
       ·simp only [Act.put, List.setIfInBounds_toArray, List.set_cons_zero, List.set_cons_succ, i64_w, i32_w]
        rfl
       refine take_ (i := 46) (N := some 52) (v := ?_) (a' := ?_) (bN 55 2111062325329919) rfl rfl (take_ofW HT_.out HW_.out (by kernel_rfl)) (fun _ _ _ h => h) (Or.inl ⟨by rfl, ?_⟩) hHeld ?_ ?_
       rotate_left
       ·rintro w' ⟨s0, s1, s2, s3, s4, s5, s6, s7, s8, s9, s10, s11, s12, s13, s14, s15, s16, s17, s18, s19, s20, s21, s22, s23, s24, s25, s26, s27, s28, s29, s30, s31, s32, s33, s34, s35, s36, s37, s38, s39, s40, s41, s42, s43, s44, s45, s46, s47, s48, s49, s50, s51, s52, s53, s54, s55, s56, s57, s58, s59, s60, s61, s62, s63, s64, s65, s66, s67, s68, s69, s70, s71, s72, s73, s74, s75, s76, s77, s78, s79⟩
        go_simp
        with_reducible rfl
       rotate_left
       ·simp only [Act.put, List.setIfInBounds_toArray, List.set_cons_zero, List.set_cons_succ, i64_w, i32_w]
        rfl
       refine pure_ (i := 47) (N := some 53) (v := ?_) (a' := ?_) (bN 55 2251799813685247) rfl rfl (any_of HT_.out (by kernel_rfl)) (fun _ _ _ h => h) (Or.inl ⟨by rfl, ?_⟩) ?_ ?_
       rotate_left
       ·intro w'
        go_simp
        with_reducible rfl
       rotate_left
       ·simp only [Act.put, List.setIfInBounds_toArray, List.set_cons_zero, List.set_cons_succ, i64_w, i32_w]
        rfl
       refine take_ (i := 51) (N := some 57) (v := ?_) (a' := ?_) (bN 55 4503599627370495) rfl rfl (take_ofW HT_.out HW_.out (by kernel_rfl)) (fun _ _ _ h => h) (Or.inl ⟨by rfl, ?_⟩) hHeld ?_ ?_
       rotate_left
       ·rintro w' ⟨s0, s1, s2, s3, s4, s5, s6, s7, s8, s9, s10, s11, s12, s13, s14, s15, s16, s17, s18, s19, s20, s21, s22, s23, s24, s25, s26, s27, s28, s29, s30, s31, s32, s33, s34, s35, s36, s37, s38, s39, s40, s41, s42, s43, s44, s45, s46, s47, s48, s49, s50, s51, s52, s53, s54, s55, s56, s57, s58, s59, s60, s61, s62, s63, s64, s65, s66, s67, s68, s69, s70, s71, s72, s73, s74, s75, s76, s77, s78, s79⟩
        go_simp
        with_reducible rfl
       rotate_left
       ·simp only [Act.put, List.setIfInBounds_toArray, List.set_cons_zero, List.set_cons_succ, i64_w, i32_w]
        rfl
       refine pure_ (i := 52) (N := some 58) (v := ?_) (a' := ?_) (bN 55 9007199254740991) rfl rfl (any_of HT_.out (by kernel_rfl)) (fun _ _ _ h => h) (Or.inl ⟨by rfl, ?_⟩) ?_ ?_
       rotate_left
       ·intro w'
        go_simp
        with_reducible rfl
       rotate_left
       ·simp only [Act.put, List.setIfInBounds_toArray, List.set_cons_zero, List.set_cons_succ, i64_w, i32_w]
        rfl
       refine pure_ (i := 53) (N := some 59) (v := ?_) (a' := ?_) (bN 55 18014398509481983) rfl rfl (any_of HT_.out (by kernel_rfl)) (fun _ _ _ h => h) (Or.inl ⟨by rfl, ?_⟩) ?_ ?_
       rotate_left
       ·intro w'
        go_simp
        with_reducible rfl
       rotate_left
       ·simp only [Act.put, List.setIfInBounds_toArray, List.set_cons_zero, List.set_cons_succ, i64_w, i32_w]
        rfl
       refine pure_ (i := 54) (N := some 60) (v := ?_) (a' := ?_) (bN 55 36028797018963967) rfl rfl (any_of HT_.out (by kernel_rfl)) (fun _ _ _ h => h) (Or.inl ⟨by rfl, ?_⟩) ?_ ?_
       rotate_left
       ·intro w'
        go_simp
        with_reducible rfl
       rotate_left
       ·simp only [Act.put, List.setIfInBounds_toArray, List.set_cons_zero, List.set_cons_succ, i64_w, i32_w]
        rfl
       refine done_ (done_of HT_.out (by kernel_rfl)) ?_
       try go_wp2
       go_meet
       case rel => exact ⟨_, (((((rd_T57 l0 0).f4).length : Int) != (((rd_T57 l1 0).f4).length : Int))), sr, H', ⟨by first | omega | exact Nat.le_refl _⟩, ⟨sb⟩⟩
      rw [if_neg c8] at H
      have c8b0 : (((rd_T57 l0 0).f2).toList == ((rd_T57 l1 0).f2).toList) = false := beq_eq_false_iff_ne.mpr c8
      have c8b1 : (((rd_T57 l0 0).f2).toList != ((rd_T57 l1 0).f2).toList) = true := bne_iff_ne.mpr c8
      have H' := Aside0.mk H
      clear H
      try go_wp2
      have n0_ := Aside0.mk (below_drew1 HB.out)
      clear HB
      have HB := n0_
      clear n0_
      have p135 : 0 ≤ (0 : Int) := (by omega)
      have q135 : 0 < (l0.length : Int) := of_decide_eq_true (by first | (with_reducible assumption) | assumption)
      obtain ⟨ad135, A135_7, c135_7, e135, hx135_0, hx135_1, hx135_2, hx135_3, hx135_4, hx135_5, hx135_6, hx135_7, hl135_7, hi135_7⟩ := at_T57 HR0.out 0 p135 q135
      have hw135_7 := hx135_7
      (try rw [sZ] at hw135_7)
      have hw135_6 := hx135_6
      (try rw [sZ] at hw135_6)
      have hw135_5 := hx135_5
      (try rw [sZ] at hw135_5)
      have hw135_4 := hx135_4
      (try rw [sZ] at hw135_4)
      have hw135_3 := hx135_3
      (try rw [sZ] at hw135_3)
      have hw135_2 := hx135_2
      (try rw [sZ] at hw135_2)
      have hw135_1 := hx135_1
      (try rw [sZ] at hw135_1)
      have hw135_0 := hx135_0
      (try rw [sZ] at hw135_0)
      cases e135
      have qi135 : (0 < l0.length) = True := eq_true (by omega)
      (try rw [sZ] at hx135_0)
      (try rw [sZ] at hx135_1)
      (try rw [sZ] at hx135_2)
      (try rw [sZ] at hx135_3)
      (try rw [sZ] at hx135_4)
      (try rw [sZ] at hx135_5)
      (try rw [sZ] at hx135_6)
      (try rw [sZ] at hx135_7)
      replace hx135_0 := sX HB hx135_0
      replace hx135_1 := sX HB hx135_1
      replace hx135_2 := sX HB hx135_2
      replace hx135_3 := sX HB hx135_3
      replace hx135_4 := sX HB hx135_4
      replace hx135_5 := sX HB hx135_5
      replace hx135_6 := sX HB hx135_6
      replace hx135_7 := sX HB hx135_7
      have HR135_7 := Aside0.mk hi135_7
      have HC135_7 := Aside0.mk hl135_7
      clear hi135_7 hl135_7
      replace p135 := eq_true p135
      replace q135 := eq_true q135
      have p136 : 0 ≤ (0 : Int) := (by omega)
      have q136 : 0 < (l1.length : Int) := of_decide_eq_true (by first | (with_reducible assumption) | assumption)
      obtain ⟨ad136, A136_7, c136_7, e136, hx136_0, hx136_1, hx136_2, hx136_3, hx136_4, hx136_5, hx136_6, hx136_7, hl136_7, hi136_7⟩ := at_T57 HR1.out 0 p136 q136
      have hw136_7 := hx136_7
      (try rw [sZ] at hw136_7)
      have hw136_6 := hx136_6
      (try rw [sZ] at hw136_6)
      have hw136_5 := hx136_5
      (try rw [sZ] at hw136_5)
      have hw136_4 := hx136_4
      (try rw [sZ] at hw136_4)
      have hw136_3 := hx136_3
      (try rw [sZ] at hw136_3)
      have hw136_2 := hx136_2
      (try rw [sZ] at hw136_2)
      have hw136_1 := hx136_1
      (try rw [sZ] at hw136_1)
      have hw136_0 := hx136_0
      (try rw [sZ] at hw136_0)
      cases e136
      have qi136 : (0 < l1.length) = True := eq_true (by omega)
      (try rw [sZ] at hx136_0)
      (try rw [sZ] at hx136_1)
      (try rw [sZ] at hx136_2)
      (try rw [sZ] at hx136_3)
      (try rw [sZ] at hx136_4)
      (try rw [sZ] at hx136_5)
      (try rw [sZ] at hx136_6)
      (try rw [sZ] at hx136_7)
      replace hx136_0 := sX HB hx136_0
      replace hx136_1 := sX HB hx136_1
      replace hx136_2 := sX HB hx136_2
      replace hx136_3 := sX HB hx136_3
      replace hx136_4 := sX HB hx136_4
      replace hx136_5 := sX HB hx136_5
      replace hx136_6 := sX HB hx136_6
      replace hx136_7 := sX HB hx136_7
      have HR136_7 := Aside0.mk hi136_7
      have HC136_7 := Aside0.mk hl136_7
      clear hi136_7 hl136_7
      replace p136 := eq_true p136
      replace q136 := eq_true q136
      have p137 : 0 ≤ (0 : Int) := (by omega)
      have q137 : 0 < (l0.length : Int) := of_decide_eq_true (by first | (with_reducible assumption) | assumption)
      obtain ⟨ad137, A137_7, c137_7, e137, hx137_0, hx137_1, hx137_2, hx137_3, hx137_4, hx137_5, hx137_6, hx137_7, hl137_7, hi137_7⟩ := at_T57 HR0.out 0 p137 q137
      have hw137_7 := hx137_7
      (try rw [sZ] at hw137_7)
      have hw137_6 := hx137_6
      (try rw [sZ] at hw137_6)
      have hw137_5 := hx137_5
      (try rw [sZ] at hw137_5)
      have hw137_4 := hx137_4
      (try rw [sZ] at hw137_4)
      have hw137_3 := hx137_3
      (try rw [sZ] at hw137_3)
      have hw137_2 := hx137_2
      (try rw [sZ] at hw137_2)
      have hw137_1 := hx137_1
      (try rw [sZ] at hw137_1)
      have hw137_0 := hx137_0
      (try rw [sZ] at hw137_0)
      obtain rfl : ad135 = ad137 := (by injection e137)
      have qi137 : (0 < l0.length) = True := eq_true (by omega)
      (try rw [sZ] at hx137_0)
      (try rw [sZ] at hx137_1)
      (try rw [sZ] at hx137_2)
      (try rw [sZ] at hx137_3)
      (try rw [sZ] at hx137_4)
      (try rw [sZ] at hx137_5)
      (try rw [sZ] at hx137_6)
      (try rw [sZ] at hx137_7)
      replace hx137_0 := sX HB hx137_0
      replace hx137_1 := sX HB hx137_1
      replace hx137_2 := sX HB hx137_2
      replace hx137_3 := sX HB hx137_3
      replace hx137_4 := sX HB hx137_4
      replace hx137_5 := sX HB hx137_5
      replace hx137_6 := sX HB hx137_6
      replace hx137_7 := sX HB hx137_7
      have HR137_7 := Aside0.mk hi137_7
      have HC137_7 := Aside0.mk hl137_7
      clear hi137_7 hl137_7
      replace p137 := eq_true p137
      replace q137 := eq_true q137
      have ea_ := Option.some.inj (hx135_7.symm.trans hx137_7)
      injection ea_ with ea_ en_ ec_
      subst ea_
      subst ec_
      clear en_
      have p138 : 0 ≤ (0 : Int) := (by omega)
      have q138 : 0 < (l1.length : Int) := of_decide_eq_true (by first | (with_reducible assumption) | assumption)
      obtain ⟨ad138, A138_7, c138_7, e138, hx138_0, hx138_1, hx138_2, hx138_3, hx138_4, hx138_5, hx138_6, hx138_7, hl138_7, hi138_7⟩ := at_T57 HR1.out 0 p138 q138
      have hw138_7 := hx138_7
      (try rw [sZ] at hw138_7)
      have hw138_6 := hx138_6
      (try rw [sZ] at hw138_6)
      have hw138_5 := hx138_5
      (try rw [sZ] at hw138_5)
      have hw138_4 := hx138_4
      (try rw [sZ] at hw138_4)
      have hw138_3 := hx138_3
      (try rw [sZ] at hw138_3)
      have hw138_2 := hx138_2
      (try rw [sZ] at hw138_2)
      have hw138_1 := hx138_1
      (try rw [sZ] at hw138_1)
      have hw138_0 := hx138_0
      (try rw [sZ] at hw138_0)
      obtain rfl : ad136 = ad138 := (by injection e138)
      have qi138 : (0 < l1.length) = True := eq_true (by omega)
      (try rw [sZ] at hx138_0)
      (try rw [sZ] at hx138_1)
      (try rw [sZ] at hx138_2)
      (try rw [sZ] at hx138_3)
      (try rw [sZ] at hx138_4)
      (try rw [sZ] at hx138_5)
      (try rw [sZ] at hx138_6)
      (try rw [sZ] at hx138_7)
      replace hx138_0 := sX HB hx138_0
      replace hx138_1 := sX HB hx138_1
      replace hx138_2 := sX HB hx138_2
      replace hx138_3 := sX HB hx138_3
      replace hx138_4 := sX HB hx138_4
      replace hx138_5 := sX HB hx138_5
      replace hx138_6 := sX HB hx138_6
      replace hx138_7 := sX HB hx138_7
      have HR138_7 := Aside0.mk hi138_7
      have HC138_7 := Aside0.mk hl138_7
      clear hi138_7 hl138_7
      replace p138 := eq_true p138
      replace q138 := eq_true q138
      have ea_ := Option.some.inj (hx136_7.symm.trans hx138_7)
      injection ea_ with ea_ en_ ec_
      subst ea_
      subst ec_
      clear en_
      have p139 : 0 ≤ (0 : Int) := (by omega)
      have q139 : 0 < (l0.length : Int) := of_decide_eq_true (by first | (with_reducible assumption) | assumption)
      obtain ⟨ad139, A139_7, c139_7, e139, hx139_0, hx139_1, hx139_2, hx139_3, hx139_4, hx139_5, hx139_6, hx139_7, hl139_7, hi139_7⟩ := at_T57 HR0.out 0 p139 q139
      have hw139_7 := hx139_7
      (try rw [sZ] at hw139_7)
      have hw139_6 := hx139_6
      (try rw [sZ] at hw139_6)
      have hw139_5 := hx139_5
      (try rw [sZ] at hw139_5)
      have hw139_4 := hx139_4
      (try rw [sZ] at hw139_4)
      have hw139_3 := hx139_3
      (try rw [sZ] at hw139_3)
      have hw139_2 := hx139_2
      (try rw [sZ] at hw139_2)
      have hw139_1 := hx139_1
      (try rw [sZ] at hw139_1)
      have hw139_0 := hx139_0
      (try rw [sZ] at hw139_0)
      obtain rfl : ad135 = ad139 := (by injection e139)
      have qi139 : (0 < l0.length) = True := eq_true (by omega)
      (try rw [sZ] at hx139_0)
      (try rw [sZ] at hx139_1)
      (try rw [sZ] at hx139_2)
      (try rw [sZ] at hx139_3)
      (try rw [sZ] at hx139_4)
      (try rw [sZ] at hx139_5)
      (try rw [sZ] at hx139_6)
      (try rw [sZ] at hx139_7)
      replace hx139_0 := sX HB hx139_0
      replace hx139_1 := sX HB hx139_1
      replace hx139_2 := sX HB hx139_2
      replace hx139_3 := sX HB hx139_3
      replace hx139_4 := sX HB hx139_4
      replace hx139_5 := sX HB hx139_5
      replace hx139_6 := sX HB hx139_6
      replace hx139_7 := sX HB hx139_7
      have HR139_7 := Aside0.mk hi139_7
      have HC139_7 := Aside0.mk hl139_7
      clear hi139_7 hl139_7
      replace p139 := eq_true p139
      replace q139 := eq_true q139
      have ea_ := Option.some.inj (hx135_7.symm.trans hx139_7)
      injection ea_ with ea_ en_ ec_
      subst ea_
      subst ec_
      clear en_
      have p140 : 0 ≤ (0 : Int) := (by omega)
      have q140 : 0 < (l1.length : Int) := of_decide_eq_true (by first | (with_reducible assumption) | assumption)
      obtain ⟨ad140, A140_7, c140_7, e140, hx140_0, hx140_1, hx140_2, hx140_3, hx140_4, hx140_5, hx140_6, hx140_7, hl140_7, hi140_7⟩ := at_T57 HR1.out 0 p140 q140
      have hw140_7 := hx140_7
      (try rw [sZ] at hw140_7)
      have hw140_6 := hx140_6
      (try rw [sZ] at hw140_6)
      have hw140_5 := hx140_5
      (try rw [sZ] at hw140_5)
      have hw140_4 := hx140_4
      (try rw [sZ] at hw140_4)
      have hw140_3 := hx140_3
      (try rw [sZ] at hw140_3)
      have hw140_2 := hx140_2
      (try rw [sZ] at hw140_2)
      have hw140_1 := hx140_1
      (try rw [sZ] at hw140_1)
      have hw140_0 := hx140_0
      (try rw [sZ] at hw140_0)
      obtain rfl : ad136 = ad140 := (by injection e140)
      have qi140 : (0 < l1.length) = True := eq_true (by omega)
      (try rw [sZ] at hx140_0)
      (try rw [sZ] at hx140_1)
      (try rw [sZ] at hx140_2)
      (try rw [sZ] at hx140_3)
      (try rw [sZ] at hx140_4)
      (try rw [sZ] at hx140_5)
      (try rw [sZ] at hx140_6)
      (try rw [sZ] at hx140_7)
      replace hx140_0 := sX HB hx140_0
      replace hx140_1 := sX HB hx140_1
      replace hx140_2 := sX HB hx140_2
      replace hx140_3 := sX HB hx140_3
      replace hx140_4 := sX HB hx140_4
      replace hx140_5 := sX HB hx140_5
      replace hx140_6 := sX HB hx140_6
      replace hx140_7 := sX HB hx140_7
      have HR140_7 := Aside0.mk hi140_7
      have HC140_7 := Aside0.mk hl140_7
      clear hi140_7 hl140_7
      replace p140 := eq_true p140
      replace q140 := eq_true q140
      have ea_ := Option.some.inj (hx136_7.symm.trans hx140_7)
      injection ea_ with ea_ en_ ec_
      subst ea_
      subst ec_
      clear en_
      refine start_ (n := 55) (S := fun w' => w'.cell? ad135 = some (.int .i64 ((rd_T57 l0 0).f0)) ∧ w'.cell? ⟨ad135.block, ad135.off + 1, none⟩ = some (.int .i64 ((rd_T57 l0 0).f1)) ∧ w'.cell? ⟨ad135.block, ad135.off + 2, none⟩ = some (.string ((rd_T57 l0 0).f2)) ∧ w'.cell? ⟨ad135.block, ad135.off + 3, none⟩ = some (.int .i64 ((rd_T57 l0 0).f3.f0)) ∧ w'.cell? ⟨ad135.block, ad135.off + 4, none⟩ = some (.int .i64 ((rd_T57 l0 0).f3.f1)) ∧ w'.cell? ⟨ad135.block, ad135.off + 5, none⟩ = some (.string ((rd_T57 l0 0).f3.f2)) ∧ w'.cell? ⟨ad135.block, ad135.off + 6, none⟩ = some (.int .i64 ((rd_T57 l0 0).f3.f3)) ∧ w'.cell? ⟨ad135.block, ad135.off + 7, none⟩ = some (.slice A135_7 ((rd_T57 l0 0).f4).length c135_7) ∧ w'.cell? ad136 = some (.int .i64 ((rd_T57 l1 0).f0)) ∧ w'.cell? ⟨ad136.block, ad136.off + 1, none⟩ = some (.int .i64 ((rd_T57 l1 0).f1)) ∧ w'.cell? ⟨ad136.block, ad136.off + 2, none⟩ = some (.string ((rd_T57 l1 0).f2)) ∧ w'.cell? ⟨ad136.block, ad136.off + 3, none⟩ = some (.int .i64 ((rd_T57 l1 0).f3.f0)) ∧ w'.cell? ⟨ad136.block, ad136.off + 4, none⟩ = some (.int .i64 ((rd_T57 l1 0).f3.f1)) ∧ w'.cell? ⟨ad136.block, ad136.off + 5, none⟩ = some (.string ((rd_T57 l1 0).f3.f2)) ∧ w'.cell? ⟨ad136.block, ad136.off + 6, none⟩ = some (.int .i64 ((rd_T57 l1 0).f3.f3)) ∧ w'.cell? ⟨ad136.block, ad136.off + 7, none⟩ = some (.slice A136_7 ((rd_T57 l1 0).f4).length c136_7) ∧ w'.cell? ad135 = some (.int .i64 ((rd_T57 l0 0).f0)) ∧ w'.cell? ⟨ad135.block, ad135.off + 1, none⟩ = some (.int .i64 ((rd_T57 l0 0).f1)) ∧ w'.cell? ⟨ad135.block, ad135.off + 2, none⟩ = some (.string ((rd_T57 l0 0).f2)) ∧ w'.cell? ⟨ad135.block, ad135.off + 3, none⟩ = some (.int .i64 ((rd_T57 l0 0).f3.f0)) ∧ w'.cell? ⟨ad135.block, ad135.off + 4, none⟩ = some (.int .i64 ((rd_T57 l0 0).f3.f1)) ∧ w'.cell? ⟨ad135.block, ad135.off + 5, none⟩ = some (.string ((rd_T57 l0 0).f3.f2)) ∧ w'.cell? ⟨ad135.block, ad135.off + 6, none⟩ = some (.int .i64 ((rd_T57 l0 0).f3.f3)) ∧ w'.cell? ⟨ad135.block, ad135.off + 7, none⟩ = some (.slice A135_7 ((rd_T57 l0 0).f4).length c135_7) ∧ w'.cell? ad136 = some (.int .i64 ((rd_T57 l1 0).f0)) ∧ w'.cell? ⟨ad136.block, ad136.off + 1, none⟩ = some (.int .i64 ((rd_T57 l1 0).f1)) ∧ w'.cell? ⟨ad136.block, ad136.off + 2, none⟩ = some (.string ((rd_T57 l1 0).f2)) ∧ w'.cell? ⟨ad136.block, ad136.off + 3, none⟩ = some (.int .i64 ((rd_T57 l1 0).f3.f0)) ∧ w'.cell? ⟨ad136.block, ad136.off + 4, none⟩ = some (.int .i64 ((rd_T57 l1 0).f3.f1)) ∧ w'.cell? ⟨ad136.block, ad136.off + 5, none⟩ = some (.string ((rd_T57 l1 0).f3.f2)) ∧ w'.cell? ⟨ad136.block, ad136.off + 6, none⟩ = some (.int .i64 ((rd_T57 l1 0).f3.f3)) ∧ w'.cell? ⟨ad136.block, ad136.off + 7, none⟩ = some (.slice A136_7 ((rd_T57 l1 0).f4).length c136_7) ∧ w'.cell? ad135 = some (.int .i64 ((rd_T57 l0 0).f0)) ∧ w'.cell? ⟨ad135.block, ad135.off + 1, none⟩ = some (.int .i64 ((rd_T57 l0 0).f1)) ∧ w'.cell? ⟨ad135.block, ad135.off + 2, none⟩ = some (.string ((rd_T57 l0 0).f2)) ∧ w'.cell? ⟨ad135.block, ad135.off + 3, none⟩ = some (.int .i64 ((rd_T57 l0 0).f3.f0)) ∧ w'.cell? ⟨ad135.block, ad135.off + 4, none⟩ = some (.int .i64 ((rd_T57 l0 0).f3.f1)) ∧ w'.cell? ⟨ad135.block, ad135.off + 5, none⟩ = some (.string ((rd_T57 l0 0).f3.f2)) ∧ w'.cell? ⟨ad135.block, ad135.off + 6, none⟩ = some (.int .i64 ((rd_T57 l0 0).f3.f3)) ∧ w'.cell? ⟨ad135.block, ad135.off + 7, none⟩ = some (.slice A135_7 ((rd_T57 l0 0).f4).length c135_7) ∧ w'.cell? ad136 = some (.int .i64 ((rd_T57 l1 0).f0)) ∧ w'.cell? ⟨ad136.block, ad136.off + 1, none⟩ = some (.int .i64 ((rd_T57 l1 0).f1)) ∧ w'.cell? ⟨ad136.block, ad136.off + 2, none⟩ = some (.string ((rd_T57 l1 0).f2)) ∧ w'.cell? ⟨ad136.block, ad136.off + 3, none⟩ = some (.int .i64 ((rd_T57 l1 0).f3.f0)) ∧ w'.cell? ⟨ad136.block, ad136.off + 4, none⟩ = some (.int .i64 ((rd_T57 l1 0).f3.f1)) ∧ w'.cell? ⟨ad136.block, ad136.off + 5, none⟩ = some (.string ((rd_T57 l1 0).f3.f2)) ∧ w'.cell? ⟨ad136.block, ad136.off + 6, none⟩ = some (.int .i64 ((rd_T57 l1 0).f3.f3)) ∧ w'.cell? ⟨ad136.block, ad136.off + 7, none⟩ = some (.slice A136_7 ((rd_T57 l1 0).f4).length c136_7)) (ds := []) #[false, false, false, false, false, false, false, false, false, false, false, false, false, false, false, false, false, false, false, false, false, false, false, false, false, false, false, false, false, false, false, false, false, false, false, false, false, false, false, false, false, false, false, false, false, false, false, false, false, false, false, false, false, false, false] (by kernel_rfl) rfl rfl ⟨((HB.out.cell (World.block_lt_of_cell? w _ hw135_0)).trans hw135_0), ((HB.out.cell (World.block_lt_of_cell? w _ hw135_1)).trans hw135_1), ((HB.out.cell (World.block_lt_of_cell? w _ hw135_2)).trans hw135_2), ((HB.out.cell (World.block_lt_of_cell? w _ hw135_3)).trans hw135_3), ((HB.out.cell (World.block_lt_of_cell? w _ hw135_4)).trans hw135_4), ((HB.out.cell (World.block_lt_of_cell? w _ hw135_5)).trans hw135_5), ((HB.out.cell (World.block_lt_of_cell? w _ hw135_6)).trans hw135_6), ((HB.out.cell (World.block_lt_of_cell? w _ hw135_7)).trans hw135_7), ((HB.out.cell (World.block_lt_of_cell? w _ hw136_0)).trans hw136_0), ((HB.out.cell (World.block_lt_of_cell? w _ hw136_1)).trans hw136_1), ((HB.out.cell (World.block_lt_of_cell? w _ hw136_2)).trans hw136_2), ((HB.out.cell (World.block_lt_of_cell? w _ hw136_3)).trans hw136_3), ((HB.out.cell (World.block_lt_of_cell? w _ hw136_4)).trans hw136_4), ((HB.out.cell (World.block_lt_of_cell? w _ hw136_5)).trans hw136_5), ((HB.out.cell (World.block_lt_of_cell? w _ hw136_6)).trans hw136_6), ((HB.out.cell (World.block_lt_of_cell? w _ hw136_7)).trans hw136_7), ((HB.out.cell (World.block_lt_of_cell? w _ hw137_0)).trans hw137_0), ((HB.out.cell (World.block_lt_of_cell? w _ hw137_1)).trans hw137_1), ((HB.out.cell (World.block_lt_of_cell? w _ hw137_2)).trans hw137_2), ((HB.out.cell (World.block_lt_of_cell? w _ hw137_3)).trans hw137_3), ((HB.out.cell (World.block_lt_of_cell? w _ hw137_4)).trans hw137_4), ((HB.out.cell (World.block_lt_of_cell? w _ hw137_5)).trans hw137_5), ((HB.out.cell (World.block_lt_of_cell? w _ hw137_6)).trans hw137_6), ((HB.out.cell (World.block_lt_of_cell? w _ hw137_7)).trans hw137_7), ((HB.out.cell (World.block_lt_of_cell? w _ hw138_0)).trans hw138_0), ((HB.out.cell (World.block_lt_of_cell? w _ hw138_1)).trans hw138_1), ((HB.out.cell (World.block_lt_of_cell? w _ hw138_2)).trans hw138_2), ((HB.out.cell (World.block_lt_of_cell? w _ hw138_3)).trans hw138_3), ((HB.out.cell (World.block_lt_of_cell? w _ hw138_4)).trans hw138_4), ((HB.out.cell (World.block_lt_of_cell? w _ hw138_5)).trans hw138_5), ((HB.out.cell (World.block_lt_of_cell? w _ hw138_6)).trans hw138_6), ((HB.out.cell (World.block_lt_of_cell? w _ hw138_7)).trans hw138_7), ((HB.out.cell (World.block_lt_of_cell? w _ hw139_0)).trans hw139_0), ((HB.out.cell (World.block_lt_of_cell? w _ hw139_1)).trans hw139_1), ((HB.out.cell (World.block_lt_of_cell? w _ hw139_2)).trans hw139_2), ((HB.out.cell (World.block_lt_of_cell? w _ hw139_3)).trans hw139_3), ((HB.out.cell (World.block_lt_of_cell? w _ hw139_4)).trans hw139_4), ((HB.out.cell (World.block_lt_of_cell? w _ hw139_5)).trans hw139_5), ((HB.out.cell (World.block_lt_of_cell? w _ hw139_6)).trans hw139_6), ((HB.out.cell (World.block_lt_of_cell? w _ hw139_7)).trans hw139_7), ((HB.out.cell (World.block_lt_of_cell? w _ hw140_0)).trans hw140_0), ((HB.out.cell (World.block_lt_of_cell? w _ hw140_1)).trans hw140_1), ((HB.out.cell (World.block_lt_of_cell? w _ hw140_2)).trans hw140_2), ((HB.out.cell (World.block_lt_of_cell? w _ hw140_3)).trans hw140_3), ((HB.out.cell (World.block_lt_of_cell? w _ hw140_4)).trans hw140_4), ((HB.out.cell (World.block_lt_of_cell? w _ hw140_5)).trans hw140_5), ((HB.out.cell (World.block_lt_of_cell? w _ hw140_6)).trans hw140_6), ((HB.out.cell (World.block_lt_of_cell? w _ hw140_7)).trans hw140_7)⟩ (fun hHeld => ?_); refine with_tabW spec_l22Same.tab1 spec_l22Same.bits1 (fun HT_ HW_ => ?_)
      generalize w.drew = w12 at HB HR135_7 HR136_7 HR137_7 HR138_7 HR139_7 HR140_7 hx135_0 hx135_1 hx135_2 hx135_3 hx135_4 hx135_5 hx135_6 hx135_7 hx136_0 hx136_1 hx136_2 hx136_3 hx136_4 hx136_5 hx136_6 hx136_7 hx137_0 hx137_1 hx137_2 hx137_3 hx137_4 hx137_5 hx137_6 hx137_7 hx138_0 hx138_1 hx138_2 hx138_3 hx138_4 hx138_5 hx138_6 hx138_7 hx139_0 hx139_1 hx139_2 hx139_3 hx139_4 hx139_5 hx139_6 hx139_7 hx140_0 hx140_1 hx140_2 hx140_3 hx140_4 hx140_5 hx140_6 hx140_7 hHeld ⊢
      refine pure_ (i := 0) (N := some 6) (v := ?_) (a' := ?_) (bN 55 1) rfl rfl (any_of HT_.out (by kernel_rfl)) (fun _ _ _ h => h) (Or.inl ⟨by rfl, ?_⟩) ?_ ?_
      rotate_left
      ·intro w'
       go_simp
       with_reducible rfl
      rotate_left
      ·simp only [Act.put, List.setIfInBounds_toArray, List.set_cons_zero, List.set_cons_succ, i64_w, i32_w]
       rfl
      refine pure_ (i := 1) (N := some 7) (v := ?_) (a' := ?_) (bN 55 3) rfl rfl (any_of HT_.out (by kernel_rfl)) (fun _ _ _ h => h) (Or.inl ⟨by rfl, ?_⟩) ?_ ?_
      rotate_left
      ·intro w'
       go_simp
       with_reducible rfl
      rotate_left
      ·simp only [Act.put, List.setIfInBounds_toArray, List.set_cons_zero, List.set_cons_succ, i64_w, i32_w]
       rfl
      refine pure_ (i := 2) (N := some 8) (v := ?_) (a' := ?_) (bN 55 7) rfl rfl (any_of HT_.out (by kernel_rfl)) (fun _ _ _ h => h) (Or.inl ⟨by rfl, ?_⟩) ?_ ?_
      rotate_left
      ·intro w'
       go_simp
       with_reducible rfl
      rotate_left
      ·simp only [Act.put, List.setIfInBounds_toArray, List.set_cons_zero, List.set_cons_succ, i64_w, i32_w]
       rfl
      refine pure_ (i := 4) (N := some 10) (v := ?_) (a' := ?_) (bN 55 23) rfl rfl (any_of HT_.out (by kernel_rfl)) (fun _ _ _ h => h) (Or.inl ⟨by rfl, ?_⟩) ?_ ?_
      rotate_left
      ·intro w'
       go_simp
       with_reducible rfl
      rotate_left
      ·simp only [Act.put, List.setIfInBounds_toArray, List.set_cons_zero, List.set_cons_succ, i64_w, i32_w]
       rfl
      refine pure_ (i := 5) (N := some 11) (v := ?_) (a' := ?_) (bN 55 55) rfl rfl (any_of HT_.out (by kernel_rfl)) (fun _ _ _ h => h) (Or.inl ⟨by rfl, ?_⟩) ?_ ?_
      rotate_left
      ·intro w'
       go_simp
       with_reducible rfl
      rotate_left
      ·simp only [Act.put, List.setIfInBounds_toArray, List.set_cons_zero, List.set_cons_succ, i64_w, i32_w]
       rfl
      refine pure_ (i := 6) (N := some 12) (v := ?_) (a' := ?_) (bN 55 119) rfl rfl (any_of HT_.out (by kernel_rfl)) (fun _ _ _ h => h) (Or.inl ⟨by rfl, ?_⟩) ?_ ?_
      rotate_left
      ·intro w'
       go_simp
       with_reducible rfl
      rotate_left
      ·simp only [Act.put, List.setIfInBounds_toArray, List.set_cons_zero, List.set_cons_succ, i64_w, i32_w]
       rfl
      refine take_ (i := 3) (N := some 9) (v := ?_) (a' := ?_) (bN 55 127) rfl rfl (take_ofW HT_.out HW_.out (by kernel_rfl)) (fun _ _ _ h => h) (Or.inl ⟨by rfl, ?_⟩) hHeld ?_ ?_
      rotate_left
      ·rintro w' ⟨s0, s1, s2, s3, s4, s5, s6, s7, s8, s9, s10, s11, s12, s13, s14, s15, s16, s17, s18, s19, s20, s21, s22, s23, s24, s25, s26, s27, s28, s29, s30, s31, s32, s33, s34, s35, s36, s37, s38, s39, s40, s41, s42, s43, s44, s45, s46, s47⟩
       go_simp
       with_reducible rfl
      rotate_left
      ·simp only [Act.put, List.setIfInBounds_toArray, List.set_cons_zero, List.set_cons_succ, i64_w, i32_w]
       rfl
      refine take_ (i := 7) (N := some 13) (v := ?_) (a' := ?_) (bN 55 255) rfl rfl (take_ofW HT_.out HW_.out (by kernel_rfl)) (fun _ _ _ h => h) (Or.inl ⟨by rfl, ?_⟩) hHeld ?_ ?_
      rotate_left
      ·rintro w' ⟨s0, s1, s2, s3, s4, s5, s6, s7, s8, s9, s10, s11, s12, s13, s14, s15, s16, s17, s18, s19, s20, s21, s22, s23, s24, s25, s26, s27, s28, s29, s30, s31, s32, s33, s34, s35, s36, s37, s38, s39, s40, s41, s42, s43, s44, s45, s46, s47⟩
       go_simp
       with_reducible rfl
      rotate_left
      ·simp only [Act.put, List.setIfInBounds_toArray, List.set_cons_zero, List.set_cons_succ, i64_w, i32_w]
       rfl
      refine pure_ (i := 8) (N := some 14) (v := ?_) (a' := ?_) (bN 55 511) rfl rfl (any_of HT_.out (by kernel_rfl)) (fun _ _ _ h => h) (Or.inl ⟨by rfl, ?_⟩) ?_ ?_
      rotate_left
      ·intro w'
       go_simp
       with_reducible rfl
      rotate_left
      ·simp only [Act.put, List.setIfInBounds_toArray, List.set_cons_zero, List.set_cons_succ, i64_w, i32_w]
       rfl
      refine pure_ (i := 9) (N := some 15) (v := ?_) (a' := ?_) (bN 55 1023) rfl rfl (any_of HT_.out (by kernel_rfl)) (fun _ _ _ h => h) (Or.inl ⟨by rfl, ?_⟩) ?_ ?_
      rotate_left
      ·intro w'
       go_simp
       with_reducible rfl
      rotate_left
      ·simp only [Act.put, List.setIfInBounds_toArray, List.set_cons_zero, List.set_cons_succ, i64_w, i32_w]
       rfl
      refine pure_ (i := 10) (N := some 16) (v := ?_) (a' := ?_) (bN 55 2047) rfl rfl (any_of HT_.out (by kernel_rfl)) (fun _ _ _ h => h) (Or.inl ⟨by rfl, ?_⟩) ?_ ?_
      rotate_left
      ·intro w'
       go_simp
       with_reducible rfl
      rotate_left
      ·simp only [Act.put, List.setIfInBounds_toArray, List.set_cons_zero, List.set_cons_succ, i64_w, i32_w]
       rfl
      refine pure_ (i := 11) (N := some 17) (v := ?_) (a' := ?_) (bN 55 4095) rfl rfl (any_of HT_.out (by kernel_rfl)) (fun _ _ _ h => h) (Or.inl ⟨by rfl, ?_⟩) ?_ ?_
      rotate_left
      ·intro w'
       go_simp
       with_reducible rfl
      rotate_left
      ·simp only [Act.put, List.setIfInBounds_toArray, List.set_cons_zero, List.set_cons_succ, i64_w, i32_w]
       rfl
      refine pure_ (i := 12) (N := some 18) (v := ?_) (a' := ?_) (bN 55 8191) rfl rfl (any_of HT_.out (by kernel_rfl)) (fun _ _ _ h => h) (Or.inl ⟨by rfl, ?_⟩) ?_ ?_
      rotate_left
      ·intro w'
       go_simp
       with_reducible rfl
      rotate_left
      ·simp only [Act.put, List.setIfInBounds_toArray, List.set_cons_zero, List.set_cons_succ, i64_w, i32_w]
       rfl
      refine pure_ (i := 14) (N := some 20) (v := ?_) (a' := ?_) (bN 55 24575) rfl rfl (any_of HT_.out (by kernel_rfl)) (fun _ _ _ h => h) (Or.inl ⟨by rfl, ?_⟩) ?_ ?_
      rotate_left
      ·intro w'
       go_simp
       with_reducible rfl
      rotate_left
      ·simp only [Act.put, List.setIfInBounds_toArray, List.set_cons_zero, List.set_cons_succ, i64_w, i32_w]
       rfl
      refine pure_ (i := 15) (N := some 21) (v := ?_) (a' := ?_) (bN 55 57343) rfl rfl (any_of HT_.out (by kernel_rfl)) (fun _ _ _ h => h) (Or.inl ⟨by rfl, ?_⟩) ?_ ?_
      rotate_left
      ·intro w'
       go_simp
       with_reducible rfl
      rotate_left
      ·simp only [Act.put, List.setIfInBounds_toArray, List.set_cons_zero, List.set_cons_succ, i64_w, i32_w]
       rfl
      refine pure_ (i := 16) (N := some 22) (v := ?_) (a' := ?_) (bN 55 122879) rfl rfl (any_of HT_.out (by kernel_rfl)) (fun _ _ _ h => h) (Or.inl ⟨by rfl, ?_⟩) ?_ ?_
      rotate_left
      ·intro w'
       go_simp
       with_reducible rfl
      rotate_left
      ·simp only [Act.put, List.setIfInBounds_toArray, List.set_cons_zero, List.set_cons_succ, i64_w, i32_w]
       rfl
      refine take_ (i := 13) (N := some 19) (v := ?_) (a' := ?_) (bN 55 131071) rfl rfl (take_ofW HT_.out HW_.out (by kernel_rfl)) (fun _ _ _ h => h) (Or.inl ⟨by rfl, ?_⟩) hHeld ?_ ?_
      rotate_left
      ·rintro w' ⟨s0, s1, s2, s3, s4, s5, s6, s7, s8, s9, s10, s11, s12, s13, s14, s15, s16, s17, s18, s19, s20, s21, s22, s23, s24, s25, s26, s27, s28, s29, s30, s31, s32, s33, s34, s35, s36, s37, s38, s39, s40, s41, s42, s43, s44, s45, s46, s47⟩
       go_simp
       with_reducible rfl
      rotate_left
      ·simp only [Act.put, List.setIfInBounds_toArray, List.set_cons_zero, List.set_cons_succ, i64_w, i32_w]
       rfl
      refine take_ (i := 17) (N := some 23) (v := ?_) (a' := ?_) (bN 55 262143) rfl rfl (take_ofW HT_.out HW_.out (by kernel_rfl)) (fun _ _ _ h => h) (Or.inl ⟨by rfl, ?_⟩) hHeld ?_ ?_
      rotate_left
      ·rintro w' ⟨s0, s1, s2, s3, s4, s5, s6, s7, s8, s9, s10, s11, s12, s13, s14, s15, s16, s17, s18, s19, s20, s21, s22, s23, s24, s25, s26, s27, s28, s29, s30, s31, s32, s33, s34, s35, s36, s37, s38, s39, s40, s41, s42, s43, s44, s45, s46, s47⟩
       go_simp
       with_reducible rfl
      rotate_left
      ·simp only [Act.put, List.setIfInBounds_toArray, List.set_cons_zero, List.set_cons_succ, i64_w, i32_w]
       rfl
      refine pure_ (i := 18) (N := some 24) (v := ?_) (a' := ?_) (bN 55 524287) rfl rfl (any_of HT_.out (by kernel_rfl)) (fun _ _ _ h => h) (Or.inl ⟨by rfl, ?_⟩) ?_ ?_
      rotate_left
      ·intro w'
       go_simp
       with_reducible rfl
      rotate_left
      ·simp only [Act.put, List.setIfInBounds_toArray, List.set_cons_zero, List.set_cons_succ, i64_w, i32_w]
       rfl
      refine pure_ (i := 19) (N := some 25) (v := ?_) (a' := ?_) (bN 55 1048575) rfl rfl (any_of HT_.out (by kernel_rfl)) (fun _ _ _ h => h) (Or.inl ⟨by rfl, ?_⟩) ?_ ?_
      rotate_left
      ·intro w'
       go_simp
       with_reducible rfl
      rotate_left
      ·simp only [Act.put, List.setIfInBounds_toArray, List.set_cons_zero, List.set_cons_succ, i64_w, i32_w]
       rfl
      refine pure_ (i := 20) (N := some 26) (v := ?_) (a' := ?_) (bN 55 2097151) rfl rfl (any_of HT_.out (by kernel_rfl)) (fun _ _ _ h => h) (Or.inl ⟨by rfl, ?_⟩) ?_ ?_
      rotate_left
      ·intro w'
       go_simp
       with_reducible rfl
      rotate_left
      ·simp only [Act.put, List.setIfInBounds_toArray, List.set_cons_zero, List.set_cons_succ, i64_w, i32_w]
       rfl
      refine pure_ (i := 21) (N := some 27) (v := ?_) (a' := ?_) (bN 55 4194303) rfl rfl (any_of HT_.out (by kernel_rfl)) (fun _ _ _ h => h) (Or.inl ⟨by rfl, ?_⟩) ?_ ?_
      rotate_left
      ·intro w'
       go_simp
       with_reducible rfl
      rotate_left
      ·simp only [Act.put, List.setIfInBounds_toArray, List.set_cons_zero, List.set_cons_succ, i64_w, i32_w]
       rfl
      refine pure_ (i := 22) (N := some 28) (v := ?_) (a' := ?_) (bN 55 8388607) rfl rfl (any_of HT_.out (by kernel_rfl)) (fun _ _ _ h => h) (Or.inl ⟨by rfl, ?_⟩) ?_ ?_
      rotate_left
      ·intro w'
       go_simp
       with_reducible rfl
      rotate_left
      ·simp only [Act.put, List.setIfInBounds_toArray, List.set_cons_zero, List.set_cons_succ, i64_w, i32_w]
       rfl
      refine pure_ (i := 23) (N := some 29) (v := ?_) (a' := ?_) (bN 55 16777215) rfl rfl (any_of HT_.out (by kernel_rfl)) (fun _ _ _ h => h) (Or.inl ⟨by rfl, ?_⟩) ?_ ?_
      rotate_left
      ·intro w'
       go_simp
       with_reducible rfl
      rotate_left
      ·simp only [Act.put, List.setIfInBounds_toArray, List.set_cons_zero, List.set_cons_succ, i64_w, i32_w]
       rfl
      refine pure_ (i := 25) (N := some 31) (v := ?_) (a' := ?_) (bN 55 50331647) rfl rfl (any_of HT_.out (by kernel_rfl)) (fun _ _ _ h => h) (Or.inl ⟨by rfl, ?_⟩) ?_ ?_
      rotate_left
      ·intro w'
       go_simp
       with_reducible rfl
      rotate_left
      ·simp only [Act.put, List.setIfInBounds_toArray, List.set_cons_zero, List.set_cons_succ, i64_w, i32_w]
       rfl
      refine pure_ (i := 26) (N := some 32) (v := ?_) (a' := ?_) (bN 55 117440511) rfl rfl (any_of HT_.out (by kernel_rfl)) (fun _ _ _ h => h) (Or.inl ⟨by rfl, ?_⟩) ?_ ?_
      rotate_left
      ·intro w'
       go_simp
       with_reducible rfl
      rotate_left
      ·simp only [Act.put, List.setIfInBounds_toArray, List.set_cons_zero, List.set_cons_succ, i64_w, i32_w]
       rfl
      refine pure_ (i := 27) (N := some 33) (v := ?_) (a' := ?_) (bN 55 251658239) rfl rfl (any_of HT_.out (by kernel_rfl)) (fun _ _ _ h => h) (Or.inl ⟨by rfl, ?_⟩) ?_ ?_
      rotate_left
      ·intro w'
       go_simp
       with_reducible rfl
      rotate_left
      ·simp only [Act.put, List.setIfInBounds_toArray, List.set_cons_zero, List.set_cons_succ, i64_w, i32_w]
       rfl
      refine take_ (i := 24) (N := some 30) (v := ?_) (a' := ?_) (bN 55 268435455) rfl rfl (take_ofW HT_.out HW_.out (by kernel_rfl)) (fun _ _ _ h => h) (Or.inl ⟨by rfl, ?_⟩) hHeld ?_ ?_
      rotate_left
      ·rintro w' ⟨s0, s1, s2, s3, s4, s5, s6, s7, s8, s9, s10, s11, s12, s13, s14, s15, s16, s17, s18, s19, s20, s21, s22, s23, s24, s25, s26, s27, s28, s29, s30, s31, s32, s33, s34, s35, s36, s37, s38, s39, s40, s41, s42, s43, s44, s45, s46, s47⟩
       go_simp
       with_reducible rfl
      rotate_left
      ·simp only [Act.put, List.setIfInBounds_toArray, List.set_cons_zero, List.set_cons_succ, i64_w, i32_w]
       rfl
      refine take_ (i := 28) (N := some 34) (v := ?_) (a' := ?_) (bN 55 536870911) rfl rfl (take_ofW HT_.out HW_.out (by kernel_rfl)) (fun _ _ _ h => h) (Or.inl ⟨by rfl, ?_⟩) hHeld ?_ ?_
      rotate_left
      ·rintro w' ⟨s0, s1, s2, s3, s4, s5, s6, s7, s8, s9, s10, s11, s12, s13, s14, s15, s16, s17, s18, s19, s20, s21, s22, s23, s24, s25, s26, s27, s28, s29, s30, s31, s32, s33, s34, s35, s36, s37, s38, s39, s40, s41, s42, s43, s44, s45, s46, s47⟩
       go_simp
       with_reducible rfl
      rotate_left
      ·simp only [Act.put, List.setIfInBounds_toArray, List.set_cons_zero, List.set_cons_succ, i64_w, i32_w]
       rfl
      refine pure_ (i := 29) (N := some 35) (v := ?_) (a' := ?_) (bN 55 1073741823) rfl rfl (any_of HT_.out (by kernel_rfl)) (fun _ _ _ h => h) (Or.inl ⟨by rfl, ?_⟩) ?_ ?_
      rotate_left
      ·intro w'
       go_simp
       with_reducible rfl
      rotate_left
      ·simp only [Act.put, List.setIfInBounds_toArray, List.set_cons_zero, List.set_cons_succ, i64_w, i32_w]
       rfl
      refine pure_ (i := 30) (N := some 36) (v := ?_) (a' := ?_) (bN 55 2147483647) rfl rfl (any_of HT_.out (by kernel_rfl)) (fun _ _ _ h => h) (Or.inl ⟨by rfl, ?_⟩) ?_ ?_
      rotate_left
      ·intro w'
       go_simp
       with_reducible rfl
      rotate_left
      ·simp only [Act.put, List.setIfInBounds_toArray, List.set_cons_zero, List.set_cons_succ, i64_w, i32_w]
       rfl
      refine pure_ (i := 31) (N := some 37) (v := ?_) (a' := ?_) (bN 55 4294967295) rfl rfl (any_of HT_.out (by kernel_rfl)) (fun _ _ _ h => h) (Or.inl ⟨by rfl, ?_⟩) ?_ ?_
      rotate_left
      ·intro w'
       go_simp
       with_reducible rfl
      rotate_left
      ·simp only [Act.put, List.setIfInBounds_toArray, List.set_cons_zero, List.set_cons_succ, i64_w, i32_w]
       rfl
      refine pure_ (i := 32) (N := some 38) (v := undef) (a' := ?_) (bN 55 8589934591) rfl rfl (any_of HT_.out (by kernel_rfl)) (fun _ _ _ h => h) (Or.inr ⟨by rfl, rfl⟩) ?_ ?_
      rotate_left
      ·simp only [Act.put, List.setIfInBounds_toArray, List.set_cons_zero, List.set_cons_succ, i64_w, i32_w]
       rfl
      refine pure_ (i := 33) (N := some 39) (v := undef) (a' := ?_) (bN 55 17179869183) rfl rfl (any_of HT_.out (by kernel_rfl)) (fun _ _ _ h => h) (Or.inr ⟨by rfl, rfl⟩) ?_ ?_
      rotate_left
      ·simp only [Act.put, List.setIfInBounds_toArray, List.set_cons_zero, List.set_cons_succ, i64_w, i32_w]
       rfl
      refine pure_ (i := 34) (N := some 40) (v := undef) (a' := ?_) (bN 55 34359738367) rfl rfl (any_of HT_.out (by kernel_rfl)) (fun _ _ _ h => h) (Or.inr ⟨by rfl, rfl⟩) ?_ ?_
      rotate_left
      ·simp only [Act.put, List.setIfInBounds_toArray, List.set_cons_zero, List.set_cons_succ, i64_w, i32_w]
       rfl
      refine pure_ (i := 35) (N := some 41) (v := undef) (a' := ?_) (bN 55 68719476735) rfl rfl (any_of HT_.out (by kernel_rfl)) (fun _ _ _ h => h) (Or.inr ⟨by rfl, rfl⟩) ?_ ?_
      rotate_left
      ·simp only [Act.put, List.setIfInBounds_toArray, List.set_cons_zero, List.set_cons_succ, i64_w, i32_w]
       rfl
      refine pure_ (i := 36) (N := some 42) (v := undef) (a' := ?_) (bN 55 137438953471) rfl rfl (any_of HT_.out (by kernel_rfl)) (fun _ _ _ h => h) (Or.inr ⟨by rfl, rfl⟩) ?_ ?_
      rotate_left
      ·simp only [Act.put, List.setIfInBounds_toArray, List.set_cons_zero, List.set_cons_succ, i64_w, i32_w]
       rfl
      refine pure_ (i := 37) (N := some 43) (v := undef) (a' := ?_) (bN 55 274877906943) rfl rfl (any_of HT_.out (by kernel_rfl)) (fun _ _ _ h => h) (Or.inr ⟨by rfl, rfl⟩) ?_ ?_
      rotate_left
      ·simp only [Act.put, List.setIfInBounds_toArray, List.set_cons_zero, List.set_cons_succ, i64_w, i32_w]
       rfl
      refine pure_ (i := 38) (N := some 44) (v := undef) (a' := ?_) (bN 55 549755813887) rfl rfl (any_of HT_.out (by kernel_rfl)) (fun _ _ _ h => h) (Or.inr ⟨by rfl, rfl⟩) ?_ ?_
      rotate_left
      ·simp only [Act.put, List.setIfInBounds_toArray, List.set_cons_zero, List.set_cons_succ, i64_w, i32_w]
       rfl
      refine pure_ (i := 39) (N := some 45) (v := undef) (a' := ?_) (bN 55 1099511627775) rfl rfl (any_of HT_.out (by kernel_rfl)) (fun _ _ _ h => h) (Or.inr ⟨by rfl, rfl⟩) ?_ ?_
      rotate_left
      ·simp only [Act.put, List.setIfInBounds_toArray, List.set_cons_zero, List.set_cons_succ, i64_w, i32_w]
       rfl
      refine pure_ (i := 40) (N := some 46) (v := undef) (a' := ?_) (bN 55 2199023255551) rfl rfl (any_of HT_.out (by kernel_rfl)) (fun _ _ _ h => h) (Or.inr ⟨by rfl, rfl⟩) ?_ ?_
      rotate_left
      ·simp only [Act.put, List.setIfInBounds_toArray, List.set_cons_zero, List.set_cons_succ, i64_w, i32_w]
       rfl
      refine pure_ (i := 41) (N := some 47) (v := ?_) (a' := ?_) (bN 55 4398046511103) rfl rfl (any_of HT_.out (by kernel_rfl)) (fun _ _ _ h => h) (Or.inl ⟨by rfl, ?_⟩) ?_ ?_
      rotate_left
      ·intro w'
       go_simp
       with_reducible rfl
      rotate_left
      ·simp only [Act.put, List.setIfInBounds_toArray, List.set_cons_zero, List.set_cons_succ, i64_w, i32_w]
       rfl
      refine pure_ (i := 42) (N := some 48) (v := ?_) (a' := ?_) (bN 55 8796093022207) rfl rfl (any_of HT_.out (by kernel_rfl)) (fun _ _ _ h => h) (Or.inl ⟨by rfl, ?_⟩) ?_ ?_
      rotate_left
      ·intro w'
       go_simp
       with_reducible rfl
      rotate_left
      ·simp only [Act.put, List.setIfInBounds_toArray, List.set_cons_zero, List.set_cons_succ, i64_w, i32_w]
       rfl
      refine pure_ (i := 43) (N := some 49) (v := undef) (a' := ?_) (bN 55 17592186044415) rfl rfl (any_of HT_.out (by kernel_rfl)) (fun _ _ _ h => h) (Or.inr ⟨by rfl, rfl⟩) ?_ ?_
      rotate_left
      ·simp only [Act.put, List.setIfInBounds_toArray, List.set_cons_zero, List.set_cons_succ, i64_w, i32_w]
       rfl
      refine pure_ (i := 44) (N := some 50) (v := undef) (a' := ?_) (bN 55 35184372088831) rfl rfl (any_of HT_.out (by kernel_rfl)) (fun _ _ _ h => h) (Or.inr ⟨by rfl, rfl⟩) ?_ ?_
      rotate_left
      ·simp only [Act.put, List.setIfInBounds_toArray, List.set_cons_zero, List.set_cons_succ, i64_w, i32_w]
       rfl
      refine pure_ (i := 45) (N := some 51) (v := undef) (a' := ?_) (bN 55 70368744177663) rfl rfl (any_of HT_.out (by kernel_rfl)) (fun _ _ _ h => h) (Or.inr ⟨by rfl, rfl⟩) ?_ ?_
      rotate_left
      ·simp only [Act.put, List.setIfInBounds_toArray, List.set_cons_zero, List.set_cons_succ, i64_w, i32_w]
       rfl
      refine pure_ (i := 46) (N := some 52) (v := undef) (a' := ?_) (bN 55 140737488355327) rfl rfl (any_of HT_.out (by kernel_rfl)) (fun _ _ _ h => h) (Or.inr ⟨by rfl, rfl⟩) ?_ ?_
      rotate_left
      ·simp only [Act.put, List.setIfInBounds_toArray, List.set_cons_zero, List.set_cons_succ, i64_w, i32_w]
       rfl
      refine pure_ (i := 47) (N := some 53) (v := undef) (a' := ?_) (bN 55 281474976710655) rfl rfl (any_of HT_.out (by kernel_rfl)) (fun _ _ _ h => h) (Or.inr ⟨by rfl, rfl⟩) ?_ ?_
      rotate_left
      ·simp only [Act.put, List.setIfInBounds_toArray, List.set_cons_zero, List.set_cons_succ, i64_w, i32_w]
       rfl
      refine pure_ (i := 48) (N := some 54) (v := undef) (a' := ?_) (bN 55 562949953421311) rfl rfl (any_of HT_.out (by kernel_rfl)) (fun _ _ _ h => h) (Or.inr ⟨by rfl, rfl⟩) ?_ ?_
      rotate_left
      ·simp only [Act.put, List.setIfInBounds_toArray, List.set_cons_zero, List.set_cons_succ, i64_w, i32_w]
       rfl
      refine pure_ (i := 49) (N := some 55) (v := undef) (a' := ?_) (bN 55 1125899906842623) rfl rfl (any_of HT_.out (by kernel_rfl)) (fun _ _ _ h => h) (Or.inr ⟨by rfl, rfl⟩) ?_ ?_
      rotate_left
      ·simp only [Act.put, List.setIfInBounds_toArray, List.set_cons_zero, List.set_cons_succ, i64_w, i32_w]
       rfl
      refine pure_ (i := 50) (N := some 56) (v := undef) (a' := ?_) (bN 55 2251799813685247) rfl rfl (any_of HT_.out (by kernel_rfl)) (fun _ _ _ h => h) (Or.inr ⟨by rfl, rfl⟩) ?_ ?_
      rotate_left
      ·simp only [Act.put, List.setIfInBounds_toArray, List.set_cons_zero, List.set_cons_succ, i64_w, i32_w]
       rfl
      refine pure_ (i := 51) (N := some 57) (v := undef) (a' := ?_) (bN 55 4503599627370495) rfl rfl (any_of HT_.out (by kernel_rfl)) (fun _ _ _ h => h) (Or.inr ⟨by rfl, rfl⟩) ?_ ?_
      rotate_left
      ·simp only [Act.put, List.setIfInBounds_toArray, List.set_cons_zero, List.set_cons_succ, i64_w, i32_w]
       rfl
      refine pure_ (i := 52) (N := some 58) (v := undef) (a' := ?_) (bN 55 9007199254740991) rfl rfl (any_of HT_.out (by kernel_rfl)) (fun _ _ _ h => h) (Or.inr ⟨by rfl, rfl⟩) ?_ ?_
      rotate_left
      ·simp only [Act.put, List.setIfInBounds_toArray, List.set_cons_zero, List.set_cons_succ, i64_w, i32_w]
       rfl
      refine pure_ (i := 53) (N := some 59) (v := undef) (a' := ?_) (bN 55 18014398509481983) rfl rfl (any_of HT_.out (by kernel_rfl)) (fun _ _ _ h => h) (Or.inr ⟨by rfl, rfl⟩) ?_ ?_
      rotate_left
      ·simp only [Act.put, List.setIfInBounds_toArray, List.set_cons_zero, List.set_cons_succ, i64_w, i32_w]
       rfl
      refine pure_ (i := 54) (N := some 60) (v := ?_) (a' := ?_) (bN 55 36028797018963967) rfl rfl (any_of HT_.out (by kernel_rfl)) (fun _ _ _ h => h) (Or.inl ⟨by rfl, ?_⟩) ?_ ?_
      rotate_left
      ·intro w'
       go_simp
       with_reducible rfl
      rotate_left
      ·simp only [Act.put, List.setIfInBounds_toArray, List.set_cons_zero, List.set_cons_succ, i64_w, i32_w]
       rfl
      refine done_ (done_of HT_.out (by kernel_rfl)) ?_
      try go_wp2
      go_meet
      case rel => exact ⟨_, (true), sr, H', ⟨by first | omega | exact Nat.le_refl _⟩, ⟨sb⟩⟩
     rw [if_neg c7] at H
     have c7b0 : (((rd_T57 l0 0).f1) == ((rd_T57 l1 0).f1)) = false := beq_eq_false_iff_ne.mpr c7
     have c7b1 : (((rd_T57 l0 0).f1) != ((rd_T57 l1 0).f1)) = true := bne_iff_ne.mpr c7
     have H' := Aside0.mk H
     clear H
     try go_wp2
     have n0_ := Aside0.mk (below_drew1 HB.out)
     clear HB
     have HB := n0_
     clear n0_
     have p135 : 0 ≤ (0 : Int) := (by omega)
     have q135 : 0 < (l0.length : Int) := of_decide_eq_true (by first | (with_reducible assumption) | assumption)
     obtain ⟨ad135, A135_7, c135_7, e135, hx135_0, hx135_1, hx135_2, hx135_3, hx135_4, hx135_5, hx135_6, hx135_7, hl135_7, hi135_7⟩ := at_T57 HR0.out 0 p135 q135
     have hw135_7 := hx135_7
     (try rw [sZ] at hw135_7)
     have hw135_6 := hx135_6
     (try rw [sZ] at hw135_6)
     have hw135_5 := hx135_5
     (try rw [sZ] at hw135_5)
     have hw135_4 := hx135_4
     (try rw [sZ] at hw135_4)
     have hw135_3 := hx135_3
     (try rw [sZ] at hw135_3)
     have hw135_2 := hx135_2
     (try rw [sZ] at hw135_2)
     have hw135_1 := hx135_1
     (try rw [sZ] at hw135_1)
     have hw135_0 := hx135_0
     (try rw [sZ] at hw135_0)
     cases e135
     have qi135 : (0 < l0.length) = True := eq_true (by omega)
     (try rw [sZ] at hx135_0)
     (try rw [sZ] at hx135_1)
     (try rw [sZ] at hx135_2)
     (try rw [sZ] at hx135_3)
     (try rw [sZ] at hx135_4)
     (try rw [sZ] at hx135_5)
     (try rw [sZ] at hx135_6)
     (try rw [sZ] at hx135_7)
     replace hx135_0 := sX HB hx135_0
     replace hx135_1 := sX HB hx135_1
     replace hx135_2 := sX HB hx135_2
     replace hx135_3 := sX HB hx135_3
     replace hx135_4 := sX HB hx135_4
     replace hx135_5 := sX HB hx135_5
     replace hx135_6 := sX HB hx135_6
     replace hx135_7 := sX HB hx135_7
     have HR135_7 := Aside0.mk hi135_7
     have HC135_7 := Aside0.mk hl135_7
     clear hi135_7 hl135_7
     replace p135 := eq_true p135
     replace q135 := eq_true q135
     have p136 : 0 ≤ (0 : Int) := (by omega)
     have q136 : 0 < (l1.length : Int) := of_decide_eq_true (by first | (with_reducible assumption) | assumption)
     obtain ⟨ad136, A136_7, c136_7, e136, hx136_0, hx136_1, hx136_2, hx136_3, hx136_4, hx136_5, hx136_6, hx136_7, hl136_7, hi136_7⟩ := at_T57 HR1.out 0 p136 q136
     have hw136_7 := hx136_7
     (try rw [sZ] at hw136_7)
     have hw136_6 := hx136_6
     (try rw [sZ] at hw136_6)
     have hw136_5 := hx136_5
     (try rw [sZ] at hw136_5)
     have hw136_4 := hx136_4
     (try rw [sZ] at hw136_4)
     have hw136_3 := hx136_3
     (try rw [sZ] at hw136_3)
     have hw136_2 := hx136_2
     (try rw [sZ] at hw136_2)
     have hw136_1 := hx136_1
     (try rw [sZ] at hw136_1)
     have hw136_0 := hx136_0
     (try rw [sZ] at hw136_0)
     cases e136
     have qi136 : (0 < l1.length) = True := eq_true (by omega)
     (try rw [sZ] at hx136_0)
     (try rw [sZ] at hx136_1)
     (try rw [sZ] at hx136_2)
     (try rw [sZ] at hx136_3)
     (try rw [sZ] at hx136_4)
     (try rw [sZ] at hx136_5)
     (try rw [sZ] at hx136_6)
     (try rw [sZ] at hx136_7)
     replace hx136_0 := sX HB hx136_0
     replace hx136_1 := sX HB hx136_1
     replace hx136_2 := sX HB hx136_2
     replace hx136_3 := sX HB hx136_3
     replace hx136_4 := sX HB hx136_4
     replace hx136_5 := sX HB hx136_5
     replace hx136_6 := sX HB hx136_6
     replace hx136_7 := sX HB hx136_7
     have HR136_7 := Aside0.mk hi136_7
     have HC136_7 := Aside0.mk hl136_7
     clear hi136_7 hl136_7
     replace p136 := eq_true p136
     replace q136 := eq_true q136
     have p137 : 0 ≤ (0 : Int) := (by omega)
     have q137 : 0 < (l0.length : Int) := of_decide_eq_true (by first | (with_reducible assumption) | assumption)
     obtain ⟨ad137, A137_7, c137_7, e137, hx137_0, hx137_1, hx137_2, hx137_3, hx137_4, hx137_5, hx137_6, hx137_7, hl137_7, hi137_7⟩ := at_T57 HR0.out 0 p137 q137
     have hw137_7 := hx137_7
     (try rw [sZ] at hw137_7)
     have hw137_6 := hx137_6
     (try rw [sZ] at hw137_6)
     have hw137_5 := hx137_5
     (try rw [sZ] at hw137_5)
     have hw137_4 := hx137_4
     (try rw [sZ] at hw137_4)
     have hw137_3 := hx137_3
     (try rw [sZ] at hw137_3)
     have hw137_2 := hx137_2
     (try rw [sZ] at hw137_2)
     have hw137_1 := hx137_1
     (try rw [sZ] at hw137_1)
     have hw137_0 := hx137_0
     (try rw [sZ] at hw137_0)
     obtain rfl : ad135 = ad137 := (by injection e137)
     have qi137 : (0 < l0.length) = True := eq_true (by omega)
     (try rw [sZ] at hx137_0)
     (try rw [sZ] at hx137_1)
     (try rw [sZ] at hx137_2)
     (try rw [sZ] at hx137_3)
     (try rw [sZ] at hx137_4)
     (try rw [sZ] at hx137_5)
     (try rw [sZ] at hx137_6)
     (try rw [sZ] at hx137_7)
     replace hx137_0 := sX HB hx137_0
     replace hx137_1 := sX HB hx137_1
     replace hx137_2 := sX HB hx137_2
     replace hx137_3 := sX HB hx137_3
     replace hx137_4 := sX HB hx137_4
     replace hx137_5 := sX HB hx137_5
     replace hx137_6 := sX HB hx137_6
     replace hx137_7 := sX HB hx137_7
     have HR137_7 := Aside0.mk hi137_7
     have HC137_7 := Aside0.mk hl137_7
     clear hi137_7 hl137_7
     replace p137 := eq_true p137
     replace q137 := eq_true q137
     have ea_ := Option.some.inj (hx135_7.symm.trans hx137_7)
     injection ea_ with ea_ en_ ec_
     subst ea_
     subst ec_
     clear en_
     have p138 : 0 ≤ (0 : Int) := (by omega)
     have q138 : 0 < (l1.length : Int) := of_decide_eq_true (by first | (with_reducible assumption) | assumption)
     obtain ⟨ad138, A138_7, c138_7, e138, hx138_0, hx138_1, hx138_2, hx138_3, hx138_4, hx138_5, hx138_6, hx138_7, hl138_7, hi138_7⟩ := at_T57 HR1.out 0 p138 q138
     have hw138_7 := hx138_7
     (try rw [sZ] at hw138_7)
     have hw138_6 := hx138_6
     (try rw [sZ] at hw138_6)
     have hw138_5 := hx138_5
     (try rw [sZ] at hw138_5)
     have hw138_4 := hx138_4
     (try rw [sZ] at hw138_4)
     have hw138_3 := hx138_3
     (try rw [sZ] at hw138_3)
     have hw138_2 := hx138_2
     (try rw [sZ] at hw138_2)
     have hw138_1 := hx138_1
     (try rw [sZ] at hw138_1)
     have hw138_0 := hx138_0
     (try rw [sZ] at hw138_0)
     obtain rfl : ad136 = ad138 := (by injection e138)
     have qi138 : (0 < l1.length) = True := eq_true (by omega)
     (try rw [sZ] at hx138_0)
     (try rw [sZ] at hx138_1)
     (try rw [sZ] at hx138_2)
     (try rw [sZ] at hx138_3)
     (try rw [sZ] at hx138_4)
     (try rw [sZ] at hx138_5)
     (try rw [sZ] at hx138_6)
     (try rw [sZ] at hx138_7)
     replace hx138_0 := sX HB hx138_0
     replace hx138_1 := sX HB hx138_1
     replace hx138_2 := sX HB hx138_2
     replace hx138_3 := sX HB hx138_3
     replace hx138_4 := sX HB hx138_4
     replace hx138_5 := sX HB hx138_5
     replace hx138_6 := sX HB hx138_6
     replace hx138_7 := sX HB hx138_7
     have HR138_7 := Aside0.mk hi138_7
     have HC138_7 := Aside0.mk hl138_7
     clear hi138_7 hl138_7
     replace p138 := eq_true p138
     replace q138 := eq_true q138
     have ea_ := Option.some.inj (hx136_7.symm.trans hx138_7)
     injection ea_ with ea_ en_ ec_
     subst ea_
     subst ec_
     clear en_
     refine start_ (n := 55) (S := fun w' => w'.cell? ad135 = some (.int .i64 ((rd_T57 l0 0).f0)) ∧ w'.cell? ⟨ad135.block, ad135.off + 1, none⟩ = some (.int .i64 ((rd_T57 l0 0).f1)) ∧ w'.cell? ⟨ad135.block, ad135.off + 2, none⟩ = some (.string ((rd_T57 l0 0).f2)) ∧ w'.cell? ⟨ad135.block, ad135.off + 3, none⟩ = some (.int .i64 ((rd_T57 l0 0).f3.f0)) ∧ w'.cell? ⟨ad135.block, ad135.off + 4, none⟩ = some (.int .i64 ((rd_T57 l0 0).f3.f1)) ∧ w'.cell? ⟨ad135.block, ad135.off + 5, none⟩ = some (.string ((rd_T57 l0 0).f3.f2)) ∧ w'.cell? ⟨ad135.block, ad135.off + 6, none⟩ = some (.int .i64 ((rd_T57 l0 0).f3.f3)) ∧ w'.cell? ⟨ad135.block, ad135.off + 7, none⟩ = some (.slice A135_7 ((rd_T57 l0 0).f4).length c135_7) ∧ w'.cell? ad136 = some (.int .i64 ((rd_T57 l1 0).f0)) ∧ w'.cell? ⟨ad136.block, ad136.off + 1, none⟩ = some (.int .i64 ((rd_T57 l1 0).f1)) ∧ w'.cell? ⟨ad136.block, ad136.off + 2, none⟩ = some (.string ((rd_T57 l1 0).f2)) ∧ w'.cell? ⟨ad136.block, ad136.off + 3, none⟩ = some (.int .i64 ((rd_T57 l1 0).f3.f0)) ∧ w'.cell? ⟨ad136.block, ad136.off + 4, none⟩ = some (.int .i64 ((rd_T57 l1 0).f3.f1)) ∧ w'.cell? ⟨ad136.block, ad136.off + 5, none⟩ = some (.string ((rd_T57 l1 0).f3.f2)) ∧ w'.cell? ⟨ad136.block, ad136.off + 6, none⟩ = some (.int .i64 ((rd_T57 l1 0).f3.f3)) ∧ w'.cell? ⟨ad136.block, ad136.off + 7, none⟩ = some (.slice A136_7 ((rd_T57 l1 0).f4).length c136_7) ∧ w'.cell? ad135 = some (.int .i64 ((rd_T57 l0 0).f0)) ∧ w'.cell? ⟨ad135.block, ad135.off + 1, none⟩ = some (.int .i64 ((rd_T57 l0 0).f1)) ∧ w'.cell? ⟨ad135.block, ad135.off + 2, none⟩ = some (.string ((rd_T57 l0 0).f2)) ∧ w'.cell? ⟨ad135.block, ad135.off + 3, none⟩ = some (.int .i64 ((rd_T57 l0 0).f3.f0)) ∧ w'.cell? ⟨ad135.block, ad135.off + 4, none⟩ = some (.int .i64 ((rd_T57 l0 0).f3.f1)) ∧ w'.cell? ⟨ad135.block, ad135.off + 5, none⟩ = some (.string ((rd_T57 l0 0).f3.f2)) ∧ w'.cell? ⟨ad135.block, ad135.off + 6, none⟩ = some (.int .i64 ((rd_T57 l0 0).f3.f3)) ∧ w'.cell? ⟨ad135.block, ad135.off + 7, none⟩ = some (.slice A135_7 ((rd_T57 l0 0).f4).length c135_7) ∧ w'.cell? ad136 = some (.int .i64 ((rd_T57 l1 0).f0)) ∧ w'.cell? ⟨ad136.block, ad136.off + 1, none⟩ = some (.int .i64 ((rd_T57 l1 0).f1)) ∧ w'.cell? ⟨ad136.block, ad136.off + 2, none⟩ = some (.string ((rd_T57 l1 0).f2)) ∧ w'.cell? ⟨ad136.block, ad136.off + 3, none⟩ = some (.int .i64 ((rd_T57 l1 0).f3.f0)) ∧ w'.cell? ⟨ad136.block, ad136.off + 4, none⟩ = some (.int .i64 ((rd_T57 l1 0).f3.f1)) ∧ w'.cell? ⟨ad136.block, ad136.off + 5, none⟩ = some (.string ((rd_T57 l1 0).f3.f2)) ∧ w'.cell? ⟨ad136.block, ad136.off + 6, none⟩ = some (.int .i64 ((rd_T57 l1 0).f3.f3)) ∧ w'.cell? ⟨ad136.block, ad136.off + 7, none⟩ = some (.slice A136_7 ((rd_T57 l1 0).f4).length c136_7)) (ds := []) #[false, false, false, false, false, false, false, false, false, false, false, false, false, false, false, false, false, false, false, false, false, false, false, false, false, false, false, false, false, false, false, false, false, false, false, false, false, false, false, false, false, false, false, false, false, false, false, false, false, false, false, false, false, false, false] (by kernel_rfl) rfl rfl ⟨((HB.out.cell (World.block_lt_of_cell? w _ hw135_0)).trans hw135_0), ((HB.out.cell (World.block_lt_of_cell? w _ hw135_1)).trans hw135_1), ((HB.out.cell (World.block_lt_of_cell? w _ hw135_2)).trans hw135_2), ((HB.out.cell (World.block_lt_of_cell? w _ hw135_3)).trans hw135_3), ((HB.out.cell (World.block_lt_of_cell? w _ hw135_4)).trans hw135_4), ((HB.out.cell (World.block_lt_of_cell? w _ hw135_5)).trans hw135_5), ((HB.out.cell (World.block_lt_of_cell? w _ hw135_6)).trans hw135_6), ((HB.out.cell (World.block_lt_of_cell? w _ hw135_7)).trans hw135_7), ((HB.out.cell (World.block_lt_of_cell? w _ hw136_0)).trans hw136_0), ((HB.out.cell (World.block_lt_of_cell? w _ hw136_1)).trans hw136_1), ((HB.out.cell (World.block_lt_of_cell? w _ hw136_2)).trans hw136_2), ((HB.out.cell (World.block_lt_of_cell? w _ hw136_3)).trans hw136_3), ((HB.out.cell (World.block_lt_of_cell? w _ hw136_4)).trans hw136_4), ((HB.out.cell (World.block_lt_of_cell? w _ hw136_5)).trans hw136_5), ((HB.out.cell (World.block_lt_of_cell? w _ hw136_6)).trans hw136_6), ((HB.out.cell (World.block_lt_of_cell? w _ hw136_7)).trans hw136_7), ((HB.out.cell (World.block_lt_of_cell? w _ hw137_0)).trans hw137_0), ((HB.out.cell (World.block_lt_of_cell? w _ hw137_1)).trans hw137_1), ((HB.out.cell (World.block_lt_of_cell? w _ hw137_2)).trans hw137_2), ((HB.out.cell (World.block_lt_of_cell? w _ hw137_3)).trans hw137_3), ((HB.out.cell (World.block_lt_of_cell? w _ hw137_4)).trans hw137_4), ((HB.out.cell (World.block_lt_of_cell? w _ hw137_5)).trans hw137_5), ((HB.out.cell (World.block_lt_of_cell? w _ hw137_6)).trans hw137_6), ((HB.out.cell (World.block_lt_of_cell? w _ hw137_7)).trans hw137_7), ((HB.out.cell (World.block_lt_of_cell? w _ hw138_0)).trans hw138_0), ((HB.out.cell (World.block_lt_of_cell? w _ hw138_1)).trans hw138_1), ((HB.out.cell (World.block_lt_of_cell? w _ hw138_2)).trans hw138_2), ((HB.out.cell (World.block_lt_of_cell? w _ hw138_3)).trans hw138_3), ((HB.out.cell (World.block_lt_of_cell? w _ hw138_4)).trans hw138_4), ((HB.out.cell (World.block_lt_of_cell? w _ hw138_5)).trans hw138_5), ((HB.out.cell (World.block_lt_of_cell? w _ hw138_6)).trans hw138_6), ((HB.out.cell (World.block_lt_of_cell? w _ hw138_7)).trans hw138_7)⟩ (fun hHeld => ?_); refine with_tabW spec_l22Same.tab1 spec_l22Same.bits1 (fun HT_ HW_ => ?_)
     generalize w.drew = w13 at HB HR135_7 HR136_7 HR137_7 HR138_7 hx135_0 hx135_1 hx135_2 hx135_3 hx135_4 hx135_5 hx135_6 hx135_7 hx136_0 hx136_1 hx136_2 hx136_3 hx136_4 hx136_5 hx136_6 hx136_7 hx137_0 hx137_1 hx137_2 hx137_3 hx137_4 hx137_5 hx137_6 hx137_7 hx138_0 hx138_1 hx138_2 hx138_3 hx138_4 hx138_5 hx138_6 hx138_7 hHeld ⊢
     refine pure_ (i := 0) (N := some 6) (v := ?_) (a' := ?_) (bN 55 1) rfl rfl (any_of HT_.out (by kernel_rfl)) (fun _ _ _ h => h) (Or.inl ⟨by rfl, ?_⟩) ?_ ?_
     rotate_left
     ·intro w'
      go_simp
      with_reducible rfl
     rotate_left
     ·simp only [Act.put, List.setIfInBounds_toArray, List.set_cons_zero, List.set_cons_succ, i64_w, i32_w]
      rfl
     refine pure_ (i := 1) (N := some 7) (v := ?_) (a' := ?_) (bN 55 3) rfl rfl (any_of HT_.out (by kernel_rfl)) (fun _ _ _ h => h) (Or.inl ⟨by rfl, ?_⟩) ?_ ?_
     rotate_left
     ·intro w'
      go_simp
      with_reducible rfl
     rotate_left
     ·simp only [Act.put, List.setIfInBounds_toArray, List.set_cons_zero, List.set_cons_succ, i64_w, i32_w]
      rfl
     refine pure_ (i := 2) (N := some 8) (v := ?_) (a' := ?_) (bN 55 7) rfl rfl (any_of HT_.out (by kernel_rfl)) (fun _ _ _ h => h) (Or.inl ⟨by rfl, ?_⟩) ?_ ?_
     rotate_left
     ·intro w'
      go_simp
      with_reducible rfl
     rotate_left
     ·simp only [Act.put, List.setIfInBounds_toArray, List.set_cons_zero, List.set_cons_succ, i64_w, i32_w]
      rfl
     refine pure_ (i := 4) (N := some 10) (v := ?_) (a' := ?_) (bN 55 23) rfl rfl (any_of HT_.out (by kernel_rfl)) (fun _ _ _ h => h) (Or.inl ⟨by rfl, ?_⟩) ?_ ?_
     rotate_left
     ·intro w'
      go_simp
      with_reducible rfl
     rotate_left
     ·simp only [Act.put, List.setIfInBounds_toArray, List.set_cons_zero, List.set_cons_succ, i64_w, i32_w]
      rfl
     refine pure_ (i := 5) (N := some 11) (v := ?_) (a' := ?_) (bN 55 55) rfl rfl (any_of HT_.out (by kernel_rfl)) (fun _ _ _ h => h) (Or.inl ⟨by rfl, ?_⟩) ?_ ?_
     rotate_left
     ·intro w'
      go_simp
      with_reducible rfl
     rotate_left
     ·simp only [Act.put, List.setIfInBounds_toArray, List.set_cons_zero, List.set_cons_succ, i64_w, i32_w]
      rfl
     refine pure_ (i := 6) (N := some 12) (v := ?_) (a' := ?_) (bN 55 119) rfl rfl (any_of HT_.out (by kernel_rfl)) (fun _ _ _ h => h) (Or.inl ⟨by rfl, ?_⟩) ?_ ?_
     rotate_left
     ·intro w'
      go_simp
      with_reducible rfl
     rotate_left
     ·simp only [Act.put, List.setIfInBounds_toArray, List.set_cons_zero, List.set_cons_succ, i64_w, i32_w]
      rfl
     refine take_ (i := 3) (N := some 9) (v := ?_) (a' := ?_) (bN 55 127) rfl rfl (take_ofW HT_.out HW_.out (by kernel_rfl)) (fun _ _ _ h => h) (Or.inl ⟨by rfl, ?_⟩) hHeld ?_ ?_
     rotate_left
     ·rintro w' ⟨s0, s1, s2, s3, s4, s5, s6, s7, s8, s9, s10, s11, s12, s13, s14, s15, s16, s17, s18, s19, s20, s21, s22, s23, s24, s25, s26, s27, s28, s29, s30, s31⟩
      go_simp
      with_reducible rfl
     rotate_left
     ·simp only [Act.put, List.setIfInBounds_toArray, List.set_cons_zero, List.set_cons_succ, i64_w, i32_w]
      rfl
     refine take_ (i := 7) (N := some 13) (v := ?_) (a' := ?_) (bN 55 255) rfl rfl (take_ofW HT_.out HW_.out (by kernel_rfl)) (fun _ _ _ h => h) (Or.inl ⟨by rfl, ?_⟩) hHeld ?_ ?_
     rotate_left
     ·rintro w' ⟨s0, s1, s2, s3, s4, s5, s6, s7, s8, s9, s10, s11, s12, s13, s14, s15, s16, s17, s18, s19, s20, s21, s22, s23, s24, s25, s26, s27, s28, s29, s30, s31⟩
      go_simp
      with_reducible rfl
     rotate_left
     ·simp only [Act.put, List.setIfInBounds_toArray, List.set_cons_zero, List.set_cons_succ, i64_w, i32_w]
      rfl
     refine pure_ (i := 8) (N := some 14) (v := ?_) (a' := ?_) (bN 55 511) rfl rfl (any_of HT_.out (by kernel_rfl)) (fun _ _ _ h => h) (Or.inl ⟨by rfl, ?_⟩) ?_ ?_
     rotate_left
     ·intro w'
      go_simp
      with_reducible rfl
     rotate_left
     ·simp only [Act.put, List.setIfInBounds_toArray, List.set_cons_zero, List.set_cons_succ, i64_w, i32_w]
      rfl
     refine pure_ (i := 9) (N := some 15) (v := ?_) (a' := ?_) (bN 55 1023) rfl rfl (any_of HT_.out (by kernel_rfl)) (fun _ _ _ h => h) (Or.inl ⟨by rfl, ?_⟩) ?_ ?_
     rotate_left
     ·intro w'
      go_simp
      with_reducible rfl
     rotate_left
     ·simp only [Act.put, List.setIfInBounds_toArray, List.set_cons_zero, List.set_cons_succ, i64_w, i32_w]
      rfl
     refine pure_ (i := 10) (N := some 16) (v := ?_) (a' := ?_) (bN 55 2047) rfl rfl (any_of HT_.out (by kernel_rfl)) (fun _ _ _ h => h) (Or.inl ⟨by rfl, ?_⟩) ?_ ?_
     rotate_left
     ·intro w'
      go_simp
      with_reducible rfl
     rotate_left
     ·simp only [Act.put, List.setIfInBounds_toArray, List.set_cons_zero, List.set_cons_succ, i64_w, i32_w]
      rfl
     refine pure_ (i := 11) (N := some 17) (v := ?_) (a' := ?_) (bN 55 4095) rfl rfl (any_of HT_.out (by kernel_rfl)) (fun _ _ _ h => h) (Or.inl ⟨by rfl, ?_⟩) ?_ ?_
     rotate_left
     ·intro w'
      go_simp
      with_reducible rfl
     rotate_left
     ·simp only [Act.put, List.setIfInBounds_toArray, List.set_cons_zero, List.set_cons_succ, i64_w, i32_w]
      rfl
     refine pure_ (i := 12) (N := some 18) (v := ?_) (a' := ?_) (bN 55 8191) rfl rfl (any_of HT_.out (by kernel_rfl)) (fun _ _ _ h => h) (Or.inl ⟨by rfl, ?_⟩) ?_ ?_
     rotate_left
     ·intro w'
      go_simp
      with_reducible rfl
     rotate_left
     ·simp only [Act.put, List.setIfInBounds_toArray, List.set_cons_zero, List.set_cons_succ, i64_w, i32_w]
      rfl
     refine pure_ (i := 14) (N := some 20) (v := ?_) (a' := ?_) (bN 55 24575) rfl rfl (any_of HT_.out (by kernel_rfl)) (fun _ _ _ h => h) (Or.inl ⟨by rfl, ?_⟩) ?_ ?_
     rotate_left
     ·intro w'
      go_simp
      with_reducible rfl
     rotate_left
     ·simp only [Act.put, List.setIfInBounds_toArray, List.set_cons_zero, List.set_cons_succ, i64_w, i32_w]
      rfl
     refine pure_ (i := 15) (N := some 21) (v := ?_) (a' := ?_) (bN 55 57343) rfl rfl (any_of HT_.out (by kernel_rfl)) (fun _ _ _ h => h) (Or.inl ⟨by rfl, ?_⟩) ?_ ?_
     rotate_left
     ·intro w'
      go_simp
      with_reducible rfl
     rotate_left
     ·simp only [Act.put, List.setIfInBounds_toArray, List.set_cons_zero, List.set_cons_succ, i64_w, i32_w]
      rfl
     refine pure_ (i := 16) (N := some 22) (v := ?_) (a' := ?_) (bN 55 122879) rfl rfl (any_of HT_.out (by kernel_rfl)) (fun _ _ _ h => h) (Or.inl ⟨by rfl, ?_⟩) ?_ ?_
     rotate_left
     ·intro w'
      go_simp
      with_reducible rfl
     rotate_left
     ·simp only [Act.put, List.setIfInBounds_toArray, List.set_cons_zero, List.set_cons_succ, i64_w, i32_w]
      rfl
     refine take_ (i := 13) (N := some 19) (v := ?_) (a' := ?_) (bN 55 131071) rfl rfl (take_ofW HT_.out HW_.out (by kernel_rfl)) (fun _ _ _ h => h) (Or.inl ⟨by rfl, ?_⟩) hHeld ?_ ?_
     rotate_left
     ·rintro w' ⟨s0, s1, s2, s3, s4, s5, s6, s7, s8, s9, s10, s11, s12, s13, s14, s15, s16, s17, s18, s19, s20, s21, s22, s23, s24, s25, s26, s27, s28, s29, s30, s31⟩
      go_simp
      with_reducible rfl
     rotate_left
     ·simp only [Act.put, List.setIfInBounds_toArray, List.set_cons_zero, List.set_cons_succ, i64_w, i32_w]
      rfl
     refine take_ (i := 17) (N := some 23) (v := ?_) (a' := ?_) (bN 55 262143) rfl rfl (take_ofW HT_.out HW_.out (by kernel_rfl)) (fun _ _ _ h => h) (Or.inl ⟨by rfl, ?_⟩) hHeld ?_ ?_
     rotate_left
     ·rintro w' ⟨s0, s1, s2, s3, s4, s5, s6, s7, s8, s9, s10, s11, s12, s13, s14, s15, s16, s17, s18, s19, s20, s21, s22, s23, s24, s25, s26, s27, s28, s29, s30, s31⟩
      go_simp
      with_reducible rfl
     rotate_left
     ·simp only [Act.put, List.setIfInBounds_toArray, List.set_cons_zero, List.set_cons_succ, i64_w, i32_w]
      rfl
     refine pure_ (i := 18) (N := some 24) (v := ?_) (a' := ?_) (bN 55 524287) rfl rfl (any_of HT_.out (by kernel_rfl)) (fun _ _ _ h => h) (Or.inl ⟨by rfl, ?_⟩) ?_ ?_
     rotate_left
     ·intro w'
      go_simp
      with_reducible rfl
     rotate_left
     ·simp only [Act.put, List.setIfInBounds_toArray, List.set_cons_zero, List.set_cons_succ, i64_w, i32_w]
      rfl
     refine pure_ (i := 19) (N := some 25) (v := ?_) (a' := ?_) (bN 55 1048575) rfl rfl (any_of HT_.out (by kernel_rfl)) (fun _ _ _ h => h) (Or.inl ⟨by rfl, ?_⟩) ?_ ?_
     rotate_left
     ·intro w'
      go_simp
      with_reducible rfl
     rotate_left
     ·simp only [Act.put, List.setIfInBounds_toArray, List.set_cons_zero, List.set_cons_succ, i64_w, i32_w]
      rfl
     refine pure_ (i := 20) (N := some 26) (v := ?_) (a' := ?_) (bN 55 2097151) rfl rfl (any_of HT_.out (by kernel_rfl)) (fun _ _ _ h => h) (Or.inl ⟨by rfl, ?_⟩) ?_ ?_
     rotate_left
     ·intro w'
      go_simp
      with_reducible rfl
     rotate_left
     ·simp only [Act.put, List.setIfInBounds_toArray, List.set_cons_zero, List.set_cons_succ, i64_w, i32_w]
      rfl
     refine pure_ (i := 21) (N := some 27) (v := undef) (a' := ?_) (bN 55 4194303) rfl rfl (any_of HT_.out (by kernel_rfl)) (fun _ _ _ h => h) (Or.inr ⟨by rfl, rfl⟩) ?_ ?_
     rotate_left
     ·simp only [Act.put, List.setIfInBounds_toArray, List.set_cons_zero, List.set_cons_succ, i64_w, i32_w]
      rfl
     refine pure_ (i := 22) (N := some 28) (v := undef) (a' := ?_) (bN 55 8388607) rfl rfl (any_of HT_.out (by kernel_rfl)) (fun _ _ _ h => h) (Or.inr ⟨by rfl, rfl⟩) ?_ ?_
     rotate_left
     ·simp only [Act.put, List.setIfInBounds_toArray, List.set_cons_zero, List.set_cons_succ, i64_w, i32_w]
      rfl
     refine pure_ (i := 23) (N := some 29) (v := undef) (a' := ?_) (bN 55 16777215) rfl rfl (any_of HT_.out (by kernel_rfl)) (fun _ _ _ h => h) (Or.inr ⟨by rfl, rfl⟩) ?_ ?_
     rotate_left
     ·simp only [Act.put, List.setIfInBounds_toArray, List.set_cons_zero, List.set_cons_succ, i64_w, i32_w]
      rfl
     refine pure_ (i := 24) (N := some 30) (v := undef) (a' := ?_) (bN 55 33554431) rfl rfl (any_of HT_.out (by kernel_rfl)) (fun _ _ _ h => h) (Or.inr ⟨by rfl, rfl⟩) ?_ ?_
     rotate_left
     ·simp only [Act.put, List.setIfInBounds_toArray, List.set_cons_zero, List.set_cons_succ, i64_w, i32_w]
      rfl
     refine pure_ (i := 25) (N := some 31) (v := undef) (a' := ?_) (bN 55 67108863) rfl rfl (any_of HT_.out (by kernel_rfl)) (fun _ _ _ h => h) (Or.inr ⟨by rfl, rfl⟩) ?_ ?_
     rotate_left
     ·simp only [Act.put, List.setIfInBounds_toArray, List.set_cons_zero, List.set_cons_succ, i64_w, i32_w]
      rfl
     refine pure_ (i := 26) (N := some 32) (v := undef) (a' := ?_) (bN 55 134217727) rfl rfl (any_of HT_.out (by kernel_rfl)) (fun _ _ _ h => h) (Or.inr ⟨by rfl, rfl⟩) ?_ ?_
     rotate_left
     ·simp only [Act.put, List.setIfInBounds_toArray, List.set_cons_zero, List.set_cons_succ, i64_w, i32_w]
      rfl
     refine pure_ (i := 27) (N := some 33) (v := undef) (a' := ?_) (bN 55 268435455) rfl rfl (any_of HT_.out (by kernel_rfl)) (fun _ _ _ h => h) (Or.inr ⟨by rfl, rfl⟩) ?_ ?_
     rotate_left
     ·simp only [Act.put, List.setIfInBounds_toArray, List.set_cons_zero, List.set_cons_succ, i64_w, i32_w]
      rfl
     refine pure_ (i := 28) (N := some 34) (v := undef) (a' := ?_) (bN 55 536870911) rfl rfl (any_of HT_.out (by kernel_rfl)) (fun _ _ _ h => h) (Or.inr ⟨by rfl, rfl⟩) ?_ ?_
     rotate_left
     ·simp only [Act.put, List.setIfInBounds_toArray, List.set_cons_zero, List.set_cons_succ, i64_w, i32_w]
      rfl
     refine pure_ (i := 29) (N := some 35) (v := undef) (a' := ?_) (bN 55 1073741823) rfl rfl (any_of HT_.out (by kernel_rfl)) (fun _ _ _ h => h) (Or.inr ⟨by rfl, rfl⟩) ?_ ?_
     rotate_left
     ·simp only [Act.put, List.setIfInBounds_toArray, List.set_cons_zero, List.set_cons_succ, i64_w, i32_w]
      rfl
     refine pure_ (i := 30) (N := some 36) (v := ?_) (a' := ?_) (bN 55 2147483647) rfl rfl (any_of HT_.out (by kernel_rfl)) (fun _ _ _ h => h) (Or.inl ⟨by rfl, ?_⟩) ?_ ?_
     rotate_left
     ·intro w'
      go_simp
      with_reducible rfl
     rotate_left
     ·simp only [Act.put, List.setIfInBounds_toArray, List.set_cons_zero, List.set_cons_succ, i64_w, i32_w]
      rfl
     refine pure_ (i := 31) (N := some 37) (v := ?_) (a' := ?_) (bN 55 4294967295) rfl rfl (any_of HT_.out (by kernel_rfl)) (fun _ _ _ h => h) (Or.inl ⟨by rfl, ?_⟩) ?_ ?_
     rotate_left
     ·intro w'
      go_simp
      with_reducible rfl
     rotate_left
     ·simp only [Act.put, List.setIfInBounds_toArray, List.set_cons_zero, List.set_cons_succ, i64_w, i32_w]
      rfl
     refine pure_ (i := 32) (N := some 38) (v := undef) (a' := ?_) (bN 55 8589934591) rfl rfl (any_of HT_.out (by kernel_rfl)) (fun _ _ _ h => h) (Or.inr ⟨by rfl, rfl⟩) ?_ ?_
     rotate_left
     ·simp only [Act.put, List.setIfInBounds_toArray, List.set_cons_zero, List.set_cons_succ, i64_w, i32_w]
      rfl
     refine pure_ (i := 33) (N := some 39) (v := undef) (a' := ?_) (bN 55 17179869183) rfl rfl (any_of HT_.out (by kernel_rfl)) (fun _ _ _ h => h) (Or.inr ⟨by rfl, rfl⟩) ?_ ?_
     rotate_left
     ·simp only [Act.put, List.setIfInBounds_toArray, List.set_cons_zero, List.set_cons_succ, i64_w, i32_w]
      rfl
     refine pure_ (i := 34) (N := some 40) (v := undef) (a' := ?_) (bN 55 34359738367) rfl rfl (any_of HT_.out (by kernel_rfl)) (fun _ _ _ h => h) (Or.inr ⟨by rfl, rfl⟩) ?_ ?_
     rotate_left
     ·simp only [Act.put, List.setIfInBounds_toArray, List.set_cons_zero, List.set_cons_succ, i64_w, i32_w]
      rfl
     refine pure_ (i := 35) (N := some 41) (v := undef) (a' := ?_) (bN 55 68719476735) rfl rfl (any_of HT_.out (by kernel_rfl)) (fun _ _ _ h => h) (Or.inr ⟨by rfl, rfl⟩) ?_ ?_
     rotate_left
     ·simp only [Act.put, List.setIfInBounds_toArray, List.set_cons_zero, List.set_cons_succ, i64_w, i32_w]
      rfl
     refine pure_ (i := 36) (N := some 42) (v := undef) (a' := ?_) (bN 55 137438953471) rfl rfl (any_of HT_.out (by kernel_rfl)) (fun _ _ _ h => h) (Or.inr ⟨by rfl, rfl⟩) ?_ ?_
     rotate_left
     ·simp only [Act.put, List.setIfInBounds_toArray, List.set_cons_zero, List.set_cons_succ, i64_w, i32_w]
      rfl
     refine pure_ (i := 37) (N := some 43) (v := undef) (a' := ?_) (bN 55 274877906943) rfl rfl (any_of HT_.out (by kernel_rfl)) (fun _ _ _ h => h) (Or.inr ⟨by rfl, rfl⟩) ?_ ?_
     rotate_left
     ·simp only [Act.put, List.setIfInBounds_toArray, List.set_cons_zero, List.set_cons_succ, i64_w, i32_w]
      rfl
     refine pure_ (i := 38) (N := some 44) (v := undef) (a' := ?_) (bN 55 549755813887) rfl rfl (any_of HT_.out (by kernel_rfl)) (fun _ _ _ h => h) (Or.inr ⟨by rfl, rfl⟩) ?_ ?_
     rotate_left
     ·simp only [Act.put, List.setIfInBounds_toArray, List.set_cons_zero, List.set_cons_succ, i64_w, i32_w]
      rfl
     refine pure_ (i := 39) (N := some 45) (v := undef) (a' := ?_) (bN 55 1099511627775) rfl rfl (any_of HT_.out (by kernel_rfl)) (fun _ _ _ h => h) (Or.inr ⟨by rfl, rfl⟩) ?_ ?_
     rotate_left
     ·simp only [Act.put, List.setIfInBounds_toArray, List.set_cons_zero, List.set_cons_succ, i64_w, i32_w]
      rfl
     refine pure_ (i := 40) (N := some 46) (v := undef) (a' := ?_) (bN 55 2199023255551) rfl rfl (any_of HT_.out (by kernel_rfl)) (fun _ _ _ h => h) (Or.inr ⟨by rfl, rfl⟩) ?_ ?_
     rotate_left
     ·simp only [Act.put, List.setIfInBounds_toArray, List.set_cons_zero, List.set_cons_succ, i64_w, i32_w]
      rfl
     refine pure_ (i := 41) (N := some 47) (v := ?_) (a' := ?_) (bN 55 4398046511103) rfl rfl (any_of HT_.out (by kernel_rfl)) (fun _ _ _ h => h) (Or.inl ⟨by rfl, ?_⟩) ?_ ?_
     rotate_left
     ·intro w'
      go_simp
      with_reducible rfl
     rotate_left
     ·simp only [Act.put, List.setIfInBounds_toArray, List.set_cons_zero, List.set_cons_succ, i64_w, i32_w]
      rfl
     refine pure_ (i := 42) (N := some 48) (v := ?_) (a' := ?_) (bN 55 8796093022207) rfl rfl (any_of HT_.out (by kernel_rfl)) (fun _ _ _ h => h) (Or.inl ⟨by rfl, ?_⟩) ?_ ?_
     rotate_left
     ·intro w'
      go_simp
      with_reducible rfl
     rotate_left
     ·simp only [Act.put, List.setIfInBounds_toArray, List.set_cons_zero, List.set_cons_succ, i64_w, i32_w]
      rfl
     refine pure_ (i := 43) (N := some 49) (v := undef) (a' := ?_) (bN 55 17592186044415) rfl rfl (any_of HT_.out (by kernel_rfl)) (fun _ _ _ h => h) (Or.inr ⟨by rfl, rfl⟩) ?_ ?_
     rotate_left
     ·simp only [Act.put, List.setIfInBounds_toArray, List.set_cons_zero, List.set_cons_succ, i64_w, i32_w]
      rfl
     refine pure_ (i := 44) (N := some 50) (v := undef) (a' := ?_) (bN 55 35184372088831) rfl rfl (any_of HT_.out (by kernel_rfl)) (fun _ _ _ h => h) (Or.inr ⟨by rfl, rfl⟩) ?_ ?_
     rotate_left
     ·simp only [Act.put, List.setIfInBounds_toArray, List.set_cons_zero, List.set_cons_succ, i64_w, i32_w]
      rfl
     refine pure_ (i := 45) (N := some 51) (v := undef) (a' := ?_) (bN 55 70368744177663) rfl rfl (any_of HT_.out (by kernel_rfl)) (fun _ _ _ h => h) (Or.inr ⟨by rfl, rfl⟩) ?_ ?_
     rotate_left
     ·simp only [Act.put, List.setIfInBounds_toArray, List.set_cons_zero, List.set_cons_succ, i64_w, i32_w]
      rfl
     refine pure_ (i := 46) (N := some 52) (v := undef) (a' := ?_) (bN 55 140737488355327) rfl rfl (any_of HT_.out (by kernel_rfl)) (fun _ _ _ h => h) (Or.inr ⟨by rfl, rfl⟩) ?_ ?_
     rotate_left
     ·simp only [Act.put, List.setIfInBounds_toArray, List.set_cons_zero, List.set_cons_succ, i64_w, i32_w]
      rfl
     refine pure_ (i := 47) (N := some 53) (v := undef) (a' := ?_) (bN 55 281474976710655) rfl rfl (any_of HT_.out (by kernel_rfl)) (fun _ _ _ h => h) (Or.inr ⟨by rfl, rfl⟩) ?_ ?_
     rotate_left
     ·simp only [Act.put, List.setIfInBounds_toArray, List.set_cons_zero, List.set_cons_succ, i64_w, i32_w]
      rfl
     refine pure_ (i := 48) (N := some 54) (v := undef) (a' := ?_) (bN 55 562949953421311) rfl rfl (any_of HT_.out (by kernel_rfl)) (fun _ _ _ h => h) (Or.inr ⟨by rfl, rfl⟩) ?_ ?_
     rotate_left
     ·simp only [Act.put, List.setIfInBounds_toArray, List.set_cons_zero, List.set_cons_succ, i64_w, i32_w]
      rfl
     refine pure_ (i := 49) (N := some 55) (v := undef) (a' := ?_) (bN 55 1125899906842623) rfl rfl (any_of HT_.out (by kernel_rfl)) (fun _ _ _ h => h) (Or.inr ⟨by rfl, rfl⟩) ?_ ?_
     rotate_left
     ·simp only [Act.put, List.setIfInBounds_toArray, List.set_cons_zero, List.set_cons_succ, i64_w, i32_w]
      rfl
     refine pure_ (i := 50) (N := some 56) (v := undef) (a' := ?_) (bN 55 2251799813685247) rfl rfl (any_of HT_.out (by kernel_rfl)) (fun _ _ _ h => h) (Or.inr ⟨by rfl, rfl⟩) ?_ ?_
     rotate_left
     ·simp only [Act.put, List.setIfInBounds_toArray, List.set_cons_zero, List.set_cons_succ, i64_w, i32_w]
      rfl
     refine pure_ (i := 51) (N := some 57) (v := undef) (a' := ?_) (bN 55 4503599627370495) rfl rfl (any_of HT_.out (by kernel_rfl)) (fun _ _ _ h => h) (Or.inr ⟨by rfl, rfl⟩) ?_ ?_
     rotate_left
     ·simp only [Act.put, List.setIfInBounds_toArray, List.set_cons_zero, List.set_cons_succ, i64_w, i32_w]
      rfl
     refine pure_ (i := 52) (N := some 58) (v := undef) (a' := ?_) (bN 55 9007199254740991) rfl rfl (any_of HT_.out (by kernel_rfl)) (fun _ _ _ h => h) (Or.inr ⟨by rfl, rfl⟩) ?_ ?_
     rotate_left
     ·simp only [Act.put, List.setIfInBounds_toArray, List.set_cons_zero, List.set_cons_succ, i64_w, i32_w]
      rfl
     refine pure_ (i := 53) (N := some 59) (v := undef) (a' := ?_) (bN 55 18014398509481983) rfl rfl (any_of HT_.out (by kernel_rfl)) (fun _ _ _ h => h) (Or.inr ⟨by rfl, rfl⟩) ?_ ?_
     rotate_left
     ·simp only [Act.put, List.setIfInBounds_toArray, List.set_cons_zero, List.set_cons_succ, i64_w, i32_w]
      rfl
     refine pure_ (i := 54) (N := some 60) (v := ?_) (a' := ?_) (bN 55 36028797018963967) rfl rfl (any_of HT_.out (by kernel_rfl)) (fun _ _ _ h => h) (Or.inl ⟨by rfl, ?_⟩) ?_ ?_
     rotate_left
     ·intro w'
      go_simp
      with_reducible rfl
     rotate_left
     ·simp only [Act.put, List.setIfInBounds_toArray, List.set_cons_zero, List.set_cons_succ, i64_w, i32_w]
      rfl
     refine done_ (done_of HT_.out (by kernel_rfl)) ?_
     try go_wp2
     go_meet
     case rel => exact ⟨_, (true), sr, H', ⟨by first | omega | exact Nat.le_refl _⟩, ⟨sb⟩⟩
    rw [if_neg c6] at H
    have c6b0 : (((rd_T57 l0 0).f0) == ((rd_T57 l1 0).f0)) = false := beq_eq_false_iff_ne.mpr c6
    have c6b1 : (((rd_T57 l0 0).f0) != ((rd_T57 l1 0).f0)) = true := bne_iff_ne.mpr c6
    have H' := Aside0.mk H
    clear H
    try go_wp2
    have n0_ := Aside0.mk (below_drew1 HB.out)
    clear HB
    have HB := n0_
    clear n0_
    have p135 : 0 ≤ (0 : Int) := (by omega)
    have q135 : 0 < (l0.length : Int) := of_decide_eq_true (by first | (with_reducible assumption) | assumption)
    obtain ⟨ad135, A135_7, c135_7, e135, hx135_0, hx135_1, hx135_2, hx135_3, hx135_4, hx135_5, hx135_6, hx135_7, hl135_7, hi135_7⟩ := at_T57 HR0.out 0 p135 q135
    have hw135_7 := hx135_7
    (try rw [sZ] at hw135_7)
    have hw135_6 := hx135_6
    (try rw [sZ] at hw135_6)
    have hw135_5 := hx135_5
    (try rw [sZ] at hw135_5)
    have hw135_4 := hx135_4
    (try rw [sZ] at hw135_4)
    have hw135_3 := hx135_3
    (try rw [sZ] at hw135_3)
    have hw135_2 := hx135_2
    (try rw [sZ] at hw135_2)
    have hw135_1 := hx135_1
    (try rw [sZ] at hw135_1)
    have hw135_0 := hx135_0
    (try rw [sZ] at hw135_0)
    cases e135
    have qi135 : (0 < l0.length) = True := eq_true (by omega)
    (try rw [sZ] at hx135_0)
    (try rw [sZ] at hx135_1)
    (try rw [sZ] at hx135_2)
    (try rw [sZ] at hx135_3)
    (try rw [sZ] at hx135_4)
    (try rw [sZ] at hx135_5)
    (try rw [sZ] at hx135_6)
    (try rw [sZ] at hx135_7)
    replace hx135_0 := sX HB hx135_0
    replace hx135_1 := sX HB hx135_1
    replace hx135_2 := sX HB hx135_2
    replace hx135_3 := sX HB hx135_3
    replace hx135_4 := sX HB hx135_4
    replace hx135_5 := sX HB hx135_5
    replace hx135_6 := sX HB hx135_6
    replace hx135_7 := sX HB hx135_7
    have HR135_7 := Aside0.mk hi135_7
    have HC135_7 := Aside0.mk hl135_7
    clear hi135_7 hl135_7
    replace p135 := eq_true p135
    replace q135 := eq_true q135
    have p136 : 0 ≤ (0 : Int) := (by omega)
    have q136 : 0 < (l1.length : Int) := of_decide_eq_true (by first | (with_reducible assumption) | assumption)
    obtain ⟨ad136, A136_7, c136_7, e136, hx136_0, hx136_1, hx136_2, hx136_3, hx136_4, hx136_5, hx136_6, hx136_7, hl136_7, hi136_7⟩ := at_T57 HR1.out 0 p136 q136
    have hw136_7 := hx136_7
    (try rw [sZ] at hw136_7)
    have hw136_6 := hx136_6
    (try rw [sZ] at hw136_6)
    have hw136_5 := hx136_5
    (try rw [sZ] at hw136_5)
    have hw136_4 := hx136_4
    (try rw [sZ] at hw136_4)
    have hw136_3 := hx136_3
    (try rw [sZ] at hw136_3)
    have hw136_2 := hx136_2
    (try rw [sZ] at hw136_2)
    have hw136_1 := hx136_1
    (try rw [sZ] at hw136_1)
    have hw136_0 := hx136_0
    (try rw [sZ] at hw136_0)
    cases e136
    have qi136 : (0 < l1.length) = True := eq_true (by omega)
    (try rw [sZ] at hx136_0)
    (try rw [sZ] at hx136_1)
    (try rw [sZ] at hx136_2)
    (try rw [sZ] at hx136_3)
    (try rw [sZ] at hx136_4)
    (try rw [sZ] at hx136_5)
    (try rw [sZ] at hx136_6)
    (try rw [sZ] at hx136_7)
    replace hx136_0 := sX HB hx136_0
    replace hx136_1 := sX HB hx136_1
    replace hx136_2 := sX HB hx136_2
    replace hx136_3 := sX HB hx136_3
    replace hx136_4 := sX HB hx136_4
    replace hx136_5 := sX HB hx136_5
    replace hx136_6 := sX HB hx136_6
    replace hx136_7 := sX HB hx136_7
    have HR136_7 := Aside0.mk hi136_7
    have HC136_7 := Aside0.mk hl136_7
    clear hi136_7 hl136_7
    replace p136 := eq_true p136
    replace q136 := eq_true q136
    refine start_ (n := 55) (S := fun w' => w'.cell? ad135 = some (.int .i64 ((rd_T57 l0 0).f0)) ∧ w'.cell? ⟨ad135.block, ad135.off + 1, none⟩ = some (.int .i64 ((rd_T57 l0 0).f1)) ∧ w'.cell? ⟨ad135.block, ad135.off + 2, none⟩ = some (.string ((rd_T57 l0 0).f2)) ∧ w'.cell? ⟨ad135.block, ad135.off + 3, none⟩ = some (.int .i64 ((rd_T57 l0 0).f3.f0)) ∧ w'.cell? ⟨ad135.block, ad135.off + 4, none⟩ = some (.int .i64 ((rd_T57 l0 0).f3.f1)) ∧ w'.cell? ⟨ad135.block, ad135.off + 5, none⟩ = some (.string ((rd_T57 l0 0).f3.f2)) ∧ w'.cell? ⟨ad135.block, ad135.off + 6, none⟩ = some (.int .i64 ((rd_T57 l0 0).f3.f3)) ∧ w'.cell? ⟨ad135.block, ad135.off + 7, none⟩ = some (.slice A135_7 ((rd_T57 l0 0).f4).length c135_7) ∧ w'.cell? ad136 = some (.int .i64 ((rd_T57 l1 0).f0)) ∧ w'.cell? ⟨ad136.block, ad136.off + 1, none⟩ = some (.int .i64 ((rd_T57 l1 0).f1)) ∧ w'.cell? ⟨ad136.block, ad136.off + 2, none⟩ = some (.string ((rd_T57 l1 0).f2)) ∧ w'.cell? ⟨ad136.block, ad136.off + 3, none⟩ = some (.int .i64 ((rd_T57 l1 0).f3.f0)) ∧ w'.cell? ⟨ad136.block, ad136.off + 4, none⟩ = some (.int .i64 ((rd_T57 l1 0).f3.f1)) ∧ w'.cell? ⟨ad136.block, ad136.off + 5, none⟩ = some (.string ((rd_T57 l1 0).f3.f2)) ∧ w'.cell? ⟨ad136.block, ad136.off + 6, none⟩ = some (.int .i64 ((rd_T57 l1 0).f3.f3)) ∧ w'.cell? ⟨ad136.block, ad136.off + 7, none⟩ = some (.slice A136_7 ((rd_T57 l1 0).f4).length c136_7)) (ds := []) #[false, false, false, false, false, false, false, false, false, false, false, false, false, false, false, false, false, false, false, false, false, false, false, false, false, false, false, false, false, false, false, false, false, false, false, false, false, false, false, false, false, false, false, false, false, false, false, false, false, false, false, false, false, false, false] (by kernel_rfl) rfl rfl ⟨((HB.out.cell (World.block_lt_of_cell? w _ hw135_0)).trans hw135_0), ((HB.out.cell (World.block_lt_of_cell? w _ hw135_1)).trans hw135_1), ((HB.out.cell (World.block_lt_of_cell? w _ hw135_2)).trans hw135_2), ((HB.out.cell (World.block_lt_of_cell? w _ hw135_3)).trans hw135_3), ((HB.out.cell (World.block_lt_of_cell? w _ hw135_4)).trans hw135_4), ((HB.out.cell (World.block_lt_of_cell? w _ hw135_5)).trans hw135_5), ((HB.out.cell (World.block_lt_of_cell? w _ hw135_6)).trans hw135_6), ((HB.out.cell (World.block_lt_of_cell? w _ hw135_7)).trans hw135_7), ((HB.out.cell (World.block_lt_of_cell? w _ hw136_0)).trans hw136_0), ((HB.out.cell (World.block_lt_of_cell? w _ hw136_1)).trans hw136_1), ((HB.out.cell (World.block_lt_of_cell? w _ hw136_2)).trans hw136_2), ((HB.out.cell (World.block_lt_of_cell? w _ hw136_3)).trans hw136_3), ((HB.out.cell (World.block_lt_of_cell? w _ hw136_4)).trans hw136_4), ((HB.out.cell (World.block_lt_of_cell? w _ hw136_5)).trans hw136_5), ((HB.out.cell (World.block_lt_of_cell? w _ hw136_6)).trans hw136_6), ((HB.out.cell (World.block_lt_of_cell? w _ hw136_7)).trans hw136_7)⟩ (fun hHeld => ?_); refine with_tabW spec_l22Same.tab1 spec_l22Same.bits1 (fun HT_ HW_ => ?_)
    generalize w.drew = w14 at HB HR135_7 HR136_7 hx135_0 hx135_1 hx135_2 hx135_3 hx135_4 hx135_5 hx135_6 hx135_7 hx136_0 hx136_1 hx136_2 hx136_3 hx136_4 hx136_5 hx136_6 hx136_7 hHeld ⊢
    refine pure_ (i := 0) (N := some 6) (v := ?_) (a' := ?_) (bN 55 1) rfl rfl (any_of HT_.out (by kernel_rfl)) (fun _ _ _ h => h) (Or.inl ⟨by rfl, ?_⟩) ?_ ?_
    rotate_left
    ·intro w'
     go_simp
     with_reducible rfl
    rotate_left
    ·simp only [Act.put, List.setIfInBounds_toArray, List.set_cons_zero, List.set_cons_succ, i64_w, i32_w]
     rfl
    refine pure_ (i := 1) (N := some 7) (v := ?_) (a' := ?_) (bN 55 3) rfl rfl (any_of HT_.out (by kernel_rfl)) (fun _ _ _ h => h) (Or.inl ⟨by rfl, ?_⟩) ?_ ?_
    rotate_left
    ·intro w'
     go_simp
     with_reducible rfl
    rotate_left
    ·simp only [Act.put, List.setIfInBounds_toArray, List.set_cons_zero, List.set_cons_succ, i64_w, i32_w]
     rfl
    refine pure_ (i := 2) (N := some 8) (v := ?_) (a' := ?_) (bN 55 7) rfl rfl (any_of HT_.out (by kernel_rfl)) (fun _ _ _ h => h) (Or.inl ⟨by rfl, ?_⟩) ?_ ?_
    rotate_left
    ·intro w'
     go_simp
     with_reducible rfl
    rotate_left
    ·simp only [Act.put, List.setIfInBounds_toArray, List.set_cons_zero, List.set_cons_succ, i64_w, i32_w]
     rfl
    refine pure_ (i := 4) (N := some 10) (v := ?_) (a' := ?_) (bN 55 23) rfl rfl (any_of HT_.out (by kernel_rfl)) (fun _ _ _ h => h) (Or.inl ⟨by rfl, ?_⟩) ?_ ?_
    rotate_left
    ·intro w'
     go_simp
     with_reducible rfl
    rotate_left
    ·simp only [Act.put, List.setIfInBounds_toArray, List.set_cons_zero, List.set_cons_succ, i64_w, i32_w]
     rfl
    refine pure_ (i := 5) (N := some 11) (v := ?_) (a' := ?_) (bN 55 55) rfl rfl (any_of HT_.out (by kernel_rfl)) (fun _ _ _ h => h) (Or.inl ⟨by rfl, ?_⟩) ?_ ?_
    rotate_left
    ·intro w'
     go_simp
     with_reducible rfl
    rotate_left
    ·simp only [Act.put, List.setIfInBounds_toArray, List.set_cons_zero, List.set_cons_succ, i64_w, i32_w]
     rfl
    refine pure_ (i := 6) (N := some 12) (v := ?_) (a' := ?_) (bN 55 119) rfl rfl (any_of HT_.out (by kernel_rfl)) (fun _ _ _ h => h) (Or.inl ⟨by rfl, ?_⟩) ?_ ?_
    rotate_left
    ·intro w'
     go_simp
     with_reducible rfl
    rotate_left
    ·simp only [Act.put, List.setIfInBounds_toArray, List.set_cons_zero, List.set_cons_succ, i64_w, i32_w]
     rfl
    refine take_ (i := 3) (N := some 9) (v := ?_) (a' := ?_) (bN 55 127) rfl rfl (take_ofW HT_.out HW_.out (by kernel_rfl)) (fun _ _ _ h => h) (Or.inl ⟨by rfl, ?_⟩) hHeld ?_ ?_
    rotate_left
    ·rintro w' ⟨s0, s1, s2, s3, s4, s5, s6, s7, s8, s9, s10, s11, s12, s13, s14, s15⟩
     go_simp
     with_reducible rfl
    rotate_left
    ·simp only [Act.put, List.setIfInBounds_toArray, List.set_cons_zero, List.set_cons_succ, i64_w, i32_w]
     rfl
    refine take_ (i := 7) (N := some 13) (v := ?_) (a' := ?_) (bN 55 255) rfl rfl (take_ofW HT_.out HW_.out (by kernel_rfl)) (fun _ _ _ h => h) (Or.inl ⟨by rfl, ?_⟩) hHeld ?_ ?_
    rotate_left
    ·rintro w' ⟨s0, s1, s2, s3, s4, s5, s6, s7, s8, s9, s10, s11, s12, s13, s14, s15⟩
     go_simp
     with_reducible rfl
    rotate_left
    ·simp only [Act.put, List.setIfInBounds_toArray, List.set_cons_zero, List.set_cons_succ, i64_w, i32_w]
     rfl
    refine pure_ (i := 8) (N := some 14) (v := ?_) (a' := ?_) (bN 55 511) rfl rfl (any_of HT_.out (by kernel_rfl)) (fun _ _ _ h => h) (Or.inl ⟨by rfl, ?_⟩) ?_ ?_
    rotate_left
    ·intro w'
     go_simp
     with_reducible rfl
    rotate_left
    ·simp only [Act.put, List.setIfInBounds_toArray, List.set_cons_zero, List.set_cons_succ, i64_w, i32_w]
     rfl
    refine pure_ (i := 9) (N := some 15) (v := ?_) (a' := ?_) (bN 55 1023) rfl rfl (any_of HT_.out (by kernel_rfl)) (fun _ _ _ h => h) (Or.inl ⟨by rfl, ?_⟩) ?_ ?_
    rotate_left
    ·intro w'
     go_simp
     with_reducible rfl
    rotate_left
    ·simp only [Act.put, List.setIfInBounds_toArray, List.set_cons_zero, List.set_cons_succ, i64_w, i32_w]
     rfl
    refine pure_ (i := 10) (N := some 16) (v := undef) (a' := ?_) (bN 55 2047) rfl rfl (any_of HT_.out (by kernel_rfl)) (fun _ _ _ h => h) (Or.inr ⟨by rfl, rfl⟩) ?_ ?_
    rotate_left
    ·simp only [Act.put, List.setIfInBounds_toArray, List.set_cons_zero, List.set_cons_succ, i64_w, i32_w]
     rfl
    refine pure_ (i := 11) (N := some 17) (v := undef) (a' := ?_) (bN 55 4095) rfl rfl (any_of HT_.out (by kernel_rfl)) (fun _ _ _ h => h) (Or.inr ⟨by rfl, rfl⟩) ?_ ?_
    rotate_left
    ·simp only [Act.put, List.setIfInBounds_toArray, List.set_cons_zero, List.set_cons_succ, i64_w, i32_w]
     rfl
    refine pure_ (i := 12) (N := some 18) (v := undef) (a' := ?_) (bN 55 8191) rfl rfl (any_of HT_.out (by kernel_rfl)) (fun _ _ _ h => h) (Or.inr ⟨by rfl, rfl⟩) ?_ ?_
    rotate_left
    ·simp only [Act.put, List.setIfInBounds_toArray, List.set_cons_zero, List.set_cons_succ, i64_w, i32_w]
     rfl
    refine pure_ (i := 13) (N := some 19) (v := undef) (a' := ?_) (bN 55 16383) rfl rfl (any_of HT_.out (by kernel_rfl)) (fun _ _ _ h => h) (Or.inr ⟨by rfl, rfl⟩) ?_ ?_
    rotate_left
    ·simp only [Act.put, List.setIfInBounds_toArray, List.set_cons_zero, List.set_cons_succ, i64_w, i32_w]
     rfl
    refine pure_ (i := 14) (N := some 20) (v := undef) (a' := ?_) (bN 55 32767) rfl rfl (any_of HT_.out (by kernel_rfl)) (fun _ _ _ h => h) (Or.inr ⟨by rfl, rfl⟩) ?_ ?_
    rotate_left
    ·simp only [Act.put, List.setIfInBounds_toArray, List.set_cons_zero, List.set_cons_succ, i64_w, i32_w]
     rfl
    refine pure_ (i := 15) (N := some 21) (v := undef) (a' := ?_) (bN 55 65535) rfl rfl (any_of HT_.out (by kernel_rfl)) (fun _ _ _ h => h) (Or.inr ⟨by rfl, rfl⟩) ?_ ?_
    rotate_left
    ·simp only [Act.put, List.setIfInBounds_toArray, List.set_cons_zero, List.set_cons_succ, i64_w, i32_w]
     rfl
    refine pure_ (i := 16) (N := some 22) (v := undef) (a' := ?_) (bN 55 131071) rfl rfl (any_of HT_.out (by kernel_rfl)) (fun _ _ _ h => h) (Or.inr ⟨by rfl, rfl⟩) ?_ ?_
    rotate_left
    ·simp only [Act.put, List.setIfInBounds_toArray, List.set_cons_zero, List.set_cons_succ, i64_w, i32_w]
     rfl
    refine pure_ (i := 17) (N := some 23) (v := undef) (a' := ?_) (bN 55 262143) rfl rfl (any_of HT_.out (by kernel_rfl)) (fun _ _ _ h => h) (Or.inr ⟨by rfl, rfl⟩) ?_ ?_
    rotate_left
    ·simp only [Act.put, List.setIfInBounds_toArray, List.set_cons_zero, List.set_cons_succ, i64_w, i32_w]
     rfl
    refine pure_ (i := 18) (N := some 24) (v := undef) (a' := ?_) (bN 55 524287) rfl rfl (any_of HT_.out (by kernel_rfl)) (fun _ _ _ h => h) (Or.inr ⟨by rfl, rfl⟩) ?_ ?_
    rotate_left
    ·simp only [Act.put, List.setIfInBounds_toArray, List.set_cons_zero, List.set_cons_succ, i64_w, i32_w]
     rfl
    refine pure_ (i := 19) (N := some 25) (v := ?_) (a' := ?_) (bN 55 1048575) rfl rfl (any_of HT_.out (by kernel_rfl)) (fun _ _ _ h => h) (Or.inl ⟨by rfl, ?_⟩) ?_ ?_
    rotate_left
    ·intro w'
     go_simp
     with_reducible rfl
    rotate_left
    ·simp only [Act.put, List.setIfInBounds_toArray, List.set_cons_zero, List.set_cons_succ, i64_w, i32_w]
     rfl
    refine pure_ (i := 20) (N := some 26) (v := ?_) (a' := ?_) (bN 55 2097151) rfl rfl (any_of HT_.out (by kernel_rfl)) (fun _ _ _ h => h) (Or.inl ⟨by rfl, ?_⟩) ?_ ?_
    rotate_left
    ·intro w'
     go_simp
     with_reducible rfl
    rotate_left
    ·simp only [Act.put, List.setIfInBounds_toArray, List.set_cons_zero, List.set_cons_succ, i64_w, i32_w]
     rfl
    refine pure_ (i := 21) (N := some 27) (v := undef) (a' := ?_) (bN 55 4194303) rfl rfl (any_of HT_.out (by kernel_rfl)) (fun _ _ _ h => h) (Or.inr ⟨by rfl, rfl⟩) ?_ ?_
    rotate_left
    ·simp only [Act.put, List.setIfInBounds_toArray, List.set_cons_zero, List.set_cons_succ, i64_w, i32_w]
     rfl
    refine pure_ (i := 22) (N := some 28) (v := undef) (a' := ?_) (bN 55 8388607) rfl rfl (any_of HT_.out (by kernel_rfl)) (fun _ _ _ h => h) (Or.inr ⟨by rfl, rfl⟩) ?_ ?_
    rotate_left
    ·simp only [Act.put, List.setIfInBounds_toArray, List.set_cons_zero, List.set_cons_succ, i64_w, i32_w]
     rfl
    refine pure_ (i := 23) (N := some 29) (v := undef) (a' := ?_) (bN 55 16777215) rfl rfl (any_of HT_.out (by kernel_rfl)) (fun _ _ _ h => h) (Or.inr ⟨by rfl, rfl⟩) ?_ ?_
    rotate_left
    ·simp only [Act.put, List.setIfInBounds_toArray, List.set_cons_zero, List.set_cons_succ, i64_w, i32_w]
     rfl
    refine pure_ (i := 24) (N := some 30) (v := undef) (a' := ?_) (bN 55 33554431) rfl rfl (any_of HT_.out (by kernel_rfl)) (fun _ _ _ h => h) (Or.inr ⟨by rfl, rfl⟩) ?_ ?_
    rotate_left
    ·simp only [Act.put, List.setIfInBounds_toArray, List.set_cons_zero, List.set_cons_succ, i64_w, i32_w]
     rfl
    refine pure_ (i := 25) (N := some 31) (v := undef) (a' := ?_) (bN 55 67108863) rfl rfl (any_of HT_.out (by kernel_rfl)) (fun _ _ _ h => h) (Or.inr ⟨by rfl, rfl⟩) ?_ ?_
    rotate_left
    ·simp only [Act.put, List.setIfInBounds_toArray, List.set_cons_zero, List.set_cons_succ, i64_w, i32_w]
     rfl
    refine pure_ (i := 26) (N := some 32) (v := undef) (a' := ?_) (bN 55 134217727) rfl rfl (any_of HT_.out (by kernel_rfl)) (fun _ _ _ h => h) (Or.inr ⟨by rfl, rfl⟩) ?_ ?_
    rotate_left
    ·simp only [Act.put, List.setIfInBounds_toArray, List.set_cons_zero, List.set_cons_succ, i64_w, i32_w]
     rfl
    refine pure_ (i := 27) (N := some 33) (v := undef) (a' := ?_) (bN 55 268435455) rfl rfl (any_of HT_.out (by kernel_rfl)) (fun _ _ _ h => h) (Or.inr ⟨by rfl, rfl⟩) ?_ ?_
    rotate_left
    ·simp only [Act.put, List.setIfInBounds_toArray, List.set_cons_zero, List.set_cons_succ, i64_w, i32_w]
     rfl
    refine pure_ (i := 28) (N := some 34) (v := undef) (a' := ?_) (bN 55 536870911) rfl rfl (any_of HT_.out (by kernel_rfl)) (fun _ _ _ h => h) (Or.inr ⟨by rfl, rfl⟩) ?_ ?_
    rotate_left
    ·simp only [Act.put, List.setIfInBounds_toArray, List.set_cons_zero, List.set_cons_succ, i64_w, i32_w]
     rfl
    refine pure_ (i := 29) (N := some 35) (v := undef) (a' := ?_) (bN 55 1073741823) rfl rfl (any_of HT_.out (by kernel_rfl)) (fun _ _ _ h => h) (Or.inr ⟨by rfl, rfl⟩) ?_ ?_
    rotate_left
    ·simp only [Act.put, List.setIfInBounds_toArray, List.set_cons_zero, List.set_cons_succ, i64_w, i32_w]
     rfl
    refine pure_ (i := 30) (N := some 36) (v := ?_) (a' := ?_) (bN 55 2147483647) rfl rfl (any_of HT_.out (by kernel_rfl)) (fun _ _ _ h => h) (Or.inl ⟨by rfl, ?_⟩) ?_ ?_
    rotate_left
    ·intro w'
     go_simp
     with_reducible rfl
    rotate_left
    ·simp only [Act.put, List.setIfInBounds_toArray, List.set_cons_zero, List.set_cons_succ, i64_w, i32_w]
     rfl
    refine pure_ (i := 31) (N := some 37) (v := ?_) (a' := ?_) (bN 55 4294967295) rfl rfl (any_of HT_.out (by kernel_rfl)) (fun _ _ _ h => h) (Or.inl ⟨by rfl, ?_⟩) ?_ ?_
    rotate_left
    ·intro w'
     go_simp
     with_reducible rfl
    rotate_left
    ·simp only [Act.put, List.setIfInBounds_toArray, List.set_cons_zero, List.set_cons_succ, i64_w, i32_w]
     rfl
    refine pure_ (i := 32) (N := some 38) (v := undef) (a' := ?_) (bN 55 8589934591) rfl rfl (any_of HT_.out (by kernel_rfl)) (fun _ _ _ h => h) (Or.inr ⟨by rfl, rfl⟩) ?_ ?_
    rotate_left
    ·simp only [Act.put, List.setIfInBounds_toArray, List.set_cons_zero, List.set_cons_succ, i64_w, i32_w]
     rfl
    refine pure_ (i := 33) (N := some 39) (v := undef) (a' := ?_) (bN 55 17179869183) rfl rfl (any_of HT_.out (by kernel_rfl)) (fun _ _ _ h => h) (Or.inr ⟨by rfl, rfl⟩) ?_ ?_
    rotate_left
    ·simp only [Act.put, List.setIfInBounds_toArray, List.set_cons_zero, List.set_cons_succ, i64_w, i32_w]
     rfl
    refine pure_ (i := 34) (N := some 40) (v := undef) (a' := ?_) (bN 55 34359738367) rfl rfl (any_of HT_.out (by kernel_rfl)) (fun _ _ _ h => h) (Or.inr ⟨by rfl, rfl⟩) ?_ ?_
    rotate_left
    ·simp only [Act.put, List.setIfInBounds_toArray, List.set_cons_zero, List.set_cons_succ, i64_w, i32_w]
     rfl
    refine pure_ (i := 35) (N := some 41) (v := undef) (a' := ?_) (bN 55 68719476735) rfl rfl (any_of HT_.out (by kernel_rfl)) (fun _ _ _ h => h) (Or.inr ⟨by rfl, rfl⟩) ?_ ?_
    rotate_left
    ·simp only [Act.put, List.setIfInBounds_toArray, List.set_cons_zero, List.set_cons_succ, i64_w, i32_w]
     rfl
    refine pure_ (i := 36) (N := some 42) (v := undef) (a' := ?_) (bN 55 137438953471) rfl rfl (any_of HT_.out (by kernel_rfl)) (fun _ _ _ h => h) (Or.inr ⟨by rfl, rfl⟩) ?_ ?_
    rotate_left
    ·simp only [Act.put, List.setIfInBounds_toArray, List.set_cons_zero, List.set_cons_succ, i64_w, i32_w]
     rfl
    refine pure_ (i := 37) (N := some 43) (v := undef) (a' := ?_) (bN 55 274877906943) rfl rfl (any_of HT_.out (by kernel_rfl)) (fun _ _ _ h => h) (Or.inr ⟨by rfl, rfl⟩) ?_ ?_
    rotate_left
    ·simp only [Act.put, List.setIfInBounds_toArray, List.set_cons_zero, List.set_cons_succ, i64_w, i32_w]
     rfl
    refine pure_ (i := 38) (N := some 44) (v := undef) (a' := ?_) (bN 55 549755813887) rfl rfl (any_of HT_.out (by kernel_rfl)) (fun _ _ _ h => h) (Or.inr ⟨by rfl, rfl⟩) ?_ ?_
    rotate_left
    ·simp only [Act.put, List.setIfInBounds_toArray, List.set_cons_zero, List.set_cons_succ, i64_w, i32_w]
     rfl
    refine pure_ (i := 39) (N := some 45) (v := undef) (a' := ?_) (bN 55 1099511627775) rfl rfl (any_of HT_.out (by kernel_rfl)) (fun _ _ _ h => h) (Or.inr ⟨by rfl, rfl⟩) ?_ ?_
    rotate_left
    ·simp only [Act.put, List.setIfInBounds_toArray, List.set_cons_zero, List.set_cons_succ, i64_w, i32_w]
     rfl
    refine pure_ (i := 40) (N := some 46) (v := undef) (a' := ?_) (bN 55 2199023255551) rfl rfl (any_of HT_.out (by kernel_rfl)) (fun _ _ _ h => h) (Or.inr ⟨by rfl, rfl⟩) ?_ ?_
    rotate_left
    ·simp only [Act.put, List.setIfInBounds_toArray, List.set_cons_zero, List.set_cons_succ, i64_w, i32_w]
     rfl
    refine pure_ (i := 41) (N := some 47) (v := ?_) (a' := ?_) (bN 55 4398046511103) rfl rfl (any_of HT_.out (by kernel_rfl)) (fun _ _ _ h => h) (Or.inl ⟨by rfl, ?_⟩) ?_ ?_
    rotate_left
    ·intro w'
     go_simp
     with_reducible rfl
    rotate_left
    ·simp only [Act.put, List.setIfInBounds_toArray, List.set_cons_zero, List.set_cons_succ, i64_w, i32_w]
     rfl
    refine pure_ (i := 42) (N := some 48) (v := ?_) (a' := ?_) (bN 55 8796093022207) rfl rfl (any_of HT_.out (by kernel_rfl)) (fun _ _ _ h => h) (Or.inl ⟨by rfl, ?_⟩) ?_ ?_
    rotate_left
    ·intro w'
     go_simp
     with_reducible rfl
    rotate_left
    ·simp only [Act.put, List.setIfInBounds_toArray, List.set_cons_zero, List.set_cons_succ, i64_w, i32_w]
     rfl
    refine pure_ (i := 43) (N := some 49) (v := undef) (a' := ?_) (bN 55 17592186044415) rfl rfl (any_of HT_.out (by kernel_rfl)) (fun _ _ _ h => h) (Or.inr ⟨by rfl, rfl⟩) ?_ ?_
    rotate_left
    ·simp only [Act.put, List.setIfInBounds_toArray, List.set_cons_zero, List.set_cons_succ, i64_w, i32_w]
     rfl
    refine pure_ (i := 44) (N := some 50) (v := undef) (a' := ?_) (bN 55 35184372088831) rfl rfl (any_of HT_.out (by kernel_rfl)) (fun _ _ _ h => h) (Or.inr ⟨by rfl, rfl⟩) ?_ ?_
    rotate_left
    ·simp only [Act.put, List.setIfInBounds_toArray, List.set_cons_zero, List.set_cons_succ, i64_w, i32_w]
     rfl
    refine pure_ (i := 45) (N := some 51) (v := undef) (a' := ?_) (bN 55 70368744177663) rfl rfl (any_of HT_.out (by kernel_rfl)) (fun _ _ _ h => h) (Or.inr ⟨by rfl, rfl⟩) ?_ ?_
    rotate_left
    ·simp only [Act.put, List.setIfInBounds_toArray, List.set_cons_zero, List.set_cons_succ, i64_w, i32_w]
     rfl
    refine pure_ (i := 46) (N := some 52) (v := undef) (a' := ?_) (bN 55 140737488355327) rfl rfl (any_of HT_.out (by kernel_rfl)) (fun _ _ _ h => h) (Or.inr ⟨by rfl, rfl⟩) ?_ ?_
    rotate_left
    ·simp only [Act.put, List.setIfInBounds_toArray, List.set_cons_zero, List.set_cons_succ, i64_w, i32_w]
     rfl
    refine pure_ (i := 47) (N := some 53) (v := undef) (a' := ?_) (bN 55 281474976710655) rfl rfl (any_of HT_.out (by kernel_rfl)) (fun _ _ _ h => h) (Or.inr ⟨by rfl, rfl⟩) ?_ ?_
    rotate_left
    ·simp only [Act.put, List.setIfInBounds_toArray, List.set_cons_zero, List.set_cons_succ, i64_w, i32_w]
     rfl
    refine pure_ (i := 48) (N := some 54) (v := undef) (a' := ?_) (bN 55 562949953421311) rfl rfl (any_of HT_.out (by kernel_rfl)) (fun _ _ _ h => h) (Or.inr ⟨by rfl, rfl⟩) ?_ ?_
    rotate_left
    ·simp only [Act.put, List.setIfInBounds_toArray, List.set_cons_zero, List.set_cons_succ, i64_w, i32_w]
     rfl
    refine pure_ (i := 49) (N := some 55) (v := undef) (a' := ?_) (bN 55 1125899906842623) rfl rfl (any_of HT_.out (by kernel_rfl)) (fun _ _ _ h => h) (Or.inr ⟨by rfl, rfl⟩) ?_ ?_
    rotate_left
    ·simp only [Act.put, List.setIfInBounds_toArray, List.set_cons_zero, List.set_cons_succ, i64_w, i32_w]
     rfl
    refine pure_ (i := 50) (N := some 56) (v := undef) (a' := ?_) (bN 55 2251799813685247) rfl rfl (any_of HT_.out (by kernel_rfl)) (fun _ _ _ h => h) (Or.inr ⟨by rfl, rfl⟩) ?_ ?_
    rotate_left
    ·simp only [Act.put, List.setIfInBounds_toArray, List.set_cons_zero, List.set_cons_succ, i64_w, i32_w]
     rfl
    refine pure_ (i := 51) (N := some 57) (v := undef) (a' := ?_) (bN 55 4503599627370495) rfl rfl (any_of HT_.out (by kernel_rfl)) (fun _ _ _ h => h) (Or.inr ⟨by rfl, rfl⟩) ?_ ?_
    rotate_left
    ·simp only [Act.put, List.setIfInBounds_toArray, List.set_cons_zero, List.set_cons_succ, i64_w, i32_w]
     rfl
    refine pure_ (i := 52) (N := some 58) (v := undef) (a' := ?_) (bN 55 9007199254740991) rfl rfl (any_of HT_.out (by kernel_rfl)) (fun _ _ _ h => h) (Or.inr ⟨by rfl, rfl⟩) ?_ ?_
    rotate_left
    ·simp only [Act.put, List.setIfInBounds_toArray, List.set_cons_zero, List.set_cons_succ, i64_w, i32_w]
     rfl
    refine pure_ (i := 53) (N := some 59) (v := undef) (a' := ?_) (bN 55 18014398509481983) rfl rfl (any_of HT_.out (by kernel_rfl)) (fun _ _ _ h => h) (Or.inr ⟨by rfl, rfl⟩) ?_ ?_
    rotate_left
    ·simp only [Act.put, List.setIfInBounds_toArray, List.set_cons_zero, List.set_cons_succ, i64_w, i32_w]
     rfl
    refine pure_ (i := 54) (N := some 60) (v := ?_) (a' := ?_) (bN 55 36028797018963967) rfl rfl (any_of HT_.out (by kernel_rfl)) (fun _ _ _ h => h) (Or.inl ⟨by rfl, ?_⟩) ?_ ?_
    rotate_left
    ·intro w'
     go_simp
     with_reducible rfl
    rotate_left
    ·simp only [Act.put, List.setIfInBounds_toArray, List.set_cons_zero, List.set_cons_succ, i64_w, i32_w]
     rfl
    refine done_ (done_of HT_.out (by kernel_rfl)) ?_
    try go_wp2
    go_meet
    case rel => exact ⟨_, (true), sr, H', ⟨by first | omega | exact Nat.le_refl _⟩, ⟨sb⟩⟩
   rw [if_neg c5] at H
   exact absurd H (by simp)
  rw [if_neg c4] at H
  exact absurd H (by simp)
 case rest =>
  clear HC3
  try clear c1
  try clear p1
  try clear q1
  try clear hx1
  try clear qi1
  try clear p2
  try clear c4
  try clear c5
  try clear c6
  try clear c6b0
  try clear c6b1
  try clear c13
  try clear p13
  try clear q13
  try clear hx13
  try clear qi13
  try clear hx135_0
  try clear hx135_1
  try clear hx135_2
  try clear hx135_3
  try clear hx135_4
  try clear hx135_5
  try clear hx135_6
  try clear hx135_7
  try clear hx136_0
  try clear hx136_1
  try clear hx136_2
  try clear hx136_3
  try clear hx136_4
  try clear hx136_5
  try clear hx136_6
  try clear hx136_7
  try clear p135
  try clear p136
  try clear q135
  try clear q136
  obtain ⟨kq, x60_2, rfl, HA, HJ2, HB⟩ := hcut
  cases kq with
  | zero => exact absurd HA.out (by simp [spec_l22Same.j0])
  | succ kj2 =>
   have H := HA.out
   clear HA
   simp only [spec_l22Same.j0] at H
   by_cases c15 : x60_2 = true
   ·subst c15
    rewrite [if_pos rfl] at H
    obtain rfl := Option.some.inj H
    go_wp2
    go_ret
    exact ⟨sq, sb⟩
   replace c15 := Bool.eq_false_iff.mpr c15
   subst c15
   rewrite [if_neg (show ¬ (false = true) by decide)] at H
   have H' := Aside0.mk H
   clear H
   go_wp2
   go_loopg [5] kj2 (fun kq v5 w' => ∃ (x5_2 : Int), v5 = .int .i64 x5_2 ∧ Aside0 (spec_l22Same.l0 kq l0 l1 x5_2 = some r) ∧ Aside0 (kq ≤ kj2) ∧ Aside0 (Below w.heap.size w w'))
   case atStart => exact ⟨(0), sr, H', ⟨Nat.le_refl _⟩, ⟨sb⟩⟩
   case round =>
    clear H'
    try clear c1
    try clear p1
    try clear q1
    try clear hx1
    try clear qi1
    try clear p2
    try clear c4
    try clear c5
    try clear c6
    try clear c6b0
    try clear c6b1
    try clear c13
    try clear p13
    try clear q13
    try clear hx13
    try clear qi13
    try clear c15
    try clear hx135_0
    try clear hx135_1
    try clear hx135_2
    try clear hx135_3
    try clear hx135_4
    try clear hx135_5
    try clear hx135_6
    try clear hx135_7
    try clear hx136_0
    try clear hx136_1
    try clear hx136_2
    try clear hx136_3
    try clear hx136_4
    try clear hx136_5
    try clear hx136_6
    try clear hx136_7
    try clear p1
    try clear p13
    try clear p135
    try clear p136
    try clear p2
    try clear q1
    try clear q13
    try clear q135
    try clear q136
    obtain ⟨x5_2, rfl, HA, HK2, HB⟩ := hrel
    cases gk with
    | zero => exact absurd HA.out (by simp [spec_l22Same.l0])
    | succ k2 =>
     have H := HA.out
     clear HA
     simp only [spec_l22Same.l0] at H
     by_cases c16 : 0 < (l0.length : Int)
     ·rw [if_pos c16] at H
      have c16b0 := decide_eq_true c16
      have c16b1 : decide (0 < l0.length) = true := decide_eq_true (by omega)
      clear c16
      by_cases c17 : x5_2 < (((rd_T57 l0 0).f4).length : Int)
      ·rw [if_pos c17] at H
       have c17b0 := decide_eq_true c17
       clear c17
       by_cases c18 : 0 ≤ x5_2
       ·rw [if_pos c18] at H
        have c18b0 := decide_eq_true c18
        clear c18
        by_cases c19 : 0 < (l1.length : Int)
        ·rw [if_pos c19] at H
         have c19b0 := decide_eq_true c19
         have c19b1 : decide (0 < l1.length) = true := decide_eq_true (by omega)
         clear c19
         by_cases c20 : x5_2 < (((rd_T57 l1 0).f4).length : Int)
         ·rw [if_pos c20] at H
          have c20b0 := decide_eq_true c20
          clear c20
          obtain ⟨t150, A21, H⟩ := sO H
          by_cases c22 : t150 = true
          ·subst c22
           rewrite [if_pos rfl] at H
           have H' := Aside0.mk H
           clear H
           have p145 : 0 ≤ (0 : Int) := (by omega)
           have q145 : 0 < (l0.length : Int) := of_decide_eq_true (by first | (with_reducible assumption) | assumption)
           obtain ⟨ad145, A145_7, c145_7, e145, hx145_0, hx145_1, hx145_2, hx145_3, hx145_4, hx145_5, hx145_6, hx145_7, hl145_7, hi145_7⟩ := at_T57 HR0.out 0 p145 q145
           cases e145
           have qi145 : (0 < l0.length) = True := eq_true (by omega)
           (try rw [sZ] at hx145_0)
           (try rw [sZ] at hx145_1)
           (try rw [sZ] at hx145_2)
           (try rw [sZ] at hx145_3)
           (try rw [sZ] at hx145_4)
           (try rw [sZ] at hx145_5)
           (try rw [sZ] at hx145_6)
           (try rw [sZ] at hx145_7)
           replace hx145_0 := sX HB hx145_0
           replace hx145_1 := sX HB hx145_1
           replace hx145_2 := sX HB hx145_2
           replace hx145_3 := sX HB hx145_3
           replace hx145_4 := sX HB hx145_4
           replace hx145_5 := sX HB hx145_5
           replace hx145_6 := sX HB hx145_6
           replace hx145_7 := sX HB hx145_7
           have HR145_7 := Aside0.mk hi145_7
           have HC145_7 := Aside0.mk hl145_7
           clear hi145_7 hl145_7
           replace p145 := eq_true p145
           replace q145 := eq_true q145
           try go_wp2
           have n0_ := Aside0.mk (below_drew1 HB.out)
           clear HB
           have HB := n0_
           clear n0_
           have p146 : 0 ≤ (0 : Int) := (by omega)
           have q146 : 0 < (l0.length : Int) := of_decide_eq_true (by first | (with_reducible assumption) | assumption)
           obtain ⟨ad146, A146_7, c146_7, e146, hx146_0, hx146_1, hx146_2, hx146_3, hx146_4, hx146_5, hx146_6, hx146_7, hl146_7, hi146_7⟩ := at_T57 HR0.out 0 p146 q146
           have hw146_7 := hx146_7
           (try rw [sZ] at hw146_7)
           have hw146_6 := hx146_6
           (try rw [sZ] at hw146_6)
           have hw146_5 := hx146_5
           (try rw [sZ] at hw146_5)
           have hw146_4 := hx146_4
           (try rw [sZ] at hw146_4)
           have hw146_3 := hx146_3
           (try rw [sZ] at hw146_3)
           have hw146_2 := hx146_2
           (try rw [sZ] at hw146_2)
           have hw146_1 := hx146_1
           (try rw [sZ] at hw146_1)
           have hw146_0 := hx146_0
           (try rw [sZ] at hw146_0)
           obtain rfl : ad145 = ad146 := (by injection e146)
           have qi146 : (0 < l0.length) = True := eq_true (by omega)
           (try rw [sZ] at hx146_0)
           (try rw [sZ] at hx146_1)
           (try rw [sZ] at hx146_2)
           (try rw [sZ] at hx146_3)
           (try rw [sZ] at hx146_4)
           (try rw [sZ] at hx146_5)
           (try rw [sZ] at hx146_6)
           (try rw [sZ] at hx146_7)
           replace hx146_0 := sX HB hx146_0
           replace hx146_1 := sX HB hx146_1
           replace hx146_2 := sX HB hx146_2
           replace hx146_3 := sX HB hx146_3
           replace hx146_4 := sX HB hx146_4
           replace hx146_5 := sX HB hx146_5
           replace hx146_6 := sX HB hx146_6
           replace hx146_7 := sX HB hx146_7
           have HR146_7 := Aside0.mk hi146_7
           have HC146_7 := Aside0.mk hl146_7
           clear hi146_7 hl146_7
           replace p146 := eq_true p146
           replace q146 := eq_true q146
           have p147 : 0 ≤ (x5_2 : Int) := of_decide_eq_true (by first | (with_reducible assumption) | assumption)
           have q147 : x5_2 < (((rd_T57 l0 0).f4).length : Int) := of_decide_eq_true (by first | (with_reducible assumption) | assumption)
           obtain ⟨ad147, A147_7, c147_7, e147, hx147_0, hx147_1, hx147_2, hx147_3, hx147_4, hx147_5, hx147_6, hx147_7, hl147_7, hi147_7⟩ := at_T57 HR146_7.out x5_2 p147 q147
           have hw147_7 := hx147_7
           have hw147_6 := hx147_6
           have hw147_5 := hx147_5
           have hw147_4 := hx147_4
           have hw147_3 := hx147_3
           have hw147_2 := hx147_2
           have hw147_1 := hx147_1
           have hw147_0 := hx147_0
           cases e147
           replace hx147_0 := sX HB hx147_0
           replace hx147_1 := sX HB hx147_1
           replace hx147_2 := sX HB hx147_2
           replace hx147_3 := sX HB hx147_3
           replace hx147_4 := sX HB hx147_4
           replace hx147_5 := sX HB hx147_5
           replace hx147_6 := sX HB hx147_6
           replace hx147_7 := sX HB hx147_7
           have HR147_7 := Aside0.mk hi147_7
           have HC147_7 := Aside0.mk hl147_7
           clear hi147_7 hl147_7
           replace p147 := eq_true p147
           replace q147 := eq_true q147
           have p148 : 0 ≤ (0 : Int) := (by omega)
           have q148 : 0 < (l1.length : Int) := of_decide_eq_true (by first | (with_reducible assumption) | assumption)
           obtain ⟨ad148, A148_7, c148_7, e148, hx148_0, hx148_1, hx148_2, hx148_3, hx148_4, hx148_5, hx148_6, hx148_7, hl148_7, hi148_7⟩ := at_T57 HR1.out 0 p148 q148
           have hw148_7 := hx148_7
           (try rw [sZ] at hw148_7)
           have hw148_6 := hx148_6
           (try rw [sZ] at hw148_6)
           have hw148_5 := hx148_5
           (try rw [sZ] at hw148_5)
           have hw148_4 := hx148_4
           (try rw [sZ] at hw148_4)
           have hw148_3 := hx148_3
           (try rw [sZ] at hw148_3)
           have hw148_2 := hx148_2
           (try rw [sZ] at hw148_2)
           have hw148_1 := hx148_1
           (try rw [sZ] at hw148_1)
           have hw148_0 := hx148_0
           (try rw [sZ] at hw148_0)
           cases e148
           have qi148 : (0 < l1.length) = True := eq_true (by omega)
           (try rw [sZ] at hx148_0)
           (try rw [sZ] at hx148_1)
           (try rw [sZ] at hx148_2)
           (try rw [sZ] at hx148_3)
           (try rw [sZ] at hx148_4)
           (try rw [sZ] at hx148_5)
           (try rw [sZ] at hx148_6)
           (try rw [sZ] at hx148_7)
           replace hx148_0 := sX HB hx148_0
           replace hx148_1 := sX HB hx148_1
           replace hx148_2 := sX HB hx148_2
           replace hx148_3 := sX HB hx148_3
           replace hx148_4 := sX HB hx148_4
           replace hx148_5 := sX HB hx148_5
           replace hx148_6 := sX HB hx148_6
           replace hx148_7 := sX HB hx148_7
           have HR148_7 := Aside0.mk hi148_7
           have HC148_7 := Aside0.mk hl148_7
           clear hi148_7 hl148_7
           replace p148 := eq_true p148
           replace q148 := eq_true q148
           have p149 : 0 ≤ (x5_2 : Int) := of_decide_eq_true (by first | (with_reducible assumption) | assumption)
           have q149 : x5_2 < (((rd_T57 l1 0).f4).length : Int) := of_decide_eq_true (by first | (with_reducible assumption) | assumption)
           obtain ⟨ad149, A149_7, c149_7, e149, hx149_0, hx149_1, hx149_2, hx149_3, hx149_4, hx149_5, hx149_6, hx149_7, hl149_7, hi149_7⟩ := at_T57 HR148_7.out x5_2 p149 q149
           have hw149_7 := hx149_7
           have hw149_6 := hx149_6
           have hw149_5 := hx149_5
           have hw149_4 := hx149_4
           have hw149_3 := hx149_3
           have hw149_2 := hx149_2
           have hw149_1 := hx149_1
           have hw149_0 := hx149_0
           cases e149
           replace hx149_0 := sX HB hx149_0
           replace hx149_1 := sX HB hx149_1
           replace hx149_2 := sX HB hx149_2
           replace hx149_3 := sX HB hx149_3
           replace hx149_4 := sX HB hx149_4
           replace hx149_5 := sX HB hx149_5
           replace hx149_6 := sX HB hx149_6
           replace hx149_7 := sX HB hx149_7
           have HR149_7 := Aside0.mk hi149_7
           have HC149_7 := Aside0.mk hl149_7
           clear hi149_7 hl149_7
           replace p149 := eq_true p149
           replace q149 := eq_true q149
           refine start_ (n := 14) (S := fun w' => w'.cell? ad145 = some (.int .i64 ((rd_T57 l0 0).f0)) ∧ w'.cell? ⟨ad145.block, ad145.off + 1, none⟩ = some (.int .i64 ((rd_T57 l0 0).f1)) ∧ w'.cell? ⟨ad145.block, ad145.off + 2, none⟩ = some (.string ((rd_T57 l0 0).f2)) ∧ w'.cell? ⟨ad145.block, ad145.off + 3, none⟩ = some (.int .i64 ((rd_T57 l0 0).f3.f0)) ∧ w'.cell? ⟨ad145.block, ad145.off + 4, none⟩ = some (.int .i64 ((rd_T57 l0 0).f3.f1)) ∧ w'.cell? ⟨ad145.block, ad145.off + 5, none⟩ = some (.string ((rd_T57 l0 0).f3.f2)) ∧ w'.cell? ⟨ad145.block, ad145.off + 6, none⟩ = some (.int .i64 ((rd_T57 l0 0).f3.f3)) ∧ w'.cell? ⟨ad145.block, ad145.off + 7, none⟩ = some (.slice (some ad147) ((rd_T57 l0 0).f4).length c146_7) ∧ w'.cell? (ad147.add ((x5_2).toNat * 8)) = some (.int .i64 ((rd_T57 ((rd_T57 l0 0).f4) x5_2).f0)) ∧ w'.cell? ⟨(ad147.add ((x5_2).toNat * 8)).block, (ad147.add ((x5_2).toNat * 8)).off + 1, none⟩ = some (.int .i64 ((rd_T57 ((rd_T57 l0 0).f4) x5_2).f1)) ∧ w'.cell? ⟨(ad147.add ((x5_2).toNat * 8)).block, (ad147.add ((x5_2).toNat * 8)).off + 2, none⟩ = some (.string ((rd_T57 ((rd_T57 l0 0).f4) x5_2).f2)) ∧ w'.cell? ⟨(ad147.add ((x5_2).toNat * 8)).block, (ad147.add ((x5_2).toNat * 8)).off + 3, none⟩ = some (.int .i64 ((rd_T57 ((rd_T57 l0 0).f4) x5_2).f3.f0)) ∧ w'.cell? ⟨(ad147.add ((x5_2).toNat * 8)).block, (ad147.add ((x5_2).toNat * 8)).off + 4, none⟩ = some (.int .i64 ((rd_T57 ((rd_T57 l0 0).f4) x5_2).f3.f1)) ∧ w'.cell? ⟨(ad147.add ((x5_2).toNat * 8)).block, (ad147.add ((x5_2).toNat * 8)).off + 5, none⟩ = some (.string ((rd_T57 ((rd_T57 l0 0).f4) x5_2).f3.f2)) ∧ w'.cell? ⟨(ad147.add ((x5_2).toNat * 8)).block, (ad147.add ((x5_2).toNat * 8)).off + 6, none⟩ = some (.int .i64 ((rd_T57 ((rd_T57 l0 0).f4) x5_2).f3.f3)) ∧ w'.cell? ⟨(ad147.add ((x5_2).toNat * 8)).block, (ad147.add ((x5_2).toNat * 8)).off + 7, none⟩ = some (.slice A147_7 ((rd_T57 ((rd_T57 l0 0).f4) x5_2).f4).length c147_7) ∧ w'.cell? ad148 = some (.int .i64 ((rd_T57 l1 0).f0)) ∧ w'.cell? ⟨ad148.block, ad148.off + 1, none⟩ = some (.int .i64 ((rd_T57 l1 0).f1)) ∧ w'.cell? ⟨ad148.block, ad148.off + 2, none⟩ = some (.string ((rd_T57 l1 0).f2)) ∧ w'.cell? ⟨ad148.block, ad148.off + 3, none⟩ = some (.int .i64 ((rd_T57 l1 0).f3.f0)) ∧ w'.cell? ⟨ad148.block, ad148.off + 4, none⟩ = some (.int .i64 ((rd_T57 l1 0).f3.f1)) ∧ w'.cell? ⟨ad148.block, ad148.off + 5, none⟩ = some (.string ((rd_T57 l1 0).f3.f2)) ∧ w'.cell? ⟨ad148.block, ad148.off + 6, none⟩ = some (.int .i64 ((rd_T57 l1 0).f3.f3)) ∧ w'.cell? ⟨ad148.block, ad148.off + 7, none⟩ = some (.slice (some ad149) ((rd_T57 l1 0).f4).length c148_7) ∧ w'.cell? (ad149.add ((x5_2).toNat * 8)) = some (.int .i64 ((rd_T57 ((rd_T57 l1 0).f4) x5_2).f0)) ∧ w'.cell? ⟨(ad149.add ((x5_2).toNat * 8)).block, (ad149.add ((x5_2).toNat * 8)).off + 1, none⟩ = some (.int .i64 ((rd_T57 ((rd_T57 l1 0).f4) x5_2).f1)) ∧ w'.cell? ⟨(ad149.add ((x5_2).toNat * 8)).block, (ad149.add ((x5_2).toNat * 8)).off + 2, none⟩ = some (.string ((rd_T57 ((rd_T57 l1 0).f4) x5_2).f2)) ∧ w'.cell? ⟨(ad149.add ((x5_2).toNat * 8)).block, (ad149.add ((x5_2).toNat * 8)).off + 3, none⟩ = some (.int .i64 ((rd_T57 ((rd_T57 l1 0).f4) x5_2).f3.f0)) ∧ w'.cell? ⟨(ad149.add ((x5_2).toNat * 8)).block, (ad149.add ((x5_2).toNat * 8)).off + 4, none⟩ = some (.int .i64 ((rd_T57 ((rd_T57 l1 0).f4) x5_2).f3.f1)) ∧ w'.cell? ⟨(ad149.add ((x5_2).toNat * 8)).block, (ad149.add ((x5_2).toNat * 8)).off + 5, none⟩ = some (.string ((rd_T57 ((rd_T57 l1 0).f4) x5_2).f3.f2)) ∧ w'.cell? ⟨(ad149.add ((x5_2).toNat * 8)).block, (ad149.add ((x5_2).toNat * 8)).off + 6, none⟩ = some (.int .i64 ((rd_T57 ((rd_T57 l1 0).f4) x5_2).f3.f3)) ∧ w'.cell? ⟨(ad149.add ((x5_2).toNat * 8)).block, (ad149.add ((x5_2).toNat * 8)).off + 7, none⟩ = some (.slice A149_7 ((rd_T57 ((rd_T57 l1 0).f4) x5_2).f4).length c149_7)) (ds := []) #[false, false, false, false, false, false, false, false, false, false, false, false, false, false] (by kernel_rfl) rfl rfl ⟨((HB.out.cell (World.block_lt_of_cell? w _ hw146_0)).trans hw146_0), ((HB.out.cell (World.block_lt_of_cell? w _ hw146_1)).trans hw146_1), ((HB.out.cell (World.block_lt_of_cell? w _ hw146_2)).trans hw146_2), ((HB.out.cell (World.block_lt_of_cell? w _ hw146_3)).trans hw146_3), ((HB.out.cell (World.block_lt_of_cell? w _ hw146_4)).trans hw146_4), ((HB.out.cell (World.block_lt_of_cell? w _ hw146_5)).trans hw146_5), ((HB.out.cell (World.block_lt_of_cell? w _ hw146_6)).trans hw146_6), ((HB.out.cell (World.block_lt_of_cell? w _ hw146_7)).trans hw146_7), ((HB.out.cell (World.block_lt_of_cell? w _ hw147_0)).trans hw147_0), ((HB.out.cell (World.block_lt_of_cell? w _ hw147_1)).trans hw147_1), ((HB.out.cell (World.block_lt_of_cell? w _ hw147_2)).trans hw147_2), ((HB.out.cell (World.block_lt_of_cell? w _ hw147_3)).trans hw147_3), ((HB.out.cell (World.block_lt_of_cell? w _ hw147_4)).trans hw147_4), ((HB.out.cell (World.block_lt_of_cell? w _ hw147_5)).trans hw147_5), ((HB.out.cell (World.block_lt_of_cell? w _ hw147_6)).trans hw147_6), ((HB.out.cell (World.block_lt_of_cell? w _ hw147_7)).trans hw147_7), ((HB.out.cell (World.block_lt_of_cell? w _ hw148_0)).trans hw148_0), ((HB.out.cell (World.block_lt_of_cell? w _ hw148_1)).trans hw148_1), ((HB.out.cell (World.block_lt_of_cell? w _ hw148_2)).trans hw148_2), ((HB.out.cell (World.block_lt_of_cell? w _ hw148_3)).trans hw148_3), ((HB.out.cell (World.block_lt_of_cell? w _ hw148_4)).trans hw148_4), ((HB.out.cell (World.block_lt_of_cell? w _ hw148_5)).trans hw148_5), ((HB.out.cell (World.block_lt_of_cell? w _ hw148_6)).trans hw148_6), ((HB.out.cell (World.block_lt_of_cell? w _ hw148_7)).trans hw148_7), ((HB.out.cell (World.block_lt_of_cell? w _ hw149_0)).trans hw149_0), ((HB.out.cell (World.block_lt_of_cell? w _ hw149_1)).trans hw149_1), ((HB.out.cell (World.block_lt_of_cell? w _ hw149_2)).trans hw149_2), ((HB.out.cell (World.block_lt_of_cell? w _ hw149_3)).trans hw149_3), ((HB.out.cell (World.block_lt_of_cell? w _ hw149_4)).trans hw149_4), ((HB.out.cell (World.block_lt_of_cell? w _ hw149_5)).trans hw149_5), ((HB.out.cell (World.block_lt_of_cell? w _ hw149_6)).trans hw149_6), ((HB.out.cell (World.block_lt_of_cell? w _ hw149_7)).trans hw149_7)⟩ (fun hHeld => ?_); refine with_tabW spec_l22Same.tab6 spec_l22Same.bits6 (fun HT_ HW_ => ?_)
           generalize wr.drew = w23 at HB HR146_7 HR147_7 HR148_7 HR149_7 hx146_0 hx146_1 hx146_2 hx146_3 hx146_4 hx146_5 hx146_6 hx146_7 hx147_0 hx147_1 hx147_2 hx147_3 hx147_4 hx147_5 hx147_6 hx147_7 hx148_0 hx148_1 hx148_2 hx148_3 hx148_4 hx148_5 hx148_6 hx148_7 hx149_0 hx149_1 hx149_2 hx149_3 hx149_4 hx149_5 hx149_6 hx149_7 hHeld ⊢
           refine pure_ (i := 0) (N := some 70) (v := ?_) (a' := ?_) (bN 14 1) rfl rfl (any_of HT_.out (by kernel_rfl)) (fun _ _ _ h => h) (Or.inl ⟨by rfl, ?_⟩) ?_ ?_
           rotate_left
           ·intro w'
            go_simp
            with_reducible rfl
           rotate_left
           ·simp only [Act.put, List.setIfInBounds_toArray, List.set_cons_zero, List.set_cons_succ, i64_w, i32_w]
            rfl
           refine pure_ (i := 1) (N := some 71) (v := ?_) (a' := ?_) (bN 14 3) rfl rfl (any_of HT_.out (by kernel_rfl)) (fun _ _ _ h => h) (Or.inl ⟨by rfl, ?_⟩) ?_ ?_
           rotate_left
           ·intro w'
            go_simp
            with_reducible rfl
           rotate_left
           ·simp only [Act.put, List.setIfInBounds_toArray, List.set_cons_zero, List.set_cons_succ, i64_w, i32_w]
            rfl
           refine pure_ (i := 2) (N := some 72) (v := ?_) (a' := ?_) (bN 14 7) rfl rfl (any_of HT_.out (by kernel_rfl)) (fun _ _ _ h => h) (Or.inl ⟨by rfl, ?_⟩) ?_ ?_
           rotate_left
           ·intro w'
            go_simp
            with_reducible rfl
           rotate_left
           ·simp only [Act.put, List.setIfInBounds_toArray, List.set_cons_zero, List.set_cons_succ, i64_w, i32_w]
            rfl
           refine pure_ (i := 4) (N := some 74) (v := ?_) (a' := ?_) (bN 14 23) rfl rfl (any_of HT_.out (by kernel_rfl)) (fun _ _ _ h => h) (Or.inl ⟨by rfl, ?_⟩) ?_ ?_
           rotate_left
           ·intro w'
            go_simp
            with_reducible rfl
           rotate_left
           ·simp only [Act.put, List.setIfInBounds_toArray, List.set_cons_zero, List.set_cons_succ, i64_w, i32_w]
            rfl
           refine pure_ (i := 6) (N := some 76) (v := ?_) (a' := ?_) (bN 14 87) rfl rfl (any_of HT_.out (by kernel_rfl)) (fun _ _ _ h => h) (Or.inl ⟨by rfl, ?_⟩) ?_ ?_
           rotate_left
           ·intro w'
            go_simp
            with_reducible rfl
           rotate_left
           ·simp only [Act.put, List.setIfInBounds_toArray, List.set_cons_zero, List.set_cons_succ, i64_w, i32_w]
            rfl
           refine pure_ (i := 7) (N := some 77) (v := ?_) (a' := ?_) (bN 14 215) rfl rfl (any_of HT_.out (by kernel_rfl)) (fun _ _ _ h => h) (Or.inl ⟨by rfl, ?_⟩) ?_ ?_
           rotate_left
           ·intro w'
            go_simp
            with_reducible rfl
           rotate_left
           ·simp only [Act.put, List.setIfInBounds_toArray, List.set_cons_zero, List.set_cons_succ, i64_w, i32_w]
            rfl
           refine pure_ (i := 8) (N := some 78) (v := ?_) (a' := ?_) (bN 14 471) rfl rfl (any_of HT_.out (by kernel_rfl)) (fun _ _ _ h => h) (Or.inl ⟨by rfl, ?_⟩) ?_ ?_
           rotate_left
           ·intro w'
            go_simp
            with_reducible rfl
           rotate_left
           ·simp only [Act.put, List.setIfInBounds_toArray, List.set_cons_zero, List.set_cons_succ, i64_w, i32_w]
            rfl
           refine pure_ (i := 10) (N := some 80) (v := ?_) (a' := ?_) (bN 14 1495) rfl rfl (any_of HT_.out (by kernel_rfl)) (fun _ _ _ h => h) (Or.inl ⟨by rfl, ?_⟩) ?_ ?_
           rotate_left
           ·intro w'
            go_simp
            with_reducible rfl
           rotate_left
           ·simp only [Act.put, List.setIfInBounds_toArray, List.set_cons_zero, List.set_cons_succ, i64_w, i32_w]
            rfl
           refine take_ (i := 3) (N := some 73) (v := ?_) (a' := ?_) (bN 14 1503) rfl rfl (take_ofW HT_.out HW_.out (by kernel_rfl)) (fun _ _ _ h => h) (Or.inl ⟨by rfl, ?_⟩) hHeld ?_ ?_
           rotate_left
           ·rintro w' ⟨s0, s1, s2, s3, s4, s5, s6, s7, s8, s9, s10, s11, s12, s13, s14, s15, s16, s17, s18, s19, s20, s21, s22, s23, s24, s25, s26, s27, s28, s29, s30, s31⟩
            go_simp
            with_reducible rfl
           rotate_left
           ·simp only [Act.put, List.setIfInBounds_toArray, List.set_cons_zero, List.set_cons_succ, i64_w, i32_w]
            rfl
           refine pure_ (i := 5) (N := some 75) (v := ?_) (a' := ?_) (bN 14 1535) rfl rfl (any_of HT_.out (by kernel_rfl)) (fun _ _ _ h => h) (Or.inl ⟨by rfl, ?_⟩) ?_ ?_
           rotate_left
           ·intro w'
            go_simp
            with_reducible rfl
           rotate_left
           ·simp only [Act.put, List.setIfInBounds_toArray, List.set_cons_zero, List.set_cons_succ, i64_w, i32_w]
            rfl
           refine take_ (i := 9) (N := some 79) (v := ?_) (a' := ?_) (bN 14 2047) rfl rfl (take_ofW HT_.out HW_.out (by kernel_rfl)) (fun _ _ _ h => h) (Or.inl ⟨by rfl, ?_⟩) hHeld ?_ ?_
           rotate_left
           ·rintro w' ⟨s0, s1, s2, s3, s4, s5, s6, s7, s8, s9, s10, s11, s12, s13, s14, s15, s16, s17, s18, s19, s20, s21, s22, s23, s24, s25, s26, s27, s28, s29, s30, s31⟩
            go_simp
            with_reducible rfl
           rotate_left
           ·simp only [Act.put, List.setIfInBounds_toArray, List.set_cons_zero, List.set_cons_succ, i64_w, i32_w]
            rfl
           refine pure_ (i := 11) (N := some 81) (v := ?_) (a' := ?_) (bN 14 4095) rfl rfl (any_of HT_.out (by kernel_rfl)) (fun _ _ _ h => h) (Or.inl ⟨by rfl, ?_⟩) ?_ ?_
           rotate_left
           ·intro w'
            go_simp
            with_reducible rfl
           rotate_left
           ·simp only [Act.put, List.setIfInBounds_toArray, List.set_cons_zero, List.set_cons_succ, i64_w, i32_w]
            rfl
           refine one_ (i := 12) (N := some 82) (bN 14 8191) rfl rfl (one_of HT_.out (by kernel_rfl)) (by decide) (fun K hK => ?_)
           refine goes_ Try.func74 (by kernel_rfl) rfl #[.pointer (some (ad147.add ((x5_2).toNat * 8))), .pointer (some (ad149.add ((x5_2).toNat * 8)))] (by rfl) rfl rfl (by (try simp only [List.map_toArray, List.map_cons, List.map_nil]); first | done | rfl | (simp only [List.length_drop, List.length_take]; rfl)) ?_
           with_reducible refine (ih k2 (by have := HJ2.out; have := HK2.out; omega) _ [rd_T57 ((rd_T57 l0 0).f4) x5_2] _ [rd_T57 ((rd_T57 l1 0).f4) x5_2] true _ ?side1 ?side2 A21.out).mono ?_
           (case side1 => first | exact (C_one (by exact sD (Kd.C_below HR146_7.out HB.out)) z57 (x5_2 : Int) (of_eq_true p147) (by have h_ := q147; first | exact of_eq_true h_ | exact h_ | exact of_decide_eq_true (by assumption))) | (have h_ := (C_one (by exact sD (Kd.C_below HR146_7.out HB.out)) z57 (x5_2 : Int) (of_eq_true p147) (by have h_ := q147; first | exact of_eq_true h_ | exact h_ | exact of_decide_eq_true (by assumption))); first | exact h_ | simpa using h_))
           (case side2 => first | exact (C_one (by exact sD (Kd.C_below HR148_7.out HB.out)) z57 (x5_2 : Int) (of_eq_true p149) (by have h_ := q149; first | exact of_eq_true h_ | exact h_ | exact of_decide_eq_true (by assumption))) | (have h_ := (C_one (by exact sD (Kd.C_below HR148_7.out HB.out)) z57 (x5_2 : Int) (of_eq_true p149) (by have h_ := q149; first | exact of_eq_true h_ | exact h_ | exact of_decide_eq_true (by assumption))); first | exact h_ | simpa using h_))
           rintro e w24 ⟨rfl, hb⟩
           refine ⟨_, rfl, ?_⟩
           have n0_ := sB HB hb
           clear HB
           have HB := n0_
           clear n0_
           (try clear hb)
           (try clear hb2)
           (try clear hk)
           (try clear hi)
           refine hK.out _ _ ⟨((HB.out.cell (World.block_lt_of_cell? w _ hw146_0)).trans hw146_0), ((HB.out.cell (World.block_lt_of_cell? w _ hw146_1)).trans hw146_1), ((HB.out.cell (World.block_lt_of_cell? w _ hw146_2)).trans hw146_2), ((HB.out.cell (World.block_lt_of_cell? w _ hw146_3)).trans hw146_3), ((HB.out.cell (World.block_lt_of_cell? w _ hw146_4)).trans hw146_4), ((HB.out.cell (World.block_lt_of_cell? w _ hw146_5)).trans hw146_5), ((HB.out.cell (World.block_lt_of_cell? w _ hw146_6)).trans hw146_6), ((HB.out.cell (World.block_lt_of_cell? w _ hw146_7)).trans hw146_7), ((HB.out.cell (World.block_lt_of_cell? w _ hw147_0)).trans hw147_0), ((HB.out.cell (World.block_lt_of_cell? w _ hw147_1)).trans hw147_1), ((HB.out.cell (World.block_lt_of_cell? w _ hw147_2)).trans hw147_2), ((HB.out.cell (World.block_lt_of_cell? w _ hw147_3)).trans hw147_3), ((HB.out.cell (World.block_lt_of_cell? w _ hw147_4)).trans hw147_4), ((HB.out.cell (World.block_lt_of_cell? w _ hw147_5)).trans hw147_5), ((HB.out.cell (World.block_lt_of_cell? w _ hw147_6)).trans hw147_6), ((HB.out.cell (World.block_lt_of_cell? w _ hw147_7)).trans hw147_7), ((HB.out.cell (World.block_lt_of_cell? w _ hw148_0)).trans hw148_0), ((HB.out.cell (World.block_lt_of_cell? w _ hw148_1)).trans hw148_1), ((HB.out.cell (World.block_lt_of_cell? w _ hw148_2)).trans hw148_2), ((HB.out.cell (World.block_lt_of_cell? w _ hw148_3)).trans hw148_3), ((HB.out.cell (World.block_lt_of_cell? w _ hw148_4)).trans hw148_4), ((HB.out.cell (World.block_lt_of_cell? w _ hw148_5)).trans hw148_5), ((HB.out.cell (World.block_lt_of_cell? w _ hw148_6)).trans hw148_6), ((HB.out.cell (World.block_lt_of_cell? w _ hw148_7)).trans hw148_7), ((HB.out.cell (World.block_lt_of_cell? w _ hw149_0)).trans hw149_0), ((HB.out.cell (World.block_lt_of_cell? w _ hw149_1)).trans hw149_1), ((HB.out.cell (World.block_lt_of_cell? w _ hw149_2)).trans hw149_2), ((HB.out.cell (World.block_lt_of_cell? w _ hw149_3)).trans hw149_3), ((HB.out.cell (World.block_lt_of_cell? w _ hw149_4)).trans hw149_4), ((HB.out.cell (World.block_lt_of_cell? w _ hw149_5)).trans hw149_5), ((HB.out.cell (World.block_lt_of_cell? w _ hw149_6)).trans hw149_6), ((HB.out.cell (World.block_lt_of_cell? w _ hw149_7)).trans hw149_7)⟩ (fun hHeld => ?_)
           clear hK K
           refine norm_ (a' := ?_) ?_ ?_
           rotate_left
           ·show Act.put _ (some 82) _ = _
            simp only [Act.put, List.setIfInBounds_toArray, List.set_cons_zero, List.set_cons_succ, i64_w, i32_w]
            rfl
           refine pure_ (i := 13) (N := some 83) (v := ?_) (a' := ?_) (bN 14 16383) rfl rfl (any_of HT_.out (by kernel_rfl)) (fun _ _ _ h => h) (Or.inl ⟨by rfl, ?_⟩) ?_ ?_
           rotate_left
           ·intro w'
            go_simp
            with_reducible rfl
           rotate_left
           ·simp only [Act.put, List.setIfInBounds_toArray, List.set_cons_zero, List.set_cons_succ, i64_w, i32_w]
            rfl
           refine done_ (done_of HT_.out (by kernel_rfl)) ?_
           try go_wp2
           go_roundg k2
           case measure => have := HJ2.out; have := HK2.out; omega
           case rel => exact ⟨(wrap64 (x5_2 + 1)), sr, H', ⟨by have := HJ2.out; have := HK2.out; omega⟩, ⟨sb⟩⟩
          replace c22 := Bool.eq_false_iff.mpr c22
          subst c22
          rewrite [if_neg (show ¬ (false = true) by decide)] at H
          obtain rfl := Option.some.inj H
          have p145 : 0 ≤ (0 : Int) := (by omega)
          have q145 : 0 < (l0.length : Int) := of_decide_eq_true (by first | (with_reducible assumption) | assumption)
          obtain ⟨ad145, A145_7, c145_7, e145, hx145_0, hx145_1, hx145_2, hx145_3, hx145_4, hx145_5, hx145_6, hx145_7, hl145_7, hi145_7⟩ := at_T57 HR0.out 0 p145 q145
          cases e145
          have qi145 : (0 < l0.length) = True := eq_true (by omega)
          (try rw [sZ] at hx145_0)
          (try rw [sZ] at hx145_1)
          (try rw [sZ] at hx145_2)
          (try rw [sZ] at hx145_3)
          (try rw [sZ] at hx145_4)
          (try rw [sZ] at hx145_5)
          (try rw [sZ] at hx145_6)
          (try rw [sZ] at hx145_7)
          replace hx145_0 := sX HB hx145_0
          replace hx145_1 := sX HB hx145_1
          replace hx145_2 := sX HB hx145_2
          replace hx145_3 := sX HB hx145_3
          replace hx145_4 := sX HB hx145_4
          replace hx145_5 := sX HB hx145_5
          replace hx145_6 := sX HB hx145_6
          replace hx145_7 := sX HB hx145_7
          have HR145_7 := Aside0.mk hi145_7
          have HC145_7 := Aside0.mk hl145_7
          clear hi145_7 hl145_7
          replace p145 := eq_true p145
          replace q145 := eq_true q145
          try go_wp2
          have n0_ := Aside0.mk (below_drew1 HB.out)
          clear HB
          have HB := n0_
          clear n0_
          have p146 : 0 ≤ (0 : Int) := (by omega)
          have q146 : 0 < (l0.length : Int) := of_decide_eq_true (by first | (with_reducible assumption) | assumption)
          obtain ⟨ad146, A146_7, c146_7, e146, hx146_0, hx146_1, hx146_2, hx146_3, hx146_4, hx146_5, hx146_6, hx146_7, hl146_7, hi146_7⟩ := at_T57 HR0.out 0 p146 q146
          have hw146_7 := hx146_7
          (try rw [sZ] at hw146_7)
          have hw146_6 := hx146_6
          (try rw [sZ] at hw146_6)
          have hw146_5 := hx146_5
          (try rw [sZ] at hw146_5)
          have hw146_4 := hx146_4
          (try rw [sZ] at hw146_4)
          have hw146_3 := hx146_3
          (try rw [sZ] at hw146_3)
          have hw146_2 := hx146_2
          (try rw [sZ] at hw146_2)
          have hw146_1 := hx146_1
          (try rw [sZ] at hw146_1)
          have hw146_0 := hx146_0
          (try rw [sZ] at hw146_0)
          obtain rfl : ad145 = ad146 := (by injection e146)
          have qi146 : (0 < l0.length) = True := eq_true (by omega)
          (try rw [sZ] at hx146_0)
          (try rw [sZ] at hx146_1)
          (try rw [sZ] at hx146_2)
          (try rw [sZ] at hx146_3)
          (try rw [sZ] at hx146_4)
          (try rw [sZ] at hx146_5)
          (try rw [sZ] at hx146_6)
          (try rw [sZ] at hx146_7)
          replace hx146_0 := sX HB hx146_0
          replace hx146_1 := sX HB hx146_1
          replace hx146_2 := sX HB hx146_2
          replace hx146_3 := sX HB hx146_3
          replace hx146_4 := sX HB hx146_4
          replace hx146_5 := sX HB hx146_5
          replace hx146_6 := sX HB hx146_6
          replace hx146_7 := sX HB hx146_7
          have HR146_7 := Aside0.mk hi146_7
          have HC146_7 := Aside0.mk hl146_7
          clear hi146_7 hl146_7
          replace p146 := eq_true p146
          replace q146 := eq_true q146
          have p147 : 0 ≤ (x5_2 : Int) := of_decide_eq_true (by first | (with_reducible assumption) | assumption)
          have q147 : x5_2 < (((rd_T57 l0 0).f4).length : Int) := of_decide_eq_true (by first | (with_reducible assumption) | assumption)
          obtain ⟨ad147, A147_7, c147_7, e147, hx147_0, hx147_1, hx147_2, hx147_3, hx147_4, hx147_5, hx147_6, hx147_7, hl147_7, hi147_7⟩ := at_T57 HR146_7.out x5_2 p147 q147
          have hw147_7 := hx147_7
          have hw147_6 := hx147_6
          have hw147_5 := hx147_5
          have hw147_4 := hx147_4
          have hw147_3 := hx147_3
          have hw147_2 := hx147_2
          have hw147_1 := hx147_1
          have hw147_0 := hx147_0
          cases e147
          replace hx147_0 := sX HB hx147_0
          replace hx147_1 := sX HB hx147_1
          replace hx147_2 := sX HB hx147_2
          replace hx147_3 := sX HB hx147_3
          replace hx147_4 := sX HB hx147_4
          replace hx147_5 := sX HB hx147_5
          replace hx147_6 := sX HB hx147_6
          replace hx147_7 := sX HB hx147_7
          have HR147_7 := Aside0.mk hi147_7
          have HC147_7 := Aside0.mk hl147_7
          clear hi147_7 hl147_7
          replace p147 := eq_true p147
          replace q147 := eq_true q147
          have p148 : 0 ≤ (0 : Int) := (by omega)
          have q148 : 0 < (l1.length : Int) := of_decide_eq_true (by first | (with_reducible assumption) | assumption)
          obtain ⟨ad148, A148_7, c148_7, e148, hx148_0, hx148_1, hx148_2, hx148_3, hx148_4, hx148_5, hx148_6, hx148_7, hl148_7, hi148_7⟩ := at_T57 HR1.out 0 p148 q148
          have hw148_7 := hx148_7
          (try rw [sZ] at hw148_7)
          have hw148_6 := hx148_6
          (try rw [sZ] at hw148_6)
          have hw148_5 := hx148_5
          (try rw [sZ] at hw148_5)
          have hw148_4 := hx148_4
          (try rw [sZ] at hw148_4)
          have hw148_3 := hx148_3
          (try rw [sZ] at hw148_3)
          have hw148_2 := hx148_2
          (try rw [sZ] at hw148_2)
          have hw148_1 := hx148_1
          (try rw [sZ] at hw148_1)
          have hw148_0 := hx148_0
          (try rw [sZ] at hw148_0)
          cases e148
          have qi148 : (0 < l1.length) = True := eq_true (by omega)
          (try rw [sZ] at hx148_0)
          (try rw [sZ] at hx148_1)
          (try rw [sZ] at hx148_2)
          (try rw [sZ] at hx148_3)
          (try rw [sZ] at hx148_4)
          (try rw [sZ] at hx148_5)
          (try rw [sZ] at hx148_6)
          (try rw [sZ] at hx148_7)
          replace hx148_0 := sX HB hx148_0
          replace hx148_1 := sX HB hx148_1
          replace hx148_2 := sX HB hx148_2
          replace hx148_3 := sX HB hx148_3
          replace hx148_4 := sX HB hx148_4
          replace hx148_5 := sX HB hx148_5
          replace hx148_6 := sX HB hx148_6
          replace hx148_7 := sX HB hx148_7
          have HR148_7 := Aside0.mk hi148_7
          have HC148_7 := Aside0.mk hl148_7
          clear hi148_7 hl148_7
          replace p148 := eq_true p148
          replace q148 := eq_true q148
          have p149 : 0 ≤ (x5_2 : Int) := of_decide_eq_true (by first | (with_reducible assumption) | assumption)
          have q149 : x5_2 < (((rd_T57 l1 0).f4).length : Int) := of_decide_eq_true (by first | (with_reducible assumption) | assumption)
          obtain ⟨ad149, A149_7, c149_7, e149, hx149_0, hx149_1, hx149_2, hx149_3, hx149_4, hx149_5, hx149_6, hx149_7, hl149_7, hi149_7⟩ := at_T57 HR148_7.out x5_2 p149 q149
          have hw149_7 := hx149_7
          have hw149_6 := hx149_6
          have hw149_5 := hx149_5
          have hw149_4 := hx149_4
          have hw149_3 := hx149_3
          have hw149_2 := hx149_2
          have hw149_1 := hx149_1
          have hw149_0 := hx149_0
          cases e149
          replace hx149_0 := sX HB hx149_0
          replace hx149_1 := sX HB hx149_1
          replace hx149_2 := sX HB hx149_2
          replace hx149_3 := sX HB hx149_3
          replace hx149_4 := sX HB hx149_4
          replace hx149_5 := sX HB hx149_5
          replace hx149_6 := sX HB hx149_6
          replace hx149_7 := sX HB hx149_7
          have HR149_7 := Aside0.mk hi149_7
          have HC149_7 := Aside0.mk hl149_7
          clear hi149_7 hl149_7
          replace p149 := eq_true p149
          replace q149 := eq_true q149
          refine start_ (n := 14) (S := fun w' => w'.cell? ad145 = some (.int .i64 ((rd_T57 l0 0).f0)) ∧ w'.cell? ⟨ad145.block, ad145.off + 1, none⟩ = some (.int .i64 ((rd_T57 l0 0).f1)) ∧ w'.cell? ⟨ad145.block, ad145.off + 2, none⟩ = some (.string ((rd_T57 l0 0).f2)) ∧ w'.cell? ⟨ad145.block, ad145.off + 3, none⟩ = some (.int .i64 ((rd_T57 l0 0).f3.f0)) ∧ w'.cell? ⟨ad145.block, ad145.off + 4, none⟩ = some (.int .i64 ((rd_T57 l0 0).f3.f1)) ∧ w'.cell? ⟨ad145.block, ad145.off + 5, none⟩ = some (.string ((rd_T57 l0 0).f3.f2)) ∧ w'.cell? ⟨ad145.block, ad145.off + 6, none⟩ = some (.int .i64 ((rd_T57 l0 0).f3.f3)) ∧ w'.cell? ⟨ad145.block, ad145.off + 7, none⟩ = some (.slice (some ad147) ((rd_T57 l0 0).f4).length c146_7) ∧ w'.cell? (ad147.add ((x5_2).toNat * 8)) = some (.int .i64 ((rd_T57 ((rd_T57 l0 0).f4) x5_2).f0)) ∧ w'.cell? ⟨(ad147.add ((x5_2).toNat * 8)).block, (ad147.add ((x5_2).toNat * 8)).off + 1, none⟩ = some (.int .i64 ((rd_T57 ((rd_T57 l0 0).f4) x5_2).f1)) ∧ w'.cell? ⟨(ad147.add ((x5_2).toNat * 8)).block, (ad147.add ((x5_2).toNat * 8)).off + 2, none⟩ = some (.string ((rd_T57 ((rd_T57 l0 0).f4) x5_2).f2)) ∧ w'.cell? ⟨(ad147.add ((x5_2).toNat * 8)).block, (ad147.add ((x5_2).toNat * 8)).off + 3, none⟩ = some (.int .i64 ((rd_T57 ((rd_T57 l0 0).f4) x5_2).f3.f0)) ∧ w'.cell? ⟨(ad147.add ((x5_2).toNat * 8)).block, (ad147.add ((x5_2).toNat * 8)).off + 4, none⟩ = some (.int .i64 ((rd_T57 ((rd_T57 l0 0).f4) x5_2).f3.f1)) ∧ w'.cell? ⟨(ad147.add ((x5_2).toNat * 8)).block, (ad147.add ((x5_2).toNat * 8)).off + 5, none⟩ = some (.string ((rd_T57 ((rd_T57 l0 0).f4) x5_2).f3.f2)) ∧ w'.cell? ⟨(ad147.add ((x5_2).toNat * 8)).block, (ad147.add ((x5_2).toNat * 8)).off + 6, none⟩ = some (.int .i64 ((rd_T57 ((rd_T57 l0 0).f4) x5_2).f3.f3)) ∧ w'.cell? ⟨(ad147.add ((x5_2).toNat * 8)).block, (ad147.add ((x5_2).toNat * 8)).off + 7, none⟩ = some (.slice A147_7 ((rd_T57 ((rd_T57 l0 0).f4) x5_2).f4).length c147_7) ∧ w'.cell? ad148 = some (.int .i64 ((rd_T57 l1 0).f0)) ∧ w'.cell? ⟨ad148.block, ad148.off + 1, none⟩ = some (.int .i64 ((rd_T57 l1 0).f1)) ∧ w'.cell? ⟨ad148.block, ad148.off + 2, none⟩ = some (.string ((rd_T57 l1 0).f2)) ∧ w'.cell? ⟨ad148.block, ad148.off + 3, none⟩ = some (.int .i64 ((rd_T57 l1 0).f3.f0)) ∧ w'.cell? ⟨ad148.block, ad148.off + 4, none⟩ = some (.int .i64 ((rd_T57 l1 0).f3.f1)) ∧ w'.cell? ⟨ad148.block, ad148.off + 5, none⟩ = some (.string ((rd_T57 l1 0).f3.f2)) ∧ w'.cell? ⟨ad148.block, ad148.off + 6, none⟩ = some (.int .i64 ((rd_T57 l1 0).f3.f3)) ∧ w'.cell? ⟨ad148.block, ad148.off + 7, none⟩ = some (.slice (some ad149) ((rd_T57 l1 0).f4).length c148_7) ∧ w'.cell? (ad149.add ((x5_2).toNat * 8)) = some (.int .i64 ((rd_T57 ((rd_T57 l1 0).f4) x5_2).f0)) ∧ w'.cell? ⟨(ad149.add ((x5_2).toNat * 8)).block, (ad149.add ((x5_2).toNat * 8)).off + 1, none⟩ = some (.int .i64 ((rd_T57 ((rd_T57 l1 0).f4) x5_2).f1)) ∧ w'.cell? ⟨(ad149.add ((x5_2).toNat * 8)).block, (ad149.add ((x5_2).toNat * 8)).off + 2, none⟩ = some (.string ((rd_T57 ((rd_T57 l1 0).f4) x5_2).f2)) ∧ w'.cell? ⟨(ad149.add ((x5_2).toNat * 8)).block, (ad149.add ((x5_2).toNat * 8)).off + 3, none⟩ = some (.int .i64 ((rd_T57 ((rd_T57 l1 0).f4) x5_2).f3.f0)) ∧ w'.cell? ⟨(ad149.add ((x5_2).toNat * 8)).block, (ad149.add ((x5_2).toNat * 8)).off + 4, none⟩ = some (.int .i64 ((rd_T57 ((rd_T57 l1 0).f4) x5_2).f3.f1)) ∧ w'.cell? ⟨(ad149.add ((x5_2).toNat * 8)).block, (ad149.add ((x5_2).toNat * 8)).off + 5, none⟩ = some (.string ((rd_T57 ((rd_T57 l1 0).f4) x5_2).f3.f2)) ∧ w'.cell? ⟨(ad149.add ((x5_2).toNat * 8)).block, (ad149.add ((x5_2).toNat * 8)).off + 6, none⟩ = some (.int .i64 ((rd_T57 ((rd_T57 l1 0).f4) x5_2).f3.f3)) ∧ w'.cell? ⟨(ad149.add ((x5_2).toNat * 8)).block, (ad149.add ((x5_2).toNat * 8)).off + 7, none⟩ = some (.slice A149_7 ((rd_T57 ((rd_T57 l1 0).f4) x5_2).f4).length c149_7)) (ds := []) #[false, false, false, false, false, false, false, false, false, false, false, false, false, false] (by kernel_rfl) rfl rfl ⟨((HB.out.cell (World.block_lt_of_cell? w _ hw146_0)).trans hw146_0), ((HB.out.cell (World.block_lt_of_cell? w _ hw146_1)).trans hw146_1), ((HB.out.cell (World.block_lt_of_cell? w _ hw146_2)).trans hw146_2), ((HB.out.cell (World.block_lt_of_cell? w _ hw146_3)).trans hw146_3), ((HB.out.cell (World.block_lt_of_cell? w _ hw146_4)).trans hw146_4), ((HB.out.cell (World.block_lt_of_cell? w _ hw146_5)).trans hw146_5), ((HB.out.cell (World.block_lt_of_cell? w _ hw146_6)).trans hw146_6), ((HB.out.cell (World.block_lt_of_cell? w _ hw146_7)).trans hw146_7), ((HB.out.cell (World.block_lt_of_cell? w _ hw147_0)).trans hw147_0), ((HB.out.cell (World.block_lt_of_cell? w _ hw147_1)).trans hw147_1), ((HB.out.cell (World.block_lt_of_cell? w _ hw147_2)).trans hw147_2), ((HB.out.cell (World.block_lt_of_cell? w _ hw147_3)).trans hw147_3), ((HB.out.cell (World.block_lt_of_cell? w _ hw147_4)).trans hw147_4), ((HB.out.cell (World.block_lt_of_cell? w _ hw147_5)).trans hw147_5), ((HB.out.cell (World.block_lt_of_cell? w _ hw147_6)).trans hw147_6), ((HB.out.cell (World.block_lt_of_cell? w _ hw147_7)).trans hw147_7), ((HB.out.cell (World.block_lt_of_cell? w _ hw148_0)).trans hw148_0), ((HB.out.cell (World.block_lt_of_cell? w _ hw148_1)).trans hw148_1), ((HB.out.cell (World.block_lt_of_cell? w _ hw148_2)).trans hw148_2), ((HB.out.cell (World.block_lt_of_cell? w _ hw148_3)).trans hw148_3), ((HB.out.cell (World.block_lt_of_cell? w _ hw148_4)).trans hw148_4), ((HB.out.cell (World.block_lt_of_cell? w _ hw148_5)).trans hw148_5), ((HB.out.cell (World.block_lt_of_cell? w _ hw148_6)).trans hw148_6), ((HB.out.cell (World.block_lt_of_cell? w _ hw148_7)).trans hw148_7), ((HB.out.cell (World.block_lt_of_cell? w _ hw149_0)).trans hw149_0), ((HB.out.cell (World.block_lt_of_cell? w _ hw149_1)).trans hw149_1), ((HB.out.cell (World.block_lt_of_cell? w _ hw149_2)).trans hw149_2), ((HB.out.cell (World.block_lt_of_cell? w _ hw149_3)).trans hw149_3), ((HB.out.cell (World.block_lt_of_cell? w _ hw149_4)).trans hw149_4), ((HB.out.cell (World.block_lt_of_cell? w _ hw149_5)).trans hw149_5), ((HB.out.cell (World.block_lt_of_cell? w _ hw149_6)).trans hw149_6), ((HB.out.cell (World.block_lt_of_cell? w _ hw149_7)).trans hw149_7)⟩ (fun hHeld => ?_); refine with_tabW spec_l22Same.tab6 spec_l22Same.bits6 (fun HT_ HW_ => ?_)
          generalize wr.drew = w25 at HB HR146_7 HR147_7 HR148_7 HR149_7 hx146_0 hx146_1 hx146_2 hx146_3 hx146_4 hx146_5 hx146_6 hx146_7 hx147_0 hx147_1 hx147_2 hx147_3 hx147_4 hx147_5 hx147_6 hx147_7 hx148_0 hx148_1 hx148_2 hx148_3 hx148_4 hx148_5 hx148_6 hx148_7 hx149_0 hx149_1 hx149_2 hx149_3 hx149_4 hx149_5 hx149_6 hx149_7 hHeld ⊢
          refine pure_ (i := 0) (N := some 70) (v := ?_) (a' := ?_) (bN 14 1) rfl rfl (any_of HT_.out (by kernel_rfl)) (fun _ _ _ h => h) (Or.inl ⟨by rfl, ?_⟩) ?_ ?_
          rotate_left
          ·intro w'
           go_simp
           with_reducible rfl
          rotate_left
          ·simp only [Act.put, List.setIfInBounds_toArray, List.set_cons_zero, List.set_cons_succ, i64_w, i32_w]
           rfl
          refine pure_ (i := 1) (N := some 71) (v := ?_) (a' := ?_) (bN 14 3) rfl rfl (any_of HT_.out (by kernel_rfl)) (fun _ _ _ h => h) (Or.inl ⟨by rfl, ?_⟩) ?_ ?_
          rotate_left
          ·intro w'
           go_simp
           with_reducible rfl
          rotate_left
          ·simp only [Act.put, List.setIfInBounds_toArray, List.set_cons_zero, List.set_cons_succ, i64_w, i32_w]
           rfl
          refine pure_ (i := 2) (N := some 72) (v := ?_) (a' := ?_) (bN 14 7) rfl rfl (any_of HT_.out (by kernel_rfl)) (fun _ _ _ h => h) (Or.inl ⟨by rfl, ?_⟩) ?_ ?_
          rotate_left
          ·intro w'
           go_simp
           with_reducible rfl
          rotate_left
          ·simp only [Act.put, List.setIfInBounds_toArray, List.set_cons_zero, List.set_cons_succ, i64_w, i32_w]
           rfl
          refine pure_ (i := 4) (N := some 74) (v := ?_) (a' := ?_) (bN 14 23) rfl rfl (any_of HT_.out (by kernel_rfl)) (fun _ _ _ h => h) (Or.inl ⟨by rfl, ?_⟩) ?_ ?_
          rotate_left
          ·intro w'
           go_simp
           with_reducible rfl
          rotate_left
          ·simp only [Act.put, List.setIfInBounds_toArray, List.set_cons_zero, List.set_cons_succ, i64_w, i32_w]
           rfl
          refine pure_ (i := 6) (N := some 76) (v := ?_) (a' := ?_) (bN 14 87) rfl rfl (any_of HT_.out (by kernel_rfl)) (fun _ _ _ h => h) (Or.inl ⟨by rfl, ?_⟩) ?_ ?_
          rotate_left
          ·intro w'
           go_simp
           with_reducible rfl
          rotate_left
          ·simp only [Act.put, List.setIfInBounds_toArray, List.set_cons_zero, List.set_cons_succ, i64_w, i32_w]
           rfl
          refine pure_ (i := 7) (N := some 77) (v := ?_) (a' := ?_) (bN 14 215) rfl rfl (any_of HT_.out (by kernel_rfl)) (fun _ _ _ h => h) (Or.inl ⟨by rfl, ?_⟩) ?_ ?_
          rotate_left
          ·intro w'
           go_simp
           with_reducible rfl
          rotate_left
          ·simp only [Act.put, List.setIfInBounds_toArray, List.set_cons_zero, List.set_cons_succ, i64_w, i32_w]
           rfl
          refine pure_ (i := 8) (N := some 78) (v := ?_) (a' := ?_) (bN 14 471) rfl rfl (any_of HT_.out (by kernel_rfl)) (fun _ _ _ h => h) (Or.inl ⟨by rfl, ?_⟩) ?_ ?_
          rotate_left
          ·intro w'
           go_simp
           with_reducible rfl
          rotate_left
          ·simp only [Act.put, List.setIfInBounds_toArray, List.set_cons_zero, List.set_cons_succ, i64_w, i32_w]
           rfl
          refine pure_ (i := 10) (N := some 80) (v := ?_) (a' := ?_) (bN 14 1495) rfl rfl (any_of HT_.out (by kernel_rfl)) (fun _ _ _ h => h) (Or.inl ⟨by rfl, ?_⟩) ?_ ?_
          rotate_left
          ·intro w'
           go_simp
           with_reducible rfl
          rotate_left
          ·simp only [Act.put, List.setIfInBounds_toArray, List.set_cons_zero, List.set_cons_succ, i64_w, i32_w]
           rfl
          refine take_ (i := 3) (N := some 73) (v := ?_) (a' := ?_) (bN 14 1503) rfl rfl (take_ofW HT_.out HW_.out (by kernel_rfl)) (fun _ _ _ h => h) (Or.inl ⟨by rfl, ?_⟩) hHeld ?_ ?_
          rotate_left
          ·rintro w' ⟨s0, s1, s2, s3, s4, s5, s6, s7, s8, s9, s10, s11, s12, s13, s14, s15, s16, s17, s18, s19, s20, s21, s22, s23, s24, s25, s26, s27, s28, s29, s30, s31⟩
           go_simp
           with_reducible rfl
          rotate_left
          ·simp only [Act.put, List.setIfInBounds_toArray, List.set_cons_zero, List.set_cons_succ, i64_w, i32_w]
           rfl
          refine pure_ (i := 5) (N := some 75) (v := ?_) (a' := ?_) (bN 14 1535) rfl rfl (any_of HT_.out (by kernel_rfl)) (fun _ _ _ h => h) (Or.inl ⟨by rfl, ?_⟩) ?_ ?_
          rotate_left
          ·intro w'
           go_simp
           with_reducible rfl
          rotate_left
          ·simp only [Act.put, List.setIfInBounds_toArray, List.set_cons_zero, List.set_cons_succ, i64_w, i32_w]
           rfl
          refine take_ (i := 9) (N := some 79) (v := ?_) (a' := ?_) (bN 14 2047) rfl rfl (take_ofW HT_.out HW_.out (by kernel_rfl)) (fun _ _ _ h => h) (Or.inl ⟨by rfl, ?_⟩) hHeld ?_ ?_
          rotate_left
          ·rintro w' ⟨s0, s1, s2, s3, s4, s5, s6, s7, s8, s9, s10, s11, s12, s13, s14, s15, s16, s17, s18, s19, s20, s21, s22, s23, s24, s25, s26, s27, s28, s29, s30, s31⟩
           go_simp
           with_reducible rfl
          rotate_left
          ·simp only [Act.put, List.setIfInBounds_toArray, List.set_cons_zero, List.set_cons_succ, i64_w, i32_w]
           rfl
          refine pure_ (i := 11) (N := some 81) (v := ?_) (a' := ?_) (bN 14 4095) rfl rfl (any_of HT_.out (by kernel_rfl)) (fun _ _ _ h => h) (Or.inl ⟨by rfl, ?_⟩) ?_ ?_
          rotate_left
          ·intro w'
           go_simp
           with_reducible rfl
          rotate_left
          ·simp only [Act.put, List.setIfInBounds_toArray, List.set_cons_zero, List.set_cons_succ, i64_w, i32_w]
           rfl
          refine one_ (i := 12) (N := some 82) (bN 14 8191) rfl rfl (one_of HT_.out (by kernel_rfl)) (by decide) (fun K hK => ?_)
          refine goes_ Try.func74 (by kernel_rfl) rfl #[.pointer (some (ad147.add ((x5_2).toNat * 8))), .pointer (some (ad149.add ((x5_2).toNat * 8)))] (by rfl) rfl rfl (by (try simp only [List.map_toArray, List.map_cons, List.map_nil]); first | done | rfl | (simp only [List.length_drop, List.length_take]; rfl)) ?_
          with_reducible refine (ih k2 (by have := HJ2.out; have := HK2.out; omega) _ [rd_T57 ((rd_T57 l0 0).f4) x5_2] _ [rd_T57 ((rd_T57 l1 0).f4) x5_2] false _ ?side1 ?side2 A21.out).mono ?_
          (case side1 => first | exact (C_one (by exact sD (Kd.C_below HR146_7.out HB.out)) z57 (x5_2 : Int) (of_eq_true p147) (by have h_ := q147; first | exact of_eq_true h_ | exact h_ | exact of_decide_eq_true (by assumption))) | (have h_ := (C_one (by exact sD (Kd.C_below HR146_7.out HB.out)) z57 (x5_2 : Int) (of_eq_true p147) (by have h_ := q147; first | exact of_eq_true h_ | exact h_ | exact of_decide_eq_true (by assumption))); first | exact h_ | simpa using h_))
          (case side2 => first | exact (C_one (by exact sD (Kd.C_below HR148_7.out HB.out)) z57 (x5_2 : Int) (of_eq_true p149) (by have h_ := q149; first | exact of_eq_true h_ | exact h_ | exact of_decide_eq_true (by assumption))) | (have h_ := (C_one (by exact sD (Kd.C_below HR148_7.out HB.out)) z57 (x5_2 : Int) (of_eq_true p149) (by have h_ := q149; first | exact of_eq_true h_ | exact h_ | exact of_decide_eq_true (by assumption))); first | exact h_ | simpa using h_))
          rintro e w26 ⟨rfl, hb⟩
          refine ⟨_, rfl, ?_⟩
          have n0_ := sB HB hb
          clear HB
          have HB := n0_
          clear n0_
          (try clear hb)
          (try clear hb2)
          (try clear hk)
          (try clear hi)
          refine hK.out _ _ ⟨((HB.out.cell (World.block_lt_of_cell? w _ hw146_0)).trans hw146_0), ((HB.out.cell (World.block_lt_of_cell? w _ hw146_1)).trans hw146_1), ((HB.out.cell (World.block_lt_of_cell? w _ hw146_2)).trans hw146_2), ((HB.out.cell (World.block_lt_of_cell? w _ hw146_3)).trans hw146_3), ((HB.out.cell (World.block_lt_of_cell? w _ hw146_4)).trans hw146_4), ((HB.out.cell (World.block_lt_of_cell? w _ hw146_5)).trans hw146_5), ((HB.out.cell (World.block_lt_of_cell? w _ hw146_6)).trans hw146_6), ((HB.out.cell (World.block_lt_of_cell? w _ hw146_7)).trans hw146_7), ((HB.out.cell (World.block_lt_of_cell? w _ hw147_0)).trans hw147_0), ((HB.out.cell (World.block_lt_of_cell? w _ hw147_1)).trans hw147_1), ((HB.out.cell (World.block_lt_of_cell? w _ hw147_2)).trans hw147_2), ((HB.out.cell (World.block_lt_of_cell? w _ hw147_3)).trans hw147_3), ((HB.out.cell (World.block_lt_of_cell? w _ hw147_4)).trans hw147_4), ((HB.out.cell (World.block_lt_of_cell? w _ hw147_5)).trans hw147_5), ((HB.out.cell (World.block_lt_of_cell? w _ hw147_6)).trans hw147_6), ((HB.out.cell (World.block_lt_of_cell? w _ hw147_7)).trans hw147_7), ((HB.out.cell (World.block_lt_of_cell? w _ hw148_0)).trans hw148_0), ((HB.out.cell (World.block_lt_of_cell? w _ hw148_1)).trans hw148_1), ((HB.out.cell (World.block_lt_of_cell? w _ hw148_2)).trans hw148_2), ((HB.out.cell (World.block_lt_of_cell? w _ hw148_3)).trans hw148_3), ((HB.out.cell (World.block_lt_of_cell? w _ hw148_4)).trans hw148_4), ((HB.out.cell (World.block_lt_of_cell? w _ hw148_5)).trans hw148_5), ((HB.out.cell (World.block_lt_of_cell? w _ hw148_6)).trans hw148_6), ((HB.out.cell (World.block_lt_of_cell? w _ hw148_7)).trans hw148_7), ((HB.out.cell (World.block_lt_of_cell? w _ hw149_0)).trans hw149_0), ((HB.out.cell (World.block_lt_of_cell? w _ hw149_1)).trans hw149_1), ((HB.out.cell (World.block_lt_of_cell? w _ hw149_2)).trans hw149_2), ((HB.out.cell (World.block_lt_of_cell? w _ hw149_3)).trans hw149_3), ((HB.out.cell (World.block_lt_of_cell? w _ hw149_4)).trans hw149_4), ((HB.out.cell (World.block_lt_of_cell? w _ hw149_5)).trans hw149_5), ((HB.out.cell (World.block_lt_of_cell? w _ hw149_6)).trans hw149_6), ((HB.out.cell (World.block_lt_of_cell? w _ hw149_7)).trans hw149_7)⟩ (fun hHeld => ?_)
          clear hK K
          refine norm_ (a' := ?_) ?_ ?_
          rotate_left
          ·show Act.put _ (some 82) _ = _
           simp only [Act.put, List.setIfInBounds_toArray, List.set_cons_zero, List.set_cons_succ, i64_w, i32_w]
           rfl
          refine pure_ (i := 13) (N := some 83) (v := ?_) (a' := ?_) (bN 14 16383) rfl rfl (any_of HT_.out (by kernel_rfl)) (fun _ _ _ h => h) (Or.inl ⟨by rfl, ?_⟩) ?_ ?_
          rotate_left
          ·intro w'
           go_simp
           with_reducible rfl
          rotate_left
          ·simp only [Act.put, List.setIfInBounds_toArray, List.set_cons_zero, List.set_cons_succ, i64_w, i32_w]
           rfl
          refine done_ (done_of HT_.out (by kernel_rfl)) ?_
          try go_wp2
          go_ret
          exact ⟨sq, sb⟩
         rw [if_neg c20] at H
         exact absurd H (by simp)
        rw [if_neg c19] at H
        exact absurd H (by simp)
       rw [if_neg c18] at H
       exact absurd H (by simp)
      rw [if_neg c17] at H
      have c17b0 := decide_eq_false c17
      clear c17
      obtain rfl := Option.some.inj H
      have p145 : 0 ≤ (0 : Int) := (by omega)
      have q145 : 0 < (l0.length : Int) := of_decide_eq_true (by first | (with_reducible assumption) | assumption)
      obtain ⟨ad145, A145_7, c145_7, e145, hx145_0, hx145_1, hx145_2, hx145_3, hx145_4, hx145_5, hx145_6, hx145_7, hl145_7, hi145_7⟩ := at_T57 HR0.out 0 p145 q145
      cases e145
      have qi145 : (0 < l0.length) = True := eq_true (by omega)
      (try rw [sZ] at hx145_0)
      (try rw [sZ] at hx145_1)
      (try rw [sZ] at hx145_2)
      (try rw [sZ] at hx145_3)
      (try rw [sZ] at hx145_4)
      (try rw [sZ] at hx145_5)
      (try rw [sZ] at hx145_6)
      (try rw [sZ] at hx145_7)
      replace hx145_0 := sX HB hx145_0
      replace hx145_1 := sX HB hx145_1
      replace hx145_2 := sX HB hx145_2
      replace hx145_3 := sX HB hx145_3
      replace hx145_4 := sX HB hx145_4
      replace hx145_5 := sX HB hx145_5
      replace hx145_6 := sX HB hx145_6
      replace hx145_7 := sX HB hx145_7
      have HR145_7 := Aside0.mk hi145_7
      have HC145_7 := Aside0.mk hl145_7
      clear hi145_7 hl145_7
      replace p145 := eq_true p145
      replace q145 := eq_true q145
      go_wp2
      go_ret
      exact ⟨sq, sb⟩
     rw [if_neg c16] at H
     exact absurd H (by simp)
end
end Go.Proofs.Ytabbpnkbhapibaa.PFnExactSameGen
