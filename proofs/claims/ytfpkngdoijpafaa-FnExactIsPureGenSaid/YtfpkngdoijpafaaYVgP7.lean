/- Printed functions: spec_l22Shape. -/
import Derived.Test.YtfpkngdoijpafaaYVgP0
import Derived.Test.YtfpkngdoijpafaaYVgPE
import Derived.Test.YtfpkngdoijpafaaYVgP2
import Derived.Test.YtfpkngdoijpafaaYVgP5
import Derived.Test.YtfpkngdoijpafaaYVgP6
namespace Go.Proofs.Ytfpkngdoijpafaa.PFnExactValidGen
open Go.RowKit Go.Proofs.YtfpkngdoijpafaaG Go.Proofs.YtfpkngdoijpafaaW.PrintWords Go.Proofs.YtfpkngdoijpafaaW.PrintLast Go.Proofs.YtfpkngdoijpafaaW.PrintMore
attribute [local go_sem] max2_int min2_int max_two min_two max_three min_three max_four min_four   -- for this text's walks alone
set_option linter.unusedVariables false
set_option linter.unusedSimpArgs false
section
attribute [local go_sem high] eqA29
/-! ### spec_l22Shape: function 98 -/
mutual
def spec_l22Shape.j0 : Nat → List (S32) → Bool → Option (Bool)
 | 0, _, _ => none
 | k + 1, x0, x22 => if x22 = true then (some false) else (if 0 < (x0.length : Int) then (if ((rd_T32 x0 0).f0) = 6 then (if ((rd_T32 x0 0).f0) = 1 then (spec_l22Shape.j1 k x0 false) else (spec_l22Shape.j1 k x0 (!(((rd_T32 x0 0).f3.f0) == 0) || (!(((rd_T32 x0 0).f3.f1) == 0) || (!(((rd_T32 x0 0).f3.f2).toList).isEmpty || (!(((rd_T32 x0 0).f3.f3) == 0))))))) else (if ((rd_T32 x0 0).f1) = 0 then (if ((rd_T32 x0 0).f0) = 1 then (spec_l22Shape.j1 k x0 false) else (spec_l22Shape.j1 k x0 (!(((rd_T32 x0 0).f3.f0) == 0) || (!(((rd_T32 x0 0).f3.f1) == 0) || (!(((rd_T32 x0 0).f3.f2).toList).isEmpty || (!(((rd_T32 x0 0).f3.f3) == 0))))))) else (spec_l22Shape.j1 k x0 true))) else (none))
def spec_l22Shape.j1 : Nat → List (S32) → Bool → Option (Bool)
 | 0, _, _ => none
 | k + 1, x0, x49 => if x49 = true then (some false) else (if 0 < (x0.length : Int) then (if ((rd_T32 x0 0).f0) = 1 then (if ((rd_T32 x0 0).f2).toList = ([] : List UInt8) then ((spec_ValidValue.f k ((rd_T32 x0 0).f3.f0) ((rd_T32 x0 0).f3.f1) ((rd_T32 x0 0).f3.f2) ((rd_T32 x0 0).f3.f3)).bind fun t171 => (if t171 = true then (if ((rd_T32 x0 0).f3.f0) = 1 then (some true) else (if ((rd_T32 x0 0).f3.f0) = 2 then (some true) else ((spec_l07IsRef.f ((rd_T32 x0 0).f3.f0) ((rd_T32 x0 0).f3.f1) ((rd_T32 x0 0).f3.f2) ((rd_T32 x0 0).f3.f3)).bind fun t173 => (some t173)))) else (some false))) else (some false)) else (if ((rd_T32 x0 0).f0) = 2 then (spec_l22Shape.j2 k x0 ((rd_T32 x0 0).f0) (((rd_T32 x0 0).f0) == 2)) else (if ((rd_T32 x0 0).f0) = 16 then (spec_l22Shape.j2 k x0 ((rd_T32 x0 0).f0) (((rd_T32 x0 0).f0) == 16)) else (spec_l22Shape.j2 k x0 ((rd_T32 x0 0).f0) (((rd_T32 x0 0).f0) == 17))))) else (none))
def spec_l22Shape.j2 : Nat → List (S32) → Int → Bool → Option (Bool)
 | 0, _, _, _ => none
 | k + 1, x0, x53, x88 => if x88 = true then (if 0 < (x0.length : Int) then ((spec_IsName.f k ((rd_T32 x0 0).f2)).bind fun t175 => (some t175)) else (none)) else (if x53 = 11 then ((spec_l22Operators.f).bind fun t176 => (if 0 < (x0.length : Int) then ((spec_l22Among.f k t176 ((rd_T32 x0 0).f2)).bind fun t180 => (some (decide (t180 ≥ 0)))) else (none))) else (if x53 = 6 then (if 0 < (x0.length : Int) then (if ((rd_T32 x0 0).f2).toList = ([] : List UInt8) then ((spec_l00In.f ((rd_T32 x0 0).f1) 0 60).bind fun t183 => (some t183)) else (some false)) else (none)) else (if 0 < (x0.length : Int) then (some (((rd_T32 x0 0).f2).toList.isEmpty)) else (none))))
end
def spec_l22Shape.f (k : Nat) (l0 : List (S32)) : Option (Bool) := if 0 < (l0.length : Int) then ((spec_l00In.f ((rd_T32 l0 0).f0) 1 18).bind fun t157 => (if t157 = true then ((spec_l22Kids.f k ((rd_T32 l0 0).f0)).bind fun t160 => (spec_l22Shape.j0 k l0 ((((rd_T32 l0 0).f4).length : Int) != t160))) else (spec_l22Shape.j0 k l0 true))) else (none)
def spec_l22Shape.T1 : Bool × List (List Nat × List Nat) := (true, [([], []), ([0], [0]), ([1], [1]), ([2], [2]), ([3], [3]), ([4], [4]), ([5, 4], [5]), ([6], [6]), ([7, 6], [6, 7]), ([8, 6], [6, 8]), ([9, 6], [6, 9]), ([10, 6], [6, 10]), ([6], [6]), ([12, 6], [6, 12]), ([13, 6], [6, 13]), ([14, 6], [6, 14]), ([15, 6, 6], [6, 15]), ([11, 16, 6], [6, 11, 16]), ([6, 17], [6, 17])])
def spec_l22Shape.B1 : List Nat := [0, 1, 3, 7, 15, 31, 63, 127, 255, 511, 1023, 2047, 127, 4223, 12415, 28799, 61567, 131071, 262143]
theorem spec_l22Shape.tab1 : rtab .any (opsOf Try.f98 1) = spec_l22Shape.T1 := by kernel_rfl
theorem spec_l22Shape.bits1 : waitsOk spec_l22Shape.T1.2 spec_l22Shape.B1 = true := by kernel_rfl
def spec_l22Shape.T14 : Bool × List (List Nat × List Nat) := (true, [([], []), ([], []), ([1], [1]), ([2], [2]), ([3], [3]), ([0, 4, 0], [0, 4]), ([5], [5]), ([6, 5, 0, 1, 2, 3, 4, 5, 6], [6])])
def spec_l22Shape.B14 : List Nat := [0, 0, 2, 6, 14, 31, 63, 127]
theorem spec_l22Shape.tab14 : rtab .any (opsOf Try.f98 14) = spec_l22Shape.T14 := by kernel_rfl
theorem spec_l22Shape.bits14 : waitsOk spec_l22Shape.T14.2 spec_l22Shape.B14 = true := by kernel_rfl
set_option maxHeartbeats 8000000 in
set_option maxRecDepth 100000 in
theorem spec_l22Shape.calls (k : Nat) (A0 : Option Addr) (l0 : List (S32)) (r : Bool) (w : World) (hr0 : Kd.C k32 w A0 l0.length l0) (h : spec_l22Shape.f k l0 = some r) :
  Calls Try.prog 98 #[.pointer A0] w fun e w' => e = .returned (.bool r) ∧ Below w.heap.size w w' := by
 have hu29 := Try.underlying29
 have HR0 := Aside0.mk hr0
 have HC0 := Aside0.mk (Nat.le_refl l0.length)
 clear hr0
 have HB := Aside0.mk (Below.refl w.heap.size w)
 have H : (if 0 < (l0.length : Int) then ((spec_l00In.f ((rd_T32 l0 0).f0) 1 18).bind fun t157 => (if t157 = true then ((spec_l22Kids.f k ((rd_T32 l0 0).f0)).bind fun t160 => (spec_l22Shape.j0 k l0 ((((rd_T32 l0 0).f4).length : Int) != t160))) else (spec_l22Shape.j0 k l0 true))) else (none)) = some r := h
 clear h
 have HC2 := Aside0.mk H
 clear H
 go_enter Try.func98, Try.ntmps98
 go_upto_region 1 with (fail)
 go_cut [22] (fun v22 wc => ∃ (kq : Nat) (x22_1 : Bool), v22 = .bool x22_1 ∧ Aside0 (spec_l22Shape.j0 kq l0 x22_1 = some r) ∧ Aside0 (kq ≤ k) ∧ Aside0 (Below w.heap.size w wc))
 case first =>
  have H := HC2.out
  clear HC2
  by_cases c3 : 0 < (l0.length : Int)
  ·rw [if_pos c3] at H
   have c3b0 := decide_eq_true c3
   have c3b1 : decide (0 < l0.length) = true := decide_eq_true (by omega)
   clear c3
   (first | rw [c3b0] | (simp only [i64_w, i32_w]; rw [c3b0]) | rw [c3b2] | skip)
   obtain ⟨t157, A4, H⟩ := sO H
   by_cases c5 : t157 = true
   ·subst c5
    rewrite [if_pos rfl] at H
    obtain ⟨t160, A6, H⟩ := sO H
    have H' := Aside0.mk H
    clear H
    try go_wp2
    have n0_ := Aside0.mk (below_drew1 HB.out)
    clear HB
    have HB := n0_
    clear n0_
    have p156 : 0 ≤ (0 : Int) := (by omega)
    have q156 : 0 < (l0.length : Int) := of_decide_eq_true (by first | (with_reducible assumption) | assumption)
    obtain ⟨ad156, A156_7, c156_7, e156, hx156_0, hx156_1, hx156_2, hx156_3, hx156_4, hx156_5, hx156_6, hx156_7, hl156_7, hi156_7⟩ := at_T32 HR0.out 0 p156 q156
    have hw156_7 := hx156_7
    (try rw [sZ] at hw156_7)
    have hw156_6 := hx156_6
    (try rw [sZ] at hw156_6)
    have hw156_5 := hx156_5
    (try rw [sZ] at hw156_5)
    have hw156_4 := hx156_4
    (try rw [sZ] at hw156_4)
    have hw156_3 := hx156_3
    (try rw [sZ] at hw156_3)
    have hw156_2 := hx156_2
    (try rw [sZ] at hw156_2)
    have hw156_1 := hx156_1
    (try rw [sZ] at hw156_1)
    have hw156_0 := hx156_0
    (try rw [sZ] at hw156_0)
    cases e156
    have qi156 : (0 < l0.length) = True := eq_true (by omega)
    (try rw [sZ] at hx156_0)
    (try rw [sZ] at hx156_1)
    (try rw [sZ] at hx156_2)
    (try rw [sZ] at hx156_3)
    (try rw [sZ] at hx156_4)
    (try rw [sZ] at hx156_5)
    (try rw [sZ] at hx156_6)
    (try rw [sZ] at hx156_7)
    replace hx156_0 := sX HB hx156_0
    replace hx156_1 := sX HB hx156_1
    replace hx156_2 := sX HB hx156_2
    replace hx156_3 := sX HB hx156_3
    replace hx156_4 := sX HB hx156_4
    replace hx156_5 := sX HB hx156_5
    replace hx156_6 := sX HB hx156_6
    replace hx156_7 := sX HB hx156_7
    have HR156_7 := Aside0.mk hi156_7
    have HC156_7 := Aside0.mk hl156_7
    clear hi156_7 hl156_7
    replace p156 := eq_true p156
    replace q156 := eq_true q156
    have p158 : 0 ≤ (0 : Int) := (by omega)
    have q158 : 0 < (l0.length : Int) := of_decide_eq_true (by first | (with_reducible assumption) | assumption)
    obtain ⟨ad158, A158_7, c158_7, e158, hx158_0, hx158_1, hx158_2, hx158_3, hx158_4, hx158_5, hx158_6, hx158_7, hl158_7, hi158_7⟩ := at_T32 HR0.out 0 p158 q158
    have hw158_7 := hx158_7
    (try rw [sZ] at hw158_7)
    have hw158_6 := hx158_6
    (try rw [sZ] at hw158_6)
    have hw158_5 := hx158_5
    (try rw [sZ] at hw158_5)
    have hw158_4 := hx158_4
    (try rw [sZ] at hw158_4)
    have hw158_3 := hx158_3
    (try rw [sZ] at hw158_3)
    have hw158_2 := hx158_2
    (try rw [sZ] at hw158_2)
    have hw158_1 := hx158_1
    (try rw [sZ] at hw158_1)
    have hw158_0 := hx158_0
    (try rw [sZ] at hw158_0)
    obtain rfl : ad156 = ad158 := (by injection e158)
    have qi158 : (0 < l0.length) = True := eq_true (by omega)
    (try rw [sZ] at hx158_0)
    (try rw [sZ] at hx158_1)
    (try rw [sZ] at hx158_2)
    (try rw [sZ] at hx158_3)
    (try rw [sZ] at hx158_4)
    (try rw [sZ] at hx158_5)
    (try rw [sZ] at hx158_6)
    (try rw [sZ] at hx158_7)
    replace hx158_0 := sX HB hx158_0
    replace hx158_1 := sX HB hx158_1
    replace hx158_2 := sX HB hx158_2
    replace hx158_3 := sX HB hx158_3
    replace hx158_4 := sX HB hx158_4
    replace hx158_5 := sX HB hx158_5
    replace hx158_6 := sX HB hx158_6
    replace hx158_7 := sX HB hx158_7
    have HR158_7 := Aside0.mk hi158_7
    have HC158_7 := Aside0.mk hl158_7
    clear hi158_7 hl158_7
    replace p158 := eq_true p158
    replace q158 := eq_true q158
    have ea_ := Option.some.inj (hx156_7.symm.trans hx158_7)
    injection ea_ with ea_ en_ ec_
    subst ea_
    subst ec_
    clear en_
    have p159 : 0 ≤ (0 : Int) := (by omega)
    have q159 : 0 < (l0.length : Int) := of_decide_eq_true (by first | (with_reducible assumption) | assumption)
    obtain ⟨ad159, A159_7, c159_7, e159, hx159_0, hx159_1, hx159_2, hx159_3, hx159_4, hx159_5, hx159_6, hx159_7, hl159_7, hi159_7⟩ := at_T32 HR0.out 0 p159 q159
    have hw159_7 := hx159_7
    (try rw [sZ] at hw159_7)
    have hw159_6 := hx159_6
    (try rw [sZ] at hw159_6)
    have hw159_5 := hx159_5
    (try rw [sZ] at hw159_5)
    have hw159_4 := hx159_4
    (try rw [sZ] at hw159_4)
    have hw159_3 := hx159_3
    (try rw [sZ] at hw159_3)
    have hw159_2 := hx159_2
    (try rw [sZ] at hw159_2)
    have hw159_1 := hx159_1
    (try rw [sZ] at hw159_1)
    have hw159_0 := hx159_0
    (try rw [sZ] at hw159_0)
    obtain rfl : ad156 = ad159 := (by injection e159)
    have qi159 : (0 < l0.length) = True := eq_true (by omega)
    (try rw [sZ] at hx159_0)
    (try rw [sZ] at hx159_1)
    (try rw [sZ] at hx159_2)
    (try rw [sZ] at hx159_3)
    (try rw [sZ] at hx159_4)
    (try rw [sZ] at hx159_5)
    (try rw [sZ] at hx159_6)
    (try rw [sZ] at hx159_7)
    replace hx159_0 := sX HB hx159_0
    replace hx159_1 := sX HB hx159_1
    replace hx159_2 := sX HB hx159_2
    replace hx159_3 := sX HB hx159_3
    replace hx159_4 := sX HB hx159_4
    replace hx159_5 := sX HB hx159_5
    replace hx159_6 := sX HB hx159_6
    replace hx159_7 := sX HB hx159_7
    have HR159_7 := Aside0.mk hi159_7
    have HC159_7 := Aside0.mk hl159_7
    clear hi159_7 hl159_7
    replace p159 := eq_true p159
    replace q159 := eq_true q159
    have ea_ := Option.some.inj (hx156_7.symm.trans hx159_7)
    injection ea_ with ea_ en_ ec_
    subst ea_
    subst ec_
    clear en_
    refine start_ (n := 19) (S := fun w' => w'.cell? ad156 = some (.int .i64 ((rd_T32 l0 0).f0)) ∧ w'.cell? ⟨ad156.block, ad156.off + 1, none⟩ = some (.int .i64 ((rd_T32 l0 0).f1)) ∧ w'.cell? ⟨ad156.block, ad156.off + 2, none⟩ = some (.string ((rd_T32 l0 0).f2)) ∧ w'.cell? ⟨ad156.block, ad156.off + 3, none⟩ = some (.int .i64 ((rd_T32 l0 0).f3.f0)) ∧ w'.cell? ⟨ad156.block, ad156.off + 4, none⟩ = some (.int .i64 ((rd_T32 l0 0).f3.f1)) ∧ w'.cell? ⟨ad156.block, ad156.off + 5, none⟩ = some (.string ((rd_T32 l0 0).f3.f2)) ∧ w'.cell? ⟨ad156.block, ad156.off + 6, none⟩ = some (.int .i64 ((rd_T32 l0 0).f3.f3)) ∧ w'.cell? ⟨ad156.block, ad156.off + 7, none⟩ = some (.slice A156_7 ((rd_T32 l0 0).f4).length c156_7) ∧ w'.cell? ad156 = some (.int .i64 ((rd_T32 l0 0).f0)) ∧ w'.cell? ⟨ad156.block, ad156.off + 1, none⟩ = some (.int .i64 ((rd_T32 l0 0).f1)) ∧ w'.cell? ⟨ad156.block, ad156.off + 2, none⟩ = some (.string ((rd_T32 l0 0).f2)) ∧ w'.cell? ⟨ad156.block, ad156.off + 3, none⟩ = some (.int .i64 ((rd_T32 l0 0).f3.f0)) ∧ w'.cell? ⟨ad156.block, ad156.off + 4, none⟩ = some (.int .i64 ((rd_T32 l0 0).f3.f1)) ∧ w'.cell? ⟨ad156.block, ad156.off + 5, none⟩ = some (.string ((rd_T32 l0 0).f3.f2)) ∧ w'.cell? ⟨ad156.block, ad156.off + 6, none⟩ = some (.int .i64 ((rd_T32 l0 0).f3.f3)) ∧ w'.cell? ⟨ad156.block, ad156.off + 7, none⟩ = some (.slice A156_7 ((rd_T32 l0 0).f4).length c156_7) ∧ w'.cell? ad156 = some (.int .i64 ((rd_T32 l0 0).f0)) ∧ w'.cell? ⟨ad156.block, ad156.off + 1, none⟩ = some (.int .i64 ((rd_T32 l0 0).f1)) ∧ w'.cell? ⟨ad156.block, ad156.off + 2, none⟩ = some (.string ((rd_T32 l0 0).f2)) ∧ w'.cell? ⟨ad156.block, ad156.off + 3, none⟩ = some (.int .i64 ((rd_T32 l0 0).f3.f0)) ∧ w'.cell? ⟨ad156.block, ad156.off + 4, none⟩ = some (.int .i64 ((rd_T32 l0 0).f3.f1)) ∧ w'.cell? ⟨ad156.block, ad156.off + 5, none⟩ = some (.string ((rd_T32 l0 0).f3.f2)) ∧ w'.cell? ⟨ad156.block, ad156.off + 6, none⟩ = some (.int .i64 ((rd_T32 l0 0).f3.f3)) ∧ w'.cell? ⟨ad156.block, ad156.off + 7, none⟩ = some (.slice A156_7 ((rd_T32 l0 0).f4).length c156_7)) (ds := []) #[false, false, false, false, false, false, false, false, false, false, false, false, false, false, false, false, false, false, false] (by kernel_rfl) rfl rfl ⟨((HB.out.cell (World.block_lt_of_cell? w _ hw156_0)).trans hw156_0), ((HB.out.cell (World.block_lt_of_cell? w _ hw156_1)).trans hw156_1), ((HB.out.cell (World.block_lt_of_cell? w _ hw156_2)).trans hw156_2), ((HB.out.cell (World.block_lt_of_cell? w _ hw156_3)).trans hw156_3), ((HB.out.cell (World.block_lt_of_cell? w _ hw156_4)).trans hw156_4), ((HB.out.cell (World.block_lt_of_cell? w _ hw156_5)).trans hw156_5), ((HB.out.cell (World.block_lt_of_cell? w _ hw156_6)).trans hw156_6), ((HB.out.cell (World.block_lt_of_cell? w _ hw156_7)).trans hw156_7), ((HB.out.cell (World.block_lt_of_cell? w _ hw158_0)).trans hw158_0), ((HB.out.cell (World.block_lt_of_cell? w _ hw158_1)).trans hw158_1), ((HB.out.cell (World.block_lt_of_cell? w _ hw158_2)).trans hw158_2), ((HB.out.cell (World.block_lt_of_cell? w _ hw158_3)).trans hw158_3), ((HB.out.cell (World.block_lt_of_cell? w _ hw158_4)).trans hw158_4), ((HB.out.cell (World.block_lt_of_cell? w _ hw158_5)).trans hw158_5), ((HB.out.cell (World.block_lt_of_cell? w _ hw158_6)).trans hw158_6), ((HB.out.cell (World.block_lt_of_cell? w _ hw158_7)).trans hw158_7), ((HB.out.cell (World.block_lt_of_cell? w _ hw159_0)).trans hw159_0), ((HB.out.cell (World.block_lt_of_cell? w _ hw159_1)).trans hw159_1), ((HB.out.cell (World.block_lt_of_cell? w _ hw159_2)).trans hw159_2), ((HB.out.cell (World.block_lt_of_cell? w _ hw159_3)).trans hw159_3), ((HB.out.cell (World.block_lt_of_cell? w _ hw159_4)).trans hw159_4), ((HB.out.cell (World.block_lt_of_cell? w _ hw159_5)).trans hw159_5), ((HB.out.cell (World.block_lt_of_cell? w _ hw159_6)).trans hw159_6), ((HB.out.cell (World.block_lt_of_cell? w _ hw159_7)).trans hw159_7)⟩ (fun hHeld => ?_); refine with_tabW spec_l22Shape.tab1 spec_l22Shape.bits1 (fun HT_ HW_ => ?_)
    generalize w.drew = w7 at HB HR156_7 HR158_7 HR159_7 hx156_0 hx156_1 hx156_2 hx156_3 hx156_4 hx156_5 hx156_6 hx156_7 hx158_0 hx158_1 hx158_2 hx158_3 hx158_4 hx158_5 hx158_6 hx158_7 hx159_0 hx159_1 hx159_2 hx159_3 hx159_4 hx159_5 hx159_6 hx159_7 hHeld ⊢
    refine pure_ (i := 0) (N := some 4) (v := ?_) (a' := ?_) (bN 19 1) rfl rfl (any_of HT_.out (by kernel_rfl)) (fun _ _ _ h => h) (Or.inl ⟨by rfl, ?_⟩) ?_ ?_
    rotate_left
    ·intro w'
     go_simp
     with_reducible rfl
    rotate_left
    ·simp only [Act.put, List.setIfInBounds_toArray, List.set_cons_zero, List.set_cons_succ, i64_w, i32_w]
     rfl
    refine pure_ (i := 1) (N := some 5) (v := ?_) (a' := ?_) (bN 19 3) rfl rfl (any_of HT_.out (by kernel_rfl)) (fun _ _ _ h => h) (Or.inl ⟨by rfl, ?_⟩) ?_ ?_
    rotate_left
    ·intro w'
     go_simp
     with_reducible rfl
    rotate_left
    ·simp only [Act.put, List.setIfInBounds_toArray, List.set_cons_zero, List.set_cons_succ, i64_w, i32_w]
     rfl
    refine pure_ (i := 2) (N := some 6) (v := ?_) (a' := ?_) (bN 19 7) rfl rfl (any_of HT_.out (by kernel_rfl)) (fun _ _ _ h => h) (Or.inl ⟨by rfl, ?_⟩) ?_ ?_
    rotate_left
    ·intro w'
     go_simp
     with_reducible rfl
    rotate_left
    ·simp only [Act.put, List.setIfInBounds_toArray, List.set_cons_zero, List.set_cons_succ, i64_w, i32_w]
     rfl
    refine take_ (i := 3) (N := some 7) (v := ?_) (a' := ?_) (bN 19 15) rfl rfl (take_ofW HT_.out HW_.out (by kernel_rfl)) (fun _ _ _ h => h) (Or.inl ⟨by rfl, ?_⟩) hHeld ?_ ?_
    rotate_left
    ·rintro w' ⟨s0, s1, s2, s3, s4, s5, s6, s7, s8, s9, s10, s11, s12, s13, s14, s15, s16, s17, s18, s19, s20, s21, s22, s23⟩
     go_simp
     with_reducible rfl
    rotate_left
    ·simp only [Act.put, List.setIfInBounds_toArray, List.set_cons_zero, List.set_cons_succ, i64_w, i32_w]
     rfl
    refine one_ (i := 4) (N := some 8) (bN 19 31) rfl rfl (one_of HT_.out (by kernel_rfl)) (by decide) (fun K hK => ?_)
    refine goes_ Try.func113 (by kernel_rfl) rfl #[.int .i64 ((rd_T32 l0 0).f0), .int .i64 1, .int .i64 18] (by rfl) rfl rfl (by (try simp only [List.map_toArray, List.map_cons, List.map_nil]); first | done | rfl | (simp only [List.length_drop, List.length_take]; rfl)) ?_
    with_reducible refine (spec_l00In.calls ((rd_T32 l0 0).f0) 1 18 true _ A4.out).mono ?_
    rintro e w' ⟨rfl, ⟨nd, rfl⟩⟩
    refine ⟨_, rfl, ?_⟩
    refine hK.out _ _ ⟨((HB.out.cell (World.block_lt_of_cell? w _ hw156_0)).trans hw156_0), ((HB.out.cell (World.block_lt_of_cell? w _ hw156_1)).trans hw156_1), ((HB.out.cell (World.block_lt_of_cell? w _ hw156_2)).trans hw156_2), ((HB.out.cell (World.block_lt_of_cell? w _ hw156_3)).trans hw156_3), ((HB.out.cell (World.block_lt_of_cell? w _ hw156_4)).trans hw156_4), ((HB.out.cell (World.block_lt_of_cell? w _ hw156_5)).trans hw156_5), ((HB.out.cell (World.block_lt_of_cell? w _ hw156_6)).trans hw156_6), ((HB.out.cell (World.block_lt_of_cell? w _ hw156_7)).trans hw156_7), ((HB.out.cell (World.block_lt_of_cell? w _ hw158_0)).trans hw158_0), ((HB.out.cell (World.block_lt_of_cell? w _ hw158_1)).trans hw158_1), ((HB.out.cell (World.block_lt_of_cell? w _ hw158_2)).trans hw158_2), ((HB.out.cell (World.block_lt_of_cell? w _ hw158_3)).trans hw158_3), ((HB.out.cell (World.block_lt_of_cell? w _ hw158_4)).trans hw158_4), ((HB.out.cell (World.block_lt_of_cell? w _ hw158_5)).trans hw158_5), ((HB.out.cell (World.block_lt_of_cell? w _ hw158_6)).trans hw158_6), ((HB.out.cell (World.block_lt_of_cell? w _ hw158_7)).trans hw158_7), ((HB.out.cell (World.block_lt_of_cell? w _ hw159_0)).trans hw159_0), ((HB.out.cell (World.block_lt_of_cell? w _ hw159_1)).trans hw159_1), ((HB.out.cell (World.block_lt_of_cell? w _ hw159_2)).trans hw159_2), ((HB.out.cell (World.block_lt_of_cell? w _ hw159_3)).trans hw159_3), ((HB.out.cell (World.block_lt_of_cell? w _ hw159_4)).trans hw159_4), ((HB.out.cell (World.block_lt_of_cell? w _ hw159_5)).trans hw159_5), ((HB.out.cell (World.block_lt_of_cell? w _ hw159_6)).trans hw159_6), ((HB.out.cell (World.block_lt_of_cell? w _ hw159_7)).trans hw159_7)⟩ (fun hHeld => ?_)
    clear hK K
    refine norm_ (a' := ?_) ?_ ?_
    rotate_left
    ·show Act.put _ (some 8) _ = _
     simp only [Act.put, List.setIfInBounds_toArray, List.set_cons_zero, List.set_cons_succ, i64_w, i32_w]
     rfl
    refine pure_ (i := 5) (N := some 9) (v := ?_) (a' := ?_) (bN 19 63) rfl rfl (any_of HT_.out (by kernel_rfl)) (fun _ _ _ h => h) (Or.inl ⟨by rfl, ?_⟩) ?_ ?_
    rotate_left
    ·intro w'
     go_simp
     with_reducible rfl
    rotate_left
    ·simp only [Act.put, List.setIfInBounds_toArray, List.set_cons_zero, List.set_cons_succ, i64_w, i32_w]
     rfl
    refine pure_ (i := 6) (N := some 10) (v := ?_) (a' := ?_) (bN 19 127) rfl rfl (any_of HT_.out (by kernel_rfl)) (fun _ _ _ h => h) (Or.inl ⟨by rfl, ?_⟩) ?_ ?_
    rotate_left
    ·intro w'
     go_simp
     with_reducible rfl
    rotate_left
    ·simp only [Act.put, List.setIfInBounds_toArray, List.set_cons_zero, List.set_cons_succ, i64_w, i32_w]
     rfl
    refine pure_ (i := 7) (N := some 11) (v := ?_) (a' := ?_) (bN 19 255) rfl rfl (any_of HT_.out (by kernel_rfl)) (fun _ _ _ h => h) (Or.inl ⟨by rfl, ?_⟩) ?_ ?_
    rotate_left
    ·intro w'
     go_simp
     with_reducible rfl
    rotate_left
    ·simp only [Act.put, List.setIfInBounds_toArray, List.set_cons_zero, List.set_cons_succ, i64_w, i32_w]
     rfl
    refine pure_ (i := 8) (N := some 12) (v := ?_) (a' := ?_) (bN 19 511) rfl rfl (any_of HT_.out (by kernel_rfl)) (fun _ _ _ h => h) (Or.inl ⟨by rfl, ?_⟩) ?_ ?_
    rotate_left
    ·intro w'
     go_simp
     with_reducible rfl
    rotate_left
    ·simp only [Act.put, List.setIfInBounds_toArray, List.set_cons_zero, List.set_cons_succ, i64_w, i32_w]
     rfl
    refine pure_ (i := 9) (N := some 13) (v := ?_) (a' := ?_) (bN 19 1023) rfl rfl (any_of HT_.out (by kernel_rfl)) (fun _ _ _ h => h) (Or.inl ⟨by rfl, ?_⟩) ?_ ?_
    rotate_left
    ·intro w'
     go_simp
     with_reducible rfl
    rotate_left
    ·simp only [Act.put, List.setIfInBounds_toArray, List.set_cons_zero, List.set_cons_succ, i64_w, i32_w]
     rfl
    refine pure_ (i := 12) (N := some 16) (v := ?_) (a' := ?_) (bN 19 5119) rfl rfl (any_of HT_.out (by kernel_rfl)) (fun _ _ _ h => h) (Or.inl ⟨by rfl, ?_⟩) ?_ ?_
    rotate_left
    ·intro w'
     go_simp
     with_reducible rfl
    rotate_left
    ·simp only [Act.put, List.setIfInBounds_toArray, List.set_cons_zero, List.set_cons_succ, i64_w, i32_w]
     rfl
    refine pure_ (i := 13) (N := some 17) (v := ?_) (a' := ?_) (bN 19 13311) rfl rfl (any_of HT_.out (by kernel_rfl)) (fun _ _ _ h => h) (Or.inl ⟨by rfl, ?_⟩) ?_ ?_
    rotate_left
    ·intro w'
     go_simp
     with_reducible rfl
    rotate_left
    ·simp only [Act.put, List.setIfInBounds_toArray, List.set_cons_zero, List.set_cons_succ, i64_w, i32_w]
     rfl
    refine pure_ (i := 14) (N := some 18) (v := ?_) (a' := ?_) (bN 19 29695) rfl rfl (any_of HT_.out (by kernel_rfl)) (fun _ _ _ h => h) (Or.inl ⟨by rfl, ?_⟩) ?_ ?_
    rotate_left
    ·intro w'
     go_simp
     with_reducible rfl
    rotate_left
    ·simp only [Act.put, List.setIfInBounds_toArray, List.set_cons_zero, List.set_cons_succ, i64_w, i32_w]
     rfl
    refine take_ (i := 10) (N := some 14) (v := ?_) (a' := ?_) (bN 19 30719) rfl rfl (take_ofW HT_.out HW_.out (by kernel_rfl)) (fun _ _ _ h => h) (Or.inl ⟨by rfl, ?_⟩) hHeld ?_ ?_
    rotate_left
    ·rintro w' ⟨s0, s1, s2, s3, s4, s5, s6, s7, s8, s9, s10, s11, s12, s13, s14, s15, s16, s17, s18, s19, s20, s21, s22, s23⟩
     go_simp
     with_reducible rfl
    rotate_left
    ·simp only [Act.put, List.setIfInBounds_toArray, List.set_cons_zero, List.set_cons_succ, i64_w, i32_w]
     rfl
    refine pure_ (i := 11) (N := some 15) (v := ?_) (a' := ?_) (bN 19 32767) rfl rfl (any_of HT_.out (by kernel_rfl)) (fun _ _ _ h => h) (Or.inl ⟨by rfl, ?_⟩) ?_ ?_
    rotate_left
    ·intro w'
     go_simp
     with_reducible rfl
    rotate_left
    ·simp only [Act.put, List.setIfInBounds_toArray, List.set_cons_zero, List.set_cons_succ, i64_w, i32_w]
     rfl
    refine take_ (i := 15) (N := some 19) (v := ?_) (a' := ?_) (bN 19 65535) rfl rfl (take_ofW HT_.out HW_.out (by kernel_rfl)) (fun _ _ _ h => h) (Or.inl ⟨by rfl, ?_⟩) hHeld ?_ ?_
    rotate_left
    ·rintro w' ⟨s0, s1, s2, s3, s4, s5, s6, s7, s8, s9, s10, s11, s12, s13, s14, s15, s16, s17, s18, s19, s20, s21, s22, s23⟩
     go_simp
     with_reducible rfl
    rotate_left
    ·simp only [Act.put, List.setIfInBounds_toArray, List.set_cons_zero, List.set_cons_succ, i64_w, i32_w]
     rfl
    refine one_ (i := 16) (N := some 20) (bN 19 131071) rfl rfl (one_of HT_.out (by kernel_rfl)) (by decide) (fun K hK => ?_)
    refine goes_ Try.func114 (by kernel_rfl) rfl #[.int .i64 ((rd_T32 l0 0).f0)] (by rfl) rfl rfl (by (try simp only [List.map_toArray, List.map_cons, List.map_nil]); first | done | rfl | (simp only [List.length_drop, List.length_take]; rfl)) ?_
    with_reducible refine (spec_l22Kids.calls k ((rd_T32 l0 0).f0) t160 _ A6.out).mono ?_
    rintro e w' ⟨rfl, ⟨nd, rfl⟩⟩
    refine ⟨_, rfl, ?_⟩
    refine hK.out _ _ ⟨((HB.out.cell (World.block_lt_of_cell? w _ hw156_0)).trans hw156_0), ((HB.out.cell (World.block_lt_of_cell? w _ hw156_1)).trans hw156_1), ((HB.out.cell (World.block_lt_of_cell? w _ hw156_2)).trans hw156_2), ((HB.out.cell (World.block_lt_of_cell? w _ hw156_3)).trans hw156_3), ((HB.out.cell (World.block_lt_of_cell? w _ hw156_4)).trans hw156_4), ((HB.out.cell (World.block_lt_of_cell? w _ hw156_5)).trans hw156_5), ((HB.out.cell (World.block_lt_of_cell? w _ hw156_6)).trans hw156_6), ((HB.out.cell (World.block_lt_of_cell? w _ hw156_7)).trans hw156_7), ((HB.out.cell (World.block_lt_of_cell? w _ hw158_0)).trans hw158_0), ((HB.out.cell (World.block_lt_of_cell? w _ hw158_1)).trans hw158_1), ((HB.out.cell (World.block_lt_of_cell? w _ hw158_2)).trans hw158_2), ((HB.out.cell (World.block_lt_of_cell? w _ hw158_3)).trans hw158_3), ((HB.out.cell (World.block_lt_of_cell? w _ hw158_4)).trans hw158_4), ((HB.out.cell (World.block_lt_of_cell? w _ hw158_5)).trans hw158_5), ((HB.out.cell (World.block_lt_of_cell? w _ hw158_6)).trans hw158_6), ((HB.out.cell (World.block_lt_of_cell? w _ hw158_7)).trans hw158_7), ((HB.out.cell (World.block_lt_of_cell? w _ hw159_0)).trans hw159_0), ((HB.out.cell (World.block_lt_of_cell? w _ hw159_1)).trans hw159_1), ((HB.out.cell (World.block_lt_of_cell? w _ hw159_2)).trans hw159_2), ((HB.out.cell (World.block_lt_of_cell? w _ hw159_3)).trans hw159_3), ((HB.out.cell (World.block_lt_of_cell? w _ hw159_4)).trans hw159_4), ((HB.out.cell (World.block_lt_of_cell? w _ hw159_5)).trans hw159_5), ((HB.out.cell (World.block_lt_of_cell? w _ hw159_6)).trans hw159_6), ((HB.out.cell (World.block_lt_of_cell? w _ hw159_7)).trans hw159_7)⟩ (fun hHeld => ?_)
    clear hK K
    refine norm_ (a' := ?_) ?_ ?_
    rotate_left
    ·show Act.put _ (some 20) _ = _
     simp only [Act.put, List.setIfInBounds_toArray, List.set_cons_zero, List.set_cons_succ, i64_w, i32_w]
     rfl
    refine pure_ (i := 17) (N := some 21) (v := ?_) (a' := ?_) (bN 19 262143) rfl rfl (any_of HT_.out (by kernel_rfl)) (fun _ _ _ h => h) (Or.inl ⟨by rfl, ?_⟩) ?_ ?_
    rotate_left
    ·intro w'
     go_simp
     with_reducible rfl
    rotate_left
    ·simp only [Act.put, List.setIfInBounds_toArray, List.set_cons_zero, List.set_cons_succ, i64_w, i32_w]
     rfl
    refine pure_ (i := 18) (N := some 22) (v := ?_) (a' := ?_) (bN 19 524287) rfl rfl (any_of HT_.out (by kernel_rfl)) (fun _ _ _ h => h) (Or.inl ⟨by rfl, ?_⟩) ?_ ?_
    rotate_left
    ·intro w'
     go_simp
     with_reducible rfl
    rotate_left
    ·simp only [Act.put, List.setIfInBounds_toArray, List.set_cons_zero, List.set_cons_succ, i64_w, i32_w]
     rfl
    refine done_ (done_of HT_.out (by kernel_rfl)) ?_
    try go_wp2
    go_meet
    case rel => exact ⟨_, (((((rd_T32 l0 0).f4).length : Int) != t160)), sr, H', ⟨by first | omega | exact Nat.le_refl _⟩, ⟨sb⟩⟩
   replace c5 := Bool.eq_false_iff.mpr c5
   subst c5
   rewrite [if_neg (show ¬ (false = true) by decide)] at H
   have H' := Aside0.mk H
   clear H
   try go_wp2
   have n0_ := Aside0.mk (below_drew1 HB.out)
   clear HB
   have HB := n0_
   clear n0_
   have p156 : 0 ≤ (0 : Int) := (by omega)
   have q156 : 0 < (l0.length : Int) := of_decide_eq_true (by first | (with_reducible assumption) | assumption)
   obtain ⟨ad156, A156_7, c156_7, e156, hx156_0, hx156_1, hx156_2, hx156_3, hx156_4, hx156_5, hx156_6, hx156_7, hl156_7, hi156_7⟩ := at_T32 HR0.out 0 p156 q156
   have hw156_7 := hx156_7
   (try rw [sZ] at hw156_7)
   have hw156_6 := hx156_6
   (try rw [sZ] at hw156_6)
   have hw156_5 := hx156_5
   (try rw [sZ] at hw156_5)
   have hw156_4 := hx156_4
   (try rw [sZ] at hw156_4)
   have hw156_3 := hx156_3
   (try rw [sZ] at hw156_3)
   have hw156_2 := hx156_2
   (try rw [sZ] at hw156_2)
   have hw156_1 := hx156_1
   (try rw [sZ] at hw156_1)
   have hw156_0 := hx156_0
   (try rw [sZ] at hw156_0)
   cases e156
   have qi156 : (0 < l0.length) = True := eq_true (by omega)
   (try rw [sZ] at hx156_0)
   (try rw [sZ] at hx156_1)
   (try rw [sZ] at hx156_2)
   (try rw [sZ] at hx156_3)
   (try rw [sZ] at hx156_4)
   (try rw [sZ] at hx156_5)
   (try rw [sZ] at hx156_6)
   (try rw [sZ] at hx156_7)
   replace hx156_0 := sX HB hx156_0
   replace hx156_1 := sX HB hx156_1
   replace hx156_2 := sX HB hx156_2
   replace hx156_3 := sX HB hx156_3
   replace hx156_4 := sX HB hx156_4
   replace hx156_5 := sX HB hx156_5
   replace hx156_6 := sX HB hx156_6
   replace hx156_7 := sX HB hx156_7
   have HR156_7 := Aside0.mk hi156_7
   have HC156_7 := Aside0.mk hl156_7
   clear hi156_7 hl156_7
   replace p156 := eq_true p156
   replace q156 := eq_true q156
   refine start_ (n := 19) (S := fun w' => w'.cell? ad156 = some (.int .i64 ((rd_T32 l0 0).f0)) ∧ w'.cell? ⟨ad156.block, ad156.off + 1, none⟩ = some (.int .i64 ((rd_T32 l0 0).f1)) ∧ w'.cell? ⟨ad156.block, ad156.off + 2, none⟩ = some (.string ((rd_T32 l0 0).f2)) ∧ w'.cell? ⟨ad156.block, ad156.off + 3, none⟩ = some (.int .i64 ((rd_T32 l0 0).f3.f0)) ∧ w'.cell? ⟨ad156.block, ad156.off + 4, none⟩ = some (.int .i64 ((rd_T32 l0 0).f3.f1)) ∧ w'.cell? ⟨ad156.block, ad156.off + 5, none⟩ = some (.string ((rd_T32 l0 0).f3.f2)) ∧ w'.cell? ⟨ad156.block, ad156.off + 6, none⟩ = some (.int .i64 ((rd_T32 l0 0).f3.f3)) ∧ w'.cell? ⟨ad156.block, ad156.off + 7, none⟩ = some (.slice A156_7 ((rd_T32 l0 0).f4).length c156_7)) (ds := []) #[false, false, false, false, false, false, false, false, false, false, false, false, false, false, false, false, false, false, false] (by kernel_rfl) rfl rfl ⟨((HB.out.cell (World.block_lt_of_cell? w _ hw156_0)).trans hw156_0), ((HB.out.cell (World.block_lt_of_cell? w _ hw156_1)).trans hw156_1), ((HB.out.cell (World.block_lt_of_cell? w _ hw156_2)).trans hw156_2), ((HB.out.cell (World.block_lt_of_cell? w _ hw156_3)).trans hw156_3), ((HB.out.cell (World.block_lt_of_cell? w _ hw156_4)).trans hw156_4), ((HB.out.cell (World.block_lt_of_cell? w _ hw156_5)).trans hw156_5), ((HB.out.cell (World.block_lt_of_cell? w _ hw156_6)).trans hw156_6), ((HB.out.cell (World.block_lt_of_cell? w _ hw156_7)).trans hw156_7)⟩ (fun hHeld => ?_); refine with_tabW spec_l22Shape.tab1 spec_l22Shape.bits1 (fun HT_ HW_ => ?_)
   generalize w.drew = w8 at HB HR156_7 hx156_0 hx156_1 hx156_2 hx156_3 hx156_4 hx156_5 hx156_6 hx156_7 hHeld ⊢
   refine pure_ (i := 0) (N := some 4) (v := ?_) (a' := ?_) (bN 19 1) rfl rfl (any_of HT_.out (by kernel_rfl)) (fun _ _ _ h => h) (Or.inl ⟨by rfl, ?_⟩) ?_ ?_
   rotate_left
   ·intro w'
    go_simp
    with_reducible rfl
   rotate_left
   ·simp only [Act.put, List.setIfInBounds_toArray, List.set_cons_zero, List.set_cons_succ, i64_w, i32_w]
    rfl
   refine pure_ (i := 1) (N := some 5) (v := ?_) (a' := ?_) (bN 19 3) rfl rfl (any_of HT_.out (by kernel_rfl)) (fun _ _ _ h => h) (Or.inl ⟨by rfl, ?_⟩) ?_ ?_
   rotate_left
   ·intro w'
    go_simp
    with_reducible rfl
   rotate_left
   ·simp only [Act.put, List.setIfInBounds_toArray, List.set_cons_zero, List.set_cons_succ, i64_w, i32_w]
    rfl
   refine pure_ (i := 2) (N := some 6) (v := ?_) (a' := ?_) (bN 19 7) rfl rfl (any_of HT_.out (by kernel_rfl)) (fun _ _ _ h => h) (Or.inl ⟨by rfl, ?_⟩) ?_ ?_
   rotate_left
   ·intro w'
    go_simp
    with_reducible rfl
   rotate_left
   ·simp only [Act.put, List.setIfInBounds_toArray, List.set_cons_zero, List.set_cons_succ, i64_w, i32_w]
    rfl
   refine take_ (i := 3) (N := some 7) (v := ?_) (a' := ?_) (bN 19 15) rfl rfl (take_ofW HT_.out HW_.out (by kernel_rfl)) (fun _ _ _ h => h) (Or.inl ⟨by rfl, ?_⟩) hHeld ?_ ?_
   rotate_left
   ·rintro w' ⟨s0, s1, s2, s3, s4, s5, s6, s7⟩
    go_simp
    with_reducible rfl
   rotate_left
   ·simp only [Act.put, List.setIfInBounds_toArray, List.set_cons_zero, List.set_cons_succ, i64_w, i32_w]
    rfl
   refine one_ (i := 4) (N := some 8) (bN 19 31) rfl rfl (one_of HT_.out (by kernel_rfl)) (by decide) (fun K hK => ?_)
   refine goes_ Try.func113 (by kernel_rfl) rfl #[.int .i64 ((rd_T32 l0 0).f0), .int .i64 1, .int .i64 18] (by rfl) rfl rfl (by (try simp only [List.map_toArray, List.map_cons, List.map_nil]); first | done | rfl | (simp only [List.length_drop, List.length_take]; rfl)) ?_
   with_reducible refine (spec_l00In.calls ((rd_T32 l0 0).f0) 1 18 false _ A4.out).mono ?_
   rintro e w' ⟨rfl, ⟨nd, rfl⟩⟩
   refine ⟨_, rfl, ?_⟩
   refine hK.out _ _ ⟨((HB.out.cell (World.block_lt_of_cell? w _ hw156_0)).trans hw156_0), ((HB.out.cell (World.block_lt_of_cell? w _ hw156_1)).trans hw156_1), ((HB.out.cell (World.block_lt_of_cell? w _ hw156_2)).trans hw156_2), ((HB.out.cell (World.block_lt_of_cell? w _ hw156_3)).trans hw156_3), ((HB.out.cell (World.block_lt_of_cell? w _ hw156_4)).trans hw156_4), ((HB.out.cell (World.block_lt_of_cell? w _ hw156_5)).trans hw156_5), ((HB.out.cell (World.block_lt_of_cell? w _ hw156_6)).trans hw156_6), ((HB.out.cell (World.block_lt_of_cell? w _ hw156_7)).trans hw156_7)⟩ (fun hHeld => ?_)
   clear hK K
   refine norm_ (a' := ?_) ?_ ?_
   rotate_left
   ·show Act.put _ (some 8) _ = _
    simp only [Act.put, List.setIfInBounds_toArray, List.set_cons_zero, List.set_cons_succ, i64_w, i32_w]
    rfl
   refine pure_ (i := 5) (N := some 9) (v := ?_) (a' := ?_) (bN 19 63) rfl rfl (any_of HT_.out (by kernel_rfl)) (fun _ _ _ h => h) (Or.inl ⟨by rfl, ?_⟩) ?_ ?_
   rotate_left
   ·intro w'
    go_simp
    with_reducible rfl
   rotate_left
   ·simp only [Act.put, List.setIfInBounds_toArray, List.set_cons_zero, List.set_cons_succ, i64_w, i32_w]
    rfl
   refine pure_ (i := 6) (N := some 10) (v := ?_) (a' := ?_) (bN 19 127) rfl rfl (any_of HT_.out (by kernel_rfl)) (fun _ _ _ h => h) (Or.inl ⟨by rfl, ?_⟩) ?_ ?_
   rotate_left
   ·intro w'
    go_simp
    with_reducible rfl
   rotate_left
   ·simp only [Act.put, List.setIfInBounds_toArray, List.set_cons_zero, List.set_cons_succ, i64_w, i32_w]
    rfl
   refine pure_ (i := 7) (N := some 11) (v := undef) (a' := ?_) (bN 19 255) rfl rfl (any_of HT_.out (by kernel_rfl)) (fun _ _ _ h => h) (Or.inr ⟨by rfl, rfl⟩) ?_ ?_
   rotate_left
   ·simp only [Act.put, List.setIfInBounds_toArray, List.set_cons_zero, List.set_cons_succ, i64_w, i32_w]
    rfl
   refine pure_ (i := 8) (N := some 12) (v := undef) (a' := ?_) (bN 19 511) rfl rfl (any_of HT_.out (by kernel_rfl)) (fun _ _ _ h => h) (Or.inr ⟨by rfl, rfl⟩) ?_ ?_
   rotate_left
   ·simp only [Act.put, List.setIfInBounds_toArray, List.set_cons_zero, List.set_cons_succ, i64_w, i32_w]
    rfl
   refine pure_ (i := 9) (N := some 13) (v := undef) (a' := ?_) (bN 19 1023) rfl rfl (any_of HT_.out (by kernel_rfl)) (fun _ _ _ h => h) (Or.inr ⟨by rfl, rfl⟩) ?_ ?_
   rotate_left
   ·simp only [Act.put, List.setIfInBounds_toArray, List.set_cons_zero, List.set_cons_succ, i64_w, i32_w]
    rfl
   refine pure_ (i := 10) (N := some 14) (v := undef) (a' := ?_) (bN 19 2047) rfl rfl (any_of HT_.out (by kernel_rfl)) (fun _ _ _ h => h) (Or.inr ⟨by rfl, rfl⟩) ?_ ?_
   rotate_left
   ·simp only [Act.put, List.setIfInBounds_toArray, List.set_cons_zero, List.set_cons_succ, i64_w, i32_w]
    rfl
   refine pure_ (i := 11) (N := some 15) (v := undef) (a' := ?_) (bN 19 4095) rfl rfl (any_of HT_.out (by kernel_rfl)) (fun _ _ _ h => h) (Or.inr ⟨by rfl, rfl⟩) ?_ ?_
   rotate_left
   ·simp only [Act.put, List.setIfInBounds_toArray, List.set_cons_zero, List.set_cons_succ, i64_w, i32_w]
    rfl
   refine pure_ (i := 12) (N := some 16) (v := undef) (a' := ?_) (bN 19 8191) rfl rfl (any_of HT_.out (by kernel_rfl)) (fun _ _ _ h => h) (Or.inr ⟨by rfl, rfl⟩) ?_ ?_
   rotate_left
   ·simp only [Act.put, List.setIfInBounds_toArray, List.set_cons_zero, List.set_cons_succ, i64_w, i32_w]
    rfl
   refine pure_ (i := 13) (N := some 17) (v := undef) (a' := ?_) (bN 19 16383) rfl rfl (any_of HT_.out (by kernel_rfl)) (fun _ _ _ h => h) (Or.inr ⟨by rfl, rfl⟩) ?_ ?_
   rotate_left
   ·simp only [Act.put, List.setIfInBounds_toArray, List.set_cons_zero, List.set_cons_succ, i64_w, i32_w]
    rfl
   refine pure_ (i := 14) (N := some 18) (v := undef) (a' := ?_) (bN 19 32767) rfl rfl (any_of HT_.out (by kernel_rfl)) (fun _ _ _ h => h) (Or.inr ⟨by rfl, rfl⟩) ?_ ?_
   rotate_left
   ·simp only [Act.put, List.setIfInBounds_toArray, List.set_cons_zero, List.set_cons_succ, i64_w, i32_w]
    rfl
   refine pure_ (i := 15) (N := some 19) (v := undef) (a' := ?_) (bN 19 65535) rfl rfl (any_of HT_.out (by kernel_rfl)) (fun _ _ _ h => h) (Or.inr ⟨by rfl, rfl⟩) ?_ ?_
   rotate_left
   ·simp only [Act.put, List.setIfInBounds_toArray, List.set_cons_zero, List.set_cons_succ, i64_w, i32_w]
    rfl
   refine pure_ (i := 16) (N := some 20) (v := undef) (a' := ?_) (bN 19 131071) rfl rfl (any_of HT_.out (by kernel_rfl)) (fun _ _ _ h => h) (Or.inr ⟨by rfl, rfl⟩) ?_ ?_
   rotate_left
   ·simp only [Act.put, List.setIfInBounds_toArray, List.set_cons_zero, List.set_cons_succ, i64_w, i32_w]
    rfl
   refine pure_ (i := 17) (N := some 21) (v := undef) (a' := ?_) (bN 19 262143) rfl rfl (any_of HT_.out (by kernel_rfl)) (fun _ _ _ h => h) (Or.inr ⟨by rfl, rfl⟩) ?_ ?_
   rotate_left
   ·simp only [Act.put, List.setIfInBounds_toArray, List.set_cons_zero, List.set_cons_succ, i64_w, i32_w]
    rfl
   refine pure_ (i := 18) (N := some 22) (v := ?_) (a' := ?_) (bN 19 524287) rfl rfl (any_of HT_.out (by kernel_rfl)) (fun _ _ _ h => h) (Or.inl ⟨by rfl, ?_⟩) ?_ ?_
   rotate_left
   ·intro w'
    go_simp
    with_reducible rfl
   rotate_left
   ·simp only [Act.put, List.setIfInBounds_toArray, List.set_cons_zero, List.set_cons_succ, i64_w, i32_w]
    rfl
   refine done_ (done_of HT_.out (by kernel_rfl)) ?_
   try go_wp2
   go_meet
   case rel => exact ⟨_, (true), sr, H', ⟨by first | omega | exact Nat.le_refl _⟩, ⟨sb⟩⟩
  rw [if_neg c3] at H
  exact absurd H (by simp)
 case rest =>
  clear HC2
  try clear c1
  try clear p1
  try clear q1
  try clear hx1
  try clear qi1
  try clear p2
  try clear c3
  try clear c5
  try clear hx156_0
  try clear hx156_1
  try clear hx156_2
  try clear hx156_3
  try clear hx156_4
  try clear hx156_5
  try clear hx156_6
  try clear hx156_7
  try clear hx158_0
  try clear hx158_1
  try clear hx158_2
  try clear hx158_3
  try clear hx158_4
  try clear hx158_5
  try clear hx158_6
  try clear hx158_7
  try clear hx159_0
  try clear hx159_1
  try clear hx159_2
  try clear hx159_3
  try clear hx159_4
  try clear hx159_5
  try clear hx159_6
  try clear hx159_7
  try clear p156
  try clear p158
  try clear p159
  try clear q156
  try clear q158
  try clear q159
  obtain ⟨kq, x22_1, rfl, HA, HJ1, HB⟩ := hcut
  cases kq with
  | zero => exact absurd HA.out (by simp [spec_l22Shape.j0])
  | succ kj1 =>
   have H := HA.out
   clear HA
   simp only [spec_l22Shape.j0] at H
   by_cases c9 : x22_1 = true
   ·subst c9
    rewrite [if_pos rfl] at H
    obtain rfl := Option.some.inj H
    go_wp2
    go_ret
    exact ⟨sq, sb⟩
   replace c9 := Bool.eq_false_iff.mpr c9
   subst c9
   rewrite [if_neg (show ¬ (false = true) by decide)] at H
   have HC10 := Aside0.mk H
   clear H
   go_upto_region 3 with (fail)
   go_cut [49] (fun v49 wc => ∃ (kq : Nat) (x49_9 : Bool), v49 = .bool x49_9 ∧ Aside0 (spec_l22Shape.j1 kq l0 x49_9 = some r) ∧ Aside0 (kq ≤ kj1) ∧ Aside0 (Below w.heap.size w wc))
   case first =>
    have H := HC10.out
    clear HC10
    by_cases c11 : 0 < (l0.length : Int)
    ·rw [if_pos c11] at H
     have c11b0 := decide_eq_true c11
     have c11b1 : decide (0 < l0.length) = true := decide_eq_true (by omega)
     clear c11
     (first | rw [c11b0] | (simp only [i64_w, i32_w]; rw [c11b0]) | rw [c11b2] | skip)
     by_cases c12 : ((rd_T32 l0 0).f0) = 6
     ·rw [if_pos c12] at H
      have c12b0 : (((rd_T32 l0 0).f0) == 6) = true := beq_iff_eq.mpr c12
      have c12b1 : (((rd_T32 l0 0).f0) != 6) = false := bne_eq_false_iff_eq.mpr c12
      clear c12
      by_cases c13 : ((rd_T32 l0 0).f0) = 1
      ·rw [if_pos c13] at H
       have c13b0 : (((rd_T32 l0 0).f0) == 1) = true := beq_iff_eq.mpr c13
       have c13b1 : (((rd_T32 l0 0).f0) != 1) = false := bne_eq_false_iff_eq.mpr c13
       clear c13
       have H' := Aside0.mk H
       clear H
       have p161 : 0 ≤ (0 : Int) := (by omega)
       have q161 : 0 < (l0.length : Int) := of_decide_eq_true (by first | (with_reducible assumption) | assumption)
       obtain ⟨ad161, A161_7, c161_7, e161, hx161_0, hx161_1, hx161_2, hx161_3, hx161_4, hx161_5, hx161_6, hx161_7, hl161_7, hi161_7⟩ := at_T32 HR0.out 0 p161 q161
       cases e161
       have qi161 : (0 < l0.length) = True := eq_true (by omega)
       (try rw [sZ] at hx161_0)
       (try rw [sZ] at hx161_1)
       (try rw [sZ] at hx161_2)
       (try rw [sZ] at hx161_3)
       (try rw [sZ] at hx161_4)
       (try rw [sZ] at hx161_5)
       (try rw [sZ] at hx161_6)
       (try rw [sZ] at hx161_7)
       replace hx161_0 := sX HB hx161_0
       replace hx161_1 := sX HB hx161_1
       replace hx161_2 := sX HB hx161_2
       replace hx161_3 := sX HB hx161_3
       replace hx161_4 := sX HB hx161_4
       replace hx161_5 := sX HB hx161_5
       replace hx161_6 := sX HB hx161_6
       replace hx161_7 := sX HB hx161_7
       have HR161_7 := Aside0.mk hi161_7
       have HC161_7 := Aside0.mk hl161_7
       clear hi161_7 hl161_7
       replace p161 := eq_true p161
       replace q161 := eq_true q161
       have p162 : 0 ≤ (0 : Int) := (by omega)
       have q162 : 0 < (l0.length : Int) := of_decide_eq_true (by first | (with_reducible assumption) | assumption)
       obtain ⟨ad162, A162_7, c162_7, e162, hx162_0, hx162_1, hx162_2, hx162_3, hx162_4, hx162_5, hx162_6, hx162_7, hl162_7, hi162_7⟩ := at_T32 HR0.out 0 p162 q162
       obtain rfl : ad161 = ad162 := (by injection e162)
       have qi162 : (0 < l0.length) = True := eq_true (by omega)
       (try rw [sZ] at hx162_0)
       (try rw [sZ] at hx162_1)
       (try rw [sZ] at hx162_2)
       (try rw [sZ] at hx162_3)
       (try rw [sZ] at hx162_4)
       (try rw [sZ] at hx162_5)
       (try rw [sZ] at hx162_6)
       (try rw [sZ] at hx162_7)
       replace hx162_0 := sX HB hx162_0
       replace hx162_1 := sX HB hx162_1
       replace hx162_2 := sX HB hx162_2
       replace hx162_3 := sX HB hx162_3
       replace hx162_4 := sX HB hx162_4
       replace hx162_5 := sX HB hx162_5
       replace hx162_6 := sX HB hx162_6
       replace hx162_7 := sX HB hx162_7
       have HR162_7 := Aside0.mk hi162_7
       have HC162_7 := Aside0.mk hl162_7
       clear hi162_7 hl162_7
       replace p162 := eq_true p162
       replace q162 := eq_true q162
       have ea_ := Option.some.inj (hx161_7.symm.trans hx162_7)
       injection ea_ with ea_ en_ ec_
       subst ea_
       subst ec_
       clear en_
       go_wp2
       go_meet
       case rel => exact ⟨_, (false), sr, H', ⟨by have := HJ1.out; first | omega | exact Nat.le_refl _⟩, ⟨sb⟩⟩
      rw [if_neg c13] at H
      have c13b0 : (((rd_T32 l0 0).f0) == 1) = false := beq_eq_false_iff_ne.mpr c13
      have c13b1 : (((rd_T32 l0 0).f0) != 1) = true := bne_iff_ne.mpr c13
      have H' := Aside0.mk H
      clear H
      have p161 : 0 ≤ (0 : Int) := (by omega)
      have q161 : 0 < (l0.length : Int) := of_decide_eq_true (by first | (with_reducible assumption) | assumption)
      obtain ⟨ad161, A161_7, c161_7, e161, hx161_0, hx161_1, hx161_2, hx161_3, hx161_4, hx161_5, hx161_6, hx161_7, hl161_7, hi161_7⟩ := at_T32 HR0.out 0 p161 q161
      cases e161
      have qi161 : (0 < l0.length) = True := eq_true (by omega)
      (try rw [sZ] at hx161_0)
      (try rw [sZ] at hx161_1)
      (try rw [sZ] at hx161_2)
      (try rw [sZ] at hx161_3)
      (try rw [sZ] at hx161_4)
      (try rw [sZ] at hx161_5)
      (try rw [sZ] at hx161_6)
      (try rw [sZ] at hx161_7)
      replace hx161_0 := sX HB hx161_0
      replace hx161_1 := sX HB hx161_1
      replace hx161_2 := sX HB hx161_2
      replace hx161_3 := sX HB hx161_3
      replace hx161_4 := sX HB hx161_4
      replace hx161_5 := sX HB hx161_5
      replace hx161_6 := sX HB hx161_6
      replace hx161_7 := sX HB hx161_7
      have HR161_7 := Aside0.mk hi161_7
      have HC161_7 := Aside0.mk hl161_7
      clear hi161_7 hl161_7
      replace p161 := eq_true p161
      replace q161 := eq_true q161
      have p162 : 0 ≤ (0 : Int) := (by omega)
      have q162 : 0 < (l0.length : Int) := of_decide_eq_true (by first | (with_reducible assumption) | assumption)
      obtain ⟨ad162, A162_7, c162_7, e162, hx162_0, hx162_1, hx162_2, hx162_3, hx162_4, hx162_5, hx162_6, hx162_7, hl162_7, hi162_7⟩ := at_T32 HR0.out 0 p162 q162
      obtain rfl : ad161 = ad162 := (by injection e162)
      have qi162 : (0 < l0.length) = True := eq_true (by omega)
      (try rw [sZ] at hx162_0)
      (try rw [sZ] at hx162_1)
      (try rw [sZ] at hx162_2)
      (try rw [sZ] at hx162_3)
      (try rw [sZ] at hx162_4)
      (try rw [sZ] at hx162_5)
      (try rw [sZ] at hx162_6)
      (try rw [sZ] at hx162_7)
      replace hx162_0 := sX HB hx162_0
      replace hx162_1 := sX HB hx162_1
      replace hx162_2 := sX HB hx162_2
      replace hx162_3 := sX HB hx162_3
      replace hx162_4 := sX HB hx162_4
      replace hx162_5 := sX HB hx162_5
      replace hx162_6 := sX HB hx162_6
      replace hx162_7 := sX HB hx162_7
      have HR162_7 := Aside0.mk hi162_7
      have HC162_7 := Aside0.mk hl162_7
      clear hi162_7 hl162_7
      replace p162 := eq_true p162
      replace q162 := eq_true q162
      have ea_ := Option.some.inj (hx161_7.symm.trans hx162_7)
      injection ea_ with ea_ en_ ec_
      subst ea_
      subst ec_
      clear en_
      have p163 : 0 ≤ (0 : Int) := (by omega)
      have q163 : 0 < (l0.length : Int) := of_decide_eq_true (by first | (with_reducible assumption) | assumption)
      obtain ⟨ad163, A163_7, c163_7, e163, hx163_0, hx163_1, hx163_2, hx163_3, hx163_4, hx163_5, hx163_6, hx163_7, hl163_7, hi163_7⟩ := at_T32 HR0.out 0 p163 q163
      obtain rfl : ad161 = ad163 := (by injection e163)
      have qi163 : (0 < l0.length) = True := eq_true (by omega)
      (try rw [sZ] at hx163_0)
      (try rw [sZ] at hx163_1)
      (try rw [sZ] at hx163_2)
      (try rw [sZ] at hx163_3)
      (try rw [sZ] at hx163_4)
      (try rw [sZ] at hx163_5)
      (try rw [sZ] at hx163_6)
      (try rw [sZ] at hx163_7)
      replace hx163_0 := sX HB hx163_0
      replace hx163_1 := sX HB hx163_1
      replace hx163_2 := sX HB hx163_2
      replace hx163_3 := sX HB hx163_3
      replace hx163_4 := sX HB hx163_4
      replace hx163_5 := sX HB hx163_5
      replace hx163_6 := sX HB hx163_6
      replace hx163_7 := sX HB hx163_7
      have HR163_7 := Aside0.mk hi163_7
      have HC163_7 := Aside0.mk hl163_7
      clear hi163_7 hl163_7
      replace p163 := eq_true p163
      replace q163 := eq_true q163
      have ea_ := Option.some.inj (hx161_7.symm.trans hx163_7)
      injection ea_ with ea_ en_ ec_
      subst ea_
      subst ec_
      clear en_
      go_wp2
      go_meet
      case rel => exact ⟨_, ((!(((rd_T32 l0 0).f3.f0) == 0) || (!(((rd_T32 l0 0).f3.f1) == 0) || (!(((rd_T32 l0 0).f3.f2).toList).isEmpty || (!(((rd_T32 l0 0).f3.f3) == 0)))))), sr, H', ⟨by have := HJ1.out; first | omega | exact Nat.le_refl _⟩, ⟨sb⟩⟩
     rw [if_neg c12] at H
     have c12b0 : (((rd_T32 l0 0).f0) == 6) = false := beq_eq_false_iff_ne.mpr c12
     have c12b1 : (((rd_T32 l0 0).f0) != 6) = true := bne_iff_ne.mpr c12
     by_cases c14 : ((rd_T32 l0 0).f1) = 0
     ·rw [if_pos c14] at H
      have c14b0 : (((rd_T32 l0 0).f1) == 0) = true := beq_iff_eq.mpr c14
      have c14b1 : (((rd_T32 l0 0).f1) != 0) = false := bne_eq_false_iff_eq.mpr c14
      clear c14
      by_cases c15 : ((rd_T32 l0 0).f0) = 1
      ·rw [if_pos c15] at H
       have c15b0 : (((rd_T32 l0 0).f0) == 1) = true := beq_iff_eq.mpr c15
       have c15b1 : (((rd_T32 l0 0).f0) != 1) = false := bne_eq_false_iff_eq.mpr c15
       clear c15
       have H' := Aside0.mk H
       clear H
       have p161 : 0 ≤ (0 : Int) := (by omega)
       have q161 : 0 < (l0.length : Int) := of_decide_eq_true (by first | (with_reducible assumption) | assumption)
       obtain ⟨ad161, A161_7, c161_7, e161, hx161_0, hx161_1, hx161_2, hx161_3, hx161_4, hx161_5, hx161_6, hx161_7, hl161_7, hi161_7⟩ := at_T32 HR0.out 0 p161 q161
       cases e161
       have qi161 : (0 < l0.length) = True := eq_true (by omega)
       (try rw [sZ] at hx161_0)
       (try rw [sZ] at hx161_1)
       (try rw [sZ] at hx161_2)
       (try rw [sZ] at hx161_3)
       (try rw [sZ] at hx161_4)
       (try rw [sZ] at hx161_5)
       (try rw [sZ] at hx161_6)
       (try rw [sZ] at hx161_7)
       replace hx161_0 := sX HB hx161_0
       replace hx161_1 := sX HB hx161_1
       replace hx161_2 := sX HB hx161_2
       replace hx161_3 := sX HB hx161_3
       replace hx161_4 := sX HB hx161_4
       replace hx161_5 := sX HB hx161_5
       replace hx161_6 := sX HB hx161_6
       replace hx161_7 := sX HB hx161_7
       have HR161_7 := Aside0.mk hi161_7
       have HC161_7 := Aside0.mk hl161_7
       clear hi161_7 hl161_7
       replace p161 := eq_true p161
       replace q161 := eq_true q161
       have p164 : 0 ≤ (0 : Int) := (by omega)
       have q164 : 0 < (l0.length : Int) := of_decide_eq_true (by first | (with_reducible assumption) | assumption)
       obtain ⟨ad164, A164_7, c164_7, e164, hx164_0, hx164_1, hx164_2, hx164_3, hx164_4, hx164_5, hx164_6, hx164_7, hl164_7, hi164_7⟩ := at_T32 HR0.out 0 p164 q164
       obtain rfl : ad161 = ad164 := (by injection e164)
       have qi164 : (0 < l0.length) = True := eq_true (by omega)
       (try rw [sZ] at hx164_0)
       (try rw [sZ] at hx164_1)
       (try rw [sZ] at hx164_2)
       (try rw [sZ] at hx164_3)
       (try rw [sZ] at hx164_4)
       (try rw [sZ] at hx164_5)
       (try rw [sZ] at hx164_6)
       (try rw [sZ] at hx164_7)
       replace hx164_0 := sX HB hx164_0
       replace hx164_1 := sX HB hx164_1
       replace hx164_2 := sX HB hx164_2
       replace hx164_3 := sX HB hx164_3
       replace hx164_4 := sX HB hx164_4
       replace hx164_5 := sX HB hx164_5
       replace hx164_6 := sX HB hx164_6
       replace hx164_7 := sX HB hx164_7
       have HR164_7 := Aside0.mk hi164_7
       have HC164_7 := Aside0.mk hl164_7
       clear hi164_7 hl164_7
       replace p164 := eq_true p164
       replace q164 := eq_true q164
       have ea_ := Option.some.inj (hx161_7.symm.trans hx164_7)
       injection ea_ with ea_ en_ ec_
       subst ea_
       subst ec_
       clear en_
       have p165 : 0 ≤ (0 : Int) := (by omega)
       have q165 : 0 < (l0.length : Int) := of_decide_eq_true (by first | (with_reducible assumption) | assumption)
       obtain ⟨ad165, A165_7, c165_7, e165, hx165_0, hx165_1, hx165_2, hx165_3, hx165_4, hx165_5, hx165_6, hx165_7, hl165_7, hi165_7⟩ := at_T32 HR0.out 0 p165 q165
       obtain rfl : ad161 = ad165 := (by injection e165)
       have qi165 : (0 < l0.length) = True := eq_true (by omega)
       (try rw [sZ] at hx165_0)
       (try rw [sZ] at hx165_1)
       (try rw [sZ] at hx165_2)
       (try rw [sZ] at hx165_3)
       (try rw [sZ] at hx165_4)
       (try rw [sZ] at hx165_5)
       (try rw [sZ] at hx165_6)
       (try rw [sZ] at hx165_7)
       replace hx165_0 := sX HB hx165_0
       replace hx165_1 := sX HB hx165_1
       replace hx165_2 := sX HB hx165_2
       replace hx165_3 := sX HB hx165_3
       replace hx165_4 := sX HB hx165_4
       replace hx165_5 := sX HB hx165_5
       replace hx165_6 := sX HB hx165_6
       replace hx165_7 := sX HB hx165_7
       have HR165_7 := Aside0.mk hi165_7
       have HC165_7 := Aside0.mk hl165_7
       clear hi165_7 hl165_7
       replace p165 := eq_true p165
       replace q165 := eq_true q165
       have ea_ := Option.some.inj (hx161_7.symm.trans hx165_7)
       injection ea_ with ea_ en_ ec_
       subst ea_
       subst ec_
       clear en_
       go_wp2
       go_meet
       case rel => exact ⟨_, (false), sr, H', ⟨by have := HJ1.out; first | omega | exact Nat.le_refl _⟩, ⟨sb⟩⟩
      rw [if_neg c15] at H
      have c15b0 : (((rd_T32 l0 0).f0) == 1) = false := beq_eq_false_iff_ne.mpr c15
      have c15b1 : (((rd_T32 l0 0).f0) != 1) = true := bne_iff_ne.mpr c15
      have H' := Aside0.mk H
      clear H
      have p161 : 0 ≤ (0 : Int) := (by omega)
      have q161 : 0 < (l0.length : Int) := of_decide_eq_true (by first | (with_reducible assumption) | assumption)
      obtain ⟨ad161, A161_7, c161_7, e161, hx161_0, hx161_1, hx161_2, hx161_3, hx161_4, hx161_5, hx161_6, hx161_7, hl161_7, hi161_7⟩ := at_T32 HR0.out 0 p161 q161
      cases e161
      have qi161 : (0 < l0.length) = True := eq_true (by omega)
      (try rw [sZ] at hx161_0)
      (try rw [sZ] at hx161_1)
      (try rw [sZ] at hx161_2)
      (try rw [sZ] at hx161_3)
      (try rw [sZ] at hx161_4)
      (try rw [sZ] at hx161_5)
      (try rw [sZ] at hx161_6)
      (try rw [sZ] at hx161_7)
      replace hx161_0 := sX HB hx161_0
      replace hx161_1 := sX HB hx161_1
      replace hx161_2 := sX HB hx161_2
      replace hx161_3 := sX HB hx161_3
      replace hx161_4 := sX HB hx161_4
      replace hx161_5 := sX HB hx161_5
      replace hx161_6 := sX HB hx161_6
      replace hx161_7 := sX HB hx161_7
      have HR161_7 := Aside0.mk hi161_7
      have HC161_7 := Aside0.mk hl161_7
      clear hi161_7 hl161_7
      replace p161 := eq_true p161
      replace q161 := eq_true q161
      have p164 : 0 ≤ (0 : Int) := (by omega)
      have q164 : 0 < (l0.length : Int) := of_decide_eq_true (by first | (with_reducible assumption) | assumption)
      obtain ⟨ad164, A164_7, c164_7, e164, hx164_0, hx164_1, hx164_2, hx164_3, hx164_4, hx164_5, hx164_6, hx164_7, hl164_7, hi164_7⟩ := at_T32 HR0.out 0 p164 q164
      obtain rfl : ad161 = ad164 := (by injection e164)
      have qi164 : (0 < l0.length) = True := eq_true (by omega)
      (try rw [sZ] at hx164_0)
      (try rw [sZ] at hx164_1)
      (try rw [sZ] at hx164_2)
      (try rw [sZ] at hx164_3)
      (try rw [sZ] at hx164_4)
      (try rw [sZ] at hx164_5)
      (try rw [sZ] at hx164_6)
      (try rw [sZ] at hx164_7)
      replace hx164_0 := sX HB hx164_0
      replace hx164_1 := sX HB hx164_1
      replace hx164_2 := sX HB hx164_2
      replace hx164_3 := sX HB hx164_3
      replace hx164_4 := sX HB hx164_4
      replace hx164_5 := sX HB hx164_5
      replace hx164_6 := sX HB hx164_6
      replace hx164_7 := sX HB hx164_7
      have HR164_7 := Aside0.mk hi164_7
      have HC164_7 := Aside0.mk hl164_7
      clear hi164_7 hl164_7
      replace p164 := eq_true p164
      replace q164 := eq_true q164
      have ea_ := Option.some.inj (hx161_7.symm.trans hx164_7)
      injection ea_ with ea_ en_ ec_
      subst ea_
      subst ec_
      clear en_
      have p165 : 0 ≤ (0 : Int) := (by omega)
      have q165 : 0 < (l0.length : Int) := of_decide_eq_true (by first | (with_reducible assumption) | assumption)
      obtain ⟨ad165, A165_7, c165_7, e165, hx165_0, hx165_1, hx165_2, hx165_3, hx165_4, hx165_5, hx165_6, hx165_7, hl165_7, hi165_7⟩ := at_T32 HR0.out 0 p165 q165
      obtain rfl : ad161 = ad165 := (by injection e165)
      have qi165 : (0 < l0.length) = True := eq_true (by omega)
      (try rw [sZ] at hx165_0)
      (try rw [sZ] at hx165_1)
      (try rw [sZ] at hx165_2)
      (try rw [sZ] at hx165_3)
      (try rw [sZ] at hx165_4)
      (try rw [sZ] at hx165_5)
      (try rw [sZ] at hx165_6)
      (try rw [sZ] at hx165_7)
      replace hx165_0 := sX HB hx165_0
      replace hx165_1 := sX HB hx165_1
      replace hx165_2 := sX HB hx165_2
      replace hx165_3 := sX HB hx165_3
      replace hx165_4 := sX HB hx165_4
      replace hx165_5 := sX HB hx165_5
      replace hx165_6 := sX HB hx165_6
      replace hx165_7 := sX HB hx165_7
      have HR165_7 := Aside0.mk hi165_7
      have HC165_7 := Aside0.mk hl165_7
      clear hi165_7 hl165_7
      replace p165 := eq_true p165
      replace q165 := eq_true q165
      have ea_ := Option.some.inj (hx161_7.symm.trans hx165_7)
      injection ea_ with ea_ en_ ec_
      subst ea_
      subst ec_
      clear en_
      have p166 : 0 ≤ (0 : Int) := (by omega)
      have q166 : 0 < (l0.length : Int) := of_decide_eq_true (by first | (with_reducible assumption) | assumption)
      obtain ⟨ad166, A166_7, c166_7, e166, hx166_0, hx166_1, hx166_2, hx166_3, hx166_4, hx166_5, hx166_6, hx166_7, hl166_7, hi166_7⟩ := at_T32 HR0.out 0 p166 q166
      obtain rfl : ad161 = ad166 := (by injection e166)
      have qi166 : (0 < l0.length) = True := eq_true (by omega)
      (try rw [sZ] at hx166_0)
      (try rw [sZ] at hx166_1)
      (try rw [sZ] at hx166_2)
      (try rw [sZ] at hx166_3)
      (try rw [sZ] at hx166_4)
      (try rw [sZ] at hx166_5)
      (try rw [sZ] at hx166_6)
      (try rw [sZ] at hx166_7)
      replace hx166_0 := sX HB hx166_0
      replace hx166_1 := sX HB hx166_1
      replace hx166_2 := sX HB hx166_2
      replace hx166_3 := sX HB hx166_3
      replace hx166_4 := sX HB hx166_4
      replace hx166_5 := sX HB hx166_5
      replace hx166_6 := sX HB hx166_6
      replace hx166_7 := sX HB hx166_7
      have HR166_7 := Aside0.mk hi166_7
      have HC166_7 := Aside0.mk hl166_7
      clear hi166_7 hl166_7
      replace p166 := eq_true p166
      replace q166 := eq_true q166
      have ea_ := Option.some.inj (hx161_7.symm.trans hx166_7)
      injection ea_ with ea_ en_ ec_
      subst ea_
      subst ec_
      clear en_
      go_wp2
      go_meet
      case rel => exact ⟨_, ((!(((rd_T32 l0 0).f3.f0) == 0) || (!(((rd_T32 l0 0).f3.f1) == 0) || (!(((rd_T32 l0 0).f3.f2).toList).isEmpty || (!(((rd_T32 l0 0).f3.f3) == 0)))))), sr, H', ⟨by have := HJ1.out; first | omega | exact Nat.le_refl _⟩, ⟨sb⟩⟩
     rw [if_neg c14] at H
     have c14b0 : (((rd_T32 l0 0).f1) == 0) = false := beq_eq_false_iff_ne.mpr c14
     have c14b1 : (((rd_T32 l0 0).f1) != 0) = true := bne_iff_ne.mpr c14
     have H' := Aside0.mk H
     clear H
     have p161 : 0 ≤ (0 : Int) := (by omega)
     have q161 : 0 < (l0.length : Int) := of_decide_eq_true (by first | (with_reducible assumption) | assumption)
     obtain ⟨ad161, A161_7, c161_7, e161, hx161_0, hx161_1, hx161_2, hx161_3, hx161_4, hx161_5, hx161_6, hx161_7, hl161_7, hi161_7⟩ := at_T32 HR0.out 0 p161 q161
     cases e161
     have qi161 : (0 < l0.length) = True := eq_true (by omega)
     (try rw [sZ] at hx161_0)
     (try rw [sZ] at hx161_1)
     (try rw [sZ] at hx161_2)
     (try rw [sZ] at hx161_3)
     (try rw [sZ] at hx161_4)
     (try rw [sZ] at hx161_5)
     (try rw [sZ] at hx161_6)
     (try rw [sZ] at hx161_7)
     replace hx161_0 := sX HB hx161_0
     replace hx161_1 := sX HB hx161_1
     replace hx161_2 := sX HB hx161_2
     replace hx161_3 := sX HB hx161_3
     replace hx161_4 := sX HB hx161_4
     replace hx161_5 := sX HB hx161_5
     replace hx161_6 := sX HB hx161_6
     replace hx161_7 := sX HB hx161_7
     have HR161_7 := Aside0.mk hi161_7
     have HC161_7 := Aside0.mk hl161_7
     clear hi161_7 hl161_7
     replace p161 := eq_true p161
     replace q161 := eq_true q161
     have p164 : 0 ≤ (0 : Int) := (by omega)
     have q164 : 0 < (l0.length : Int) := of_decide_eq_true (by first | (with_reducible assumption) | assumption)
     obtain ⟨ad164, A164_7, c164_7, e164, hx164_0, hx164_1, hx164_2, hx164_3, hx164_4, hx164_5, hx164_6, hx164_7, hl164_7, hi164_7⟩ := at_T32 HR0.out 0 p164 q164
     obtain rfl : ad161 = ad164 := (by injection e164)
     have qi164 : (0 < l0.length) = True := eq_true (by omega)
     (try rw [sZ] at hx164_0)
     (try rw [sZ] at hx164_1)
     (try rw [sZ] at hx164_2)
     (try rw [sZ] at hx164_3)
     (try rw [sZ] at hx164_4)
     (try rw [sZ] at hx164_5)
     (try rw [sZ] at hx164_6)
     (try rw [sZ] at hx164_7)
     replace hx164_0 := sX HB hx164_0
     replace hx164_1 := sX HB hx164_1
     replace hx164_2 := sX HB hx164_2
     replace hx164_3 := sX HB hx164_3
     replace hx164_4 := sX HB hx164_4
     replace hx164_5 := sX HB hx164_5
     replace hx164_6 := sX HB hx164_6
     replace hx164_7 := sX HB hx164_7
     have HR164_7 := Aside0.mk hi164_7
     have HC164_7 := Aside0.mk hl164_7
     clear hi164_7 hl164_7
     replace p164 := eq_true p164
     replace q164 := eq_true q164
     have ea_ := Option.some.inj (hx161_7.symm.trans hx164_7)
     injection ea_ with ea_ en_ ec_
     subst ea_
     subst ec_
     clear en_
     go_wp2
     go_meet
     case rel => exact ⟨_, (true), sr, H', ⟨by have := HJ1.out; first | omega | exact Nat.le_refl _⟩, ⟨sb⟩⟩
    rw [if_neg c11] at H
    exact absurd H (by simp)
   case rest =>
    clear HC10
    try clear c1
    try clear p1
    try clear q1
    try clear hx1
    try clear qi1
    try clear p2
    try clear c11
    try clear c12
    try clear c12b0
    try clear c12b1
    try clear c13
    try clear c13b0
    try clear c13b1
    try clear c14
    try clear c14b0
    try clear c14b1
    try clear c15
    try clear c15b0
    try clear c15b1
    try clear hx161_0
    try clear hx161_1
    try clear hx161_2
    try clear hx161_3
    try clear hx161_4
    try clear hx161_5
    try clear hx161_6
    try clear hx161_7
    try clear hx162_0
    try clear hx162_1
    try clear hx162_2
    try clear hx162_3
    try clear hx162_4
    try clear hx162_5
    try clear hx162_6
    try clear hx162_7
    try clear hx163_0
    try clear hx163_1
    try clear hx163_2
    try clear hx163_3
    try clear hx163_4
    try clear hx163_5
    try clear hx163_6
    try clear hx163_7
    try clear hx164_0
    try clear hx164_1
    try clear hx164_2
    try clear hx164_3
    try clear hx164_4
    try clear hx164_5
    try clear hx164_6
    try clear hx164_7
    try clear hx165_0
    try clear hx165_1
    try clear hx165_2
    try clear hx165_3
    try clear hx165_4
    try clear hx165_5
    try clear hx165_6
    try clear hx165_7
    try clear hx166_0
    try clear hx166_1
    try clear hx166_2
    try clear hx166_3
    try clear hx166_4
    try clear hx166_5
    try clear hx166_6
    try clear hx166_7
    try clear p161
    try clear p162
    try clear p163
    try clear p164
    try clear p165
    try clear p166
    try clear q161
    try clear q162
    try clear q163
    try clear q164
    try clear q165
    try clear q166
    obtain ⟨kq, x49_9, rfl, HA, HJ9, HB⟩ := hcut
    cases kq with
    | zero => exact absurd HA.out (by simp [spec_l22Shape.j1])
    | succ kj9 =>
     have H := HA.out
     clear HA
     simp only [spec_l22Shape.j1] at H
     by_cases c16 : x49_9 = true
     ·subst c16
      rewrite [if_pos rfl] at H
      obtain rfl := Option.some.inj H
      go_wp2
      go_ret
      exact ⟨sq, sb⟩
     replace c16 := Bool.eq_false_iff.mpr c16
     subst c16
     rewrite [if_neg (show ¬ (false = true) by decide)] at H
     by_cases c17 : 0 < (l0.length : Int)
     ·rw [if_pos c17] at H
      have c17b0 := decide_eq_true c17
      have c17b1 : decide (0 < l0.length) = true := decide_eq_true (by omega)
      clear c17
      by_cases c18 : ((rd_T32 l0 0).f0) = 1
      ·rw [if_pos c18] at H
       have c18b0 : (((rd_T32 l0 0).f0) == 1) = true := beq_iff_eq.mpr c18
       have c18b1 : (((rd_T32 l0 0).f0) != 1) = false := bne_eq_false_iff_eq.mpr c18
       clear c18
       by_cases c19 : ((rd_T32 l0 0).f2).toList = ([] : List UInt8)
       ·rw [if_pos c19] at H
        have c19b0 : (((rd_T32 l0 0).f2).toList == ([] : List UInt8)) = true := beq_iff_eq.mpr c19
        have c19b1 : (((rd_T32 l0 0).f2).toList != ([] : List UInt8)) = false := bne_eq_false_iff_eq.mpr c19
        have c19b2 : ((rd_T32 l0 0).f2).toList.isEmpty = true := by simpa using c19
        clear c19
        obtain ⟨t171, A20, H⟩ := sO H
        by_cases c21 : t171 = true
        ·subst c21
         rewrite [if_pos rfl] at H
         by_cases c22 : ((rd_T32 l0 0).f3.f0) = 1
         ·rw [if_pos c22] at H
          have c22b0 : (((rd_T32 l0 0).f3.f0) == 1) = true := beq_iff_eq.mpr c22
          have c22b1 : (((rd_T32 l0 0).f3.f0) != 1) = false := bne_eq_false_iff_eq.mpr c22
          clear c22
          obtain rfl := Option.some.inj H
          have p167 : 0 ≤ (0 : Int) := (by omega)
          have q167 : 0 < (l0.length : Int) := of_decide_eq_true (by first | (with_reducible assumption) | assumption)
          obtain ⟨ad167, A167_7, c167_7, e167, hx167_0, hx167_1, hx167_2, hx167_3, hx167_4, hx167_5, hx167_6, hx167_7, hl167_7, hi167_7⟩ := at_T32 HR0.out 0 p167 q167
          cases e167
          have qi167 : (0 < l0.length) = True := eq_true (by omega)
          (try rw [sZ] at hx167_0)
          (try rw [sZ] at hx167_1)
          (try rw [sZ] at hx167_2)
          (try rw [sZ] at hx167_3)
          (try rw [sZ] at hx167_4)
          (try rw [sZ] at hx167_5)
          (try rw [sZ] at hx167_6)
          (try rw [sZ] at hx167_7)
          replace hx167_0 := sX HB hx167_0
          replace hx167_1 := sX HB hx167_1
          replace hx167_2 := sX HB hx167_2
          replace hx167_3 := sX HB hx167_3
          replace hx167_4 := sX HB hx167_4
          replace hx167_5 := sX HB hx167_5
          replace hx167_6 := sX HB hx167_6
          replace hx167_7 := sX HB hx167_7
          have HR167_7 := Aside0.mk hi167_7
          have HC167_7 := Aside0.mk hl167_7
          clear hi167_7 hl167_7
          replace p167 := eq_true p167
          replace q167 := eq_true q167
          have p168 : 0 ≤ (0 : Int) := (by omega)
          have q168 : 0 < (l0.length : Int) := of_decide_eq_true (by first | (with_reducible assumption) | assumption)
          obtain ⟨ad168, A168_7, c168_7, e168, hx168_0, hx168_1, hx168_2, hx168_3, hx168_4, hx168_5, hx168_6, hx168_7, hl168_7, hi168_7⟩ := at_T32 HR0.out 0 p168 q168
          obtain rfl : ad167 = ad168 := (by injection e168)
          have qi168 : (0 < l0.length) = True := eq_true (by omega)
          (try rw [sZ] at hx168_0)
          (try rw [sZ] at hx168_1)
          (try rw [sZ] at hx168_2)
          (try rw [sZ] at hx168_3)
          (try rw [sZ] at hx168_4)
          (try rw [sZ] at hx168_5)
          (try rw [sZ] at hx168_6)
          (try rw [sZ] at hx168_7)
          replace hx168_0 := sX HB hx168_0
          replace hx168_1 := sX HB hx168_1
          replace hx168_2 := sX HB hx168_2
          replace hx168_3 := sX HB hx168_3
          replace hx168_4 := sX HB hx168_4
          replace hx168_5 := sX HB hx168_5
          replace hx168_6 := sX HB hx168_6
          replace hx168_7 := sX HB hx168_7
          have HR168_7 := Aside0.mk hi168_7
          have HC168_7 := Aside0.mk hl168_7
          clear hi168_7 hl168_7
          replace p168 := eq_true p168
          replace q168 := eq_true q168
          have ea_ := Option.some.inj (hx167_7.symm.trans hx168_7)
          injection ea_ with ea_ en_ ec_
          subst ea_
          subst ec_
          clear en_
          have p169 : 0 ≤ (0 : Int) := (by omega)
          have q169 : 0 < (l0.length : Int) := of_decide_eq_true (by first | (with_reducible assumption) | assumption)
          obtain ⟨ad169, A169_7, c169_7, e169, hx169_0, hx169_1, hx169_2, hx169_3, hx169_4, hx169_5, hx169_6, hx169_7, hl169_7, hi169_7⟩ := at_T32 HR0.out 0 p169 q169
          obtain rfl : ad167 = ad169 := (by injection e169)
          have qi169 : (0 < l0.length) = True := eq_true (by omega)
          (try rw [sZ] at hx169_0)
          (try rw [sZ] at hx169_1)
          (try rw [sZ] at hx169_2)
          (try rw [sZ] at hx169_3)
          (try rw [sZ] at hx169_4)
          (try rw [sZ] at hx169_5)
          (try rw [sZ] at hx169_6)
          (try rw [sZ] at hx169_7)
          replace hx169_0 := sX HB hx169_0
          replace hx169_1 := sX HB hx169_1
          replace hx169_2 := sX HB hx169_2
          replace hx169_3 := sX HB hx169_3
          replace hx169_4 := sX HB hx169_4
          replace hx169_5 := sX HB hx169_5
          replace hx169_6 := sX HB hx169_6
          replace hx169_7 := sX HB hx169_7
          have HR169_7 := Aside0.mk hi169_7
          have HC169_7 := Aside0.mk hl169_7
          clear hi169_7 hl169_7
          replace p169 := eq_true p169
          replace q169 := eq_true q169
          have ea_ := Option.some.inj (hx167_7.symm.trans hx169_7)
          injection ea_ with ea_ en_ ec_
          subst ea_
          subst ec_
          clear en_
          have p170 : 0 ≤ (0 : Int) := (by omega)
          have q170 : 0 < (l0.length : Int) := of_decide_eq_true (by first | (with_reducible assumption) | assumption)
          obtain ⟨ad170, A170_7, c170_7, e170, hx170_0, hx170_1, hx170_2, hx170_3, hx170_4, hx170_5, hx170_6, hx170_7, hl170_7, hi170_7⟩ := at_T32 HR0.out 0 p170 q170
          obtain rfl : ad167 = ad170 := (by injection e170)
          have qi170 : (0 < l0.length) = True := eq_true (by omega)
          (try rw [sZ] at hx170_0)
          (try rw [sZ] at hx170_1)
          (try rw [sZ] at hx170_2)
          (try rw [sZ] at hx170_3)
          (try rw [sZ] at hx170_4)
          (try rw [sZ] at hx170_5)
          (try rw [sZ] at hx170_6)
          (try rw [sZ] at hx170_7)
          replace hx170_0 := sX HB hx170_0
          replace hx170_1 := sX HB hx170_1
          replace hx170_2 := sX HB hx170_2
          replace hx170_3 := sX HB hx170_3
          replace hx170_4 := sX HB hx170_4
          replace hx170_5 := sX HB hx170_5
          replace hx170_6 := sX HB hx170_6
          replace hx170_7 := sX HB hx170_7
          have HR170_7 := Aside0.mk hi170_7
          have HC170_7 := Aside0.mk hl170_7
          clear hi170_7 hl170_7
          replace p170 := eq_true p170
          replace q170 := eq_true q170
          have ea_ := Option.some.inj (hx167_7.symm.trans hx170_7)
          injection ea_ with ea_ en_ ec_
          subst ea_
          subst ec_
          clear en_
          go_wp2_with (first | (go_at_call 115; (with_reducible refine (spec_ValidValue.calls kj9 ((rd_T32 l0 0).f3.f0) ((rd_T32 l0 0).f3.f1) ((rd_T32 l0 0).f3.f2) ((rd_T32 l0 0).f3.f3) true _ A20.out).mono ?_); rintro e w23 ⟨rfl, hb⟩; have n0_ := sB HB hb; clear HB; have HB := n0_; clear n0_; (try clear hb); (try clear hb2); (try clear hk); (try clear hi)))
          go_ret
          exact ⟨sq, sb⟩
         rw [if_neg c22] at H
         have c22b0 : (((rd_T32 l0 0).f3.f0) == 1) = false := beq_eq_false_iff_ne.mpr c22
         have c22b1 : (((rd_T32 l0 0).f3.f0) != 1) = true := bne_iff_ne.mpr c22
         by_cases c24 : ((rd_T32 l0 0).f3.f0) = 2
         ·rw [if_pos c24] at H
          have c24b0 : (((rd_T32 l0 0).f3.f0) == 2) = true := beq_iff_eq.mpr c24
          have c24b1 : (((rd_T32 l0 0).f3.f0) != 2) = false := bne_eq_false_iff_eq.mpr c24
          clear c24
          obtain rfl := Option.some.inj H
          have p167 : 0 ≤ (0 : Int) := (by omega)
          have q167 : 0 < (l0.length : Int) := of_decide_eq_true (by first | (with_reducible assumption) | assumption)
          obtain ⟨ad167, A167_7, c167_7, e167, hx167_0, hx167_1, hx167_2, hx167_3, hx167_4, hx167_5, hx167_6, hx167_7, hl167_7, hi167_7⟩ := at_T32 HR0.out 0 p167 q167
          cases e167
          have qi167 : (0 < l0.length) = True := eq_true (by omega)
          (try rw [sZ] at hx167_0)
          (try rw [sZ] at hx167_1)
          (try rw [sZ] at hx167_2)
          (try rw [sZ] at hx167_3)
          (try rw [sZ] at hx167_4)
          (try rw [sZ] at hx167_5)
          (try rw [sZ] at hx167_6)
          (try rw [sZ] at hx167_7)
          replace hx167_0 := sX HB hx167_0
          replace hx167_1 := sX HB hx167_1
          replace hx167_2 := sX HB hx167_2
          replace hx167_3 := sX HB hx167_3
          replace hx167_4 := sX HB hx167_4
          replace hx167_5 := sX HB hx167_5
          replace hx167_6 := sX HB hx167_6
          replace hx167_7 := sX HB hx167_7
          have HR167_7 := Aside0.mk hi167_7
          have HC167_7 := Aside0.mk hl167_7
          clear hi167_7 hl167_7
          replace p167 := eq_true p167
          replace q167 := eq_true q167
          have p168 : 0 ≤ (0 : Int) := (by omega)
          have q168 : 0 < (l0.length : Int) := of_decide_eq_true (by first | (with_reducible assumption) | assumption)
          obtain ⟨ad168, A168_7, c168_7, e168, hx168_0, hx168_1, hx168_2, hx168_3, hx168_4, hx168_5, hx168_6, hx168_7, hl168_7, hi168_7⟩ := at_T32 HR0.out 0 p168 q168
          obtain rfl : ad167 = ad168 := (by injection e168)
          have qi168 : (0 < l0.length) = True := eq_true (by omega)
          (try rw [sZ] at hx168_0)
          (try rw [sZ] at hx168_1)
          (try rw [sZ] at hx168_2)
          (try rw [sZ] at hx168_3)
          (try rw [sZ] at hx168_4)
          (try rw [sZ] at hx168_5)
          (try rw [sZ] at hx168_6)
          (try rw [sZ] at hx168_7)
          replace hx168_0 := sX HB hx168_0
          replace hx168_1 := sX HB hx168_1
          replace hx168_2 := sX HB hx168_2
          replace hx168_3 := sX HB hx168_3
          replace hx168_4 := sX HB hx168_4
          replace hx168_5 := sX HB hx168_5
          replace hx168_6 := sX HB hx168_6
          replace hx168_7 := sX HB hx168_7
          have HR168_7 := Aside0.mk hi168_7
          have HC168_7 := Aside0.mk hl168_7
          clear hi168_7 hl168_7
          replace p168 := eq_true p168
          replace q168 := eq_true q168
          have ea_ := Option.some.inj (hx167_7.symm.trans hx168_7)
          injection ea_ with ea_ en_ ec_
          subst ea_
          subst ec_
          clear en_
          have p169 : 0 ≤ (0 : Int) := (by omega)
          have q169 : 0 < (l0.length : Int) := of_decide_eq_true (by first | (with_reducible assumption) | assumption)
          obtain ⟨ad169, A169_7, c169_7, e169, hx169_0, hx169_1, hx169_2, hx169_3, hx169_4, hx169_5, hx169_6, hx169_7, hl169_7, hi169_7⟩ := at_T32 HR0.out 0 p169 q169
          obtain rfl : ad167 = ad169 := (by injection e169)
          have qi169 : (0 < l0.length) = True := eq_true (by omega)
          (try rw [sZ] at hx169_0)
          (try rw [sZ] at hx169_1)
          (try rw [sZ] at hx169_2)
          (try rw [sZ] at hx169_3)
          (try rw [sZ] at hx169_4)
          (try rw [sZ] at hx169_5)
          (try rw [sZ] at hx169_6)
          (try rw [sZ] at hx169_7)
          replace hx169_0 := sX HB hx169_0
          replace hx169_1 := sX HB hx169_1
          replace hx169_2 := sX HB hx169_2
          replace hx169_3 := sX HB hx169_3
          replace hx169_4 := sX HB hx169_4
          replace hx169_5 := sX HB hx169_5
          replace hx169_6 := sX HB hx169_6
          replace hx169_7 := sX HB hx169_7
          have HR169_7 := Aside0.mk hi169_7
          have HC169_7 := Aside0.mk hl169_7
          clear hi169_7 hl169_7
          replace p169 := eq_true p169
          replace q169 := eq_true q169
          have ea_ := Option.some.inj (hx167_7.symm.trans hx169_7)
          injection ea_ with ea_ en_ ec_
          subst ea_
          subst ec_
          clear en_
          have p170 : 0 ≤ (0 : Int) := (by omega)
          have q170 : 0 < (l0.length : Int) := of_decide_eq_true (by first | (with_reducible assumption) | assumption)
          obtain ⟨ad170, A170_7, c170_7, e170, hx170_0, hx170_1, hx170_2, hx170_3, hx170_4, hx170_5, hx170_6, hx170_7, hl170_7, hi170_7⟩ := at_T32 HR0.out 0 p170 q170
          obtain rfl : ad167 = ad170 := (by injection e170)
          have qi170 : (0 < l0.length) = True := eq_true (by omega)
          (try rw [sZ] at hx170_0)
          (try rw [sZ] at hx170_1)
          (try rw [sZ] at hx170_2)
          (try rw [sZ] at hx170_3)
          (try rw [sZ] at hx170_4)
          (try rw [sZ] at hx170_5)
          (try rw [sZ] at hx170_6)
          (try rw [sZ] at hx170_7)
          replace hx170_0 := sX HB hx170_0
          replace hx170_1 := sX HB hx170_1
          replace hx170_2 := sX HB hx170_2
          replace hx170_3 := sX HB hx170_3
          replace hx170_4 := sX HB hx170_4
          replace hx170_5 := sX HB hx170_5
          replace hx170_6 := sX HB hx170_6
          replace hx170_7 := sX HB hx170_7
          have HR170_7 := Aside0.mk hi170_7
          have HC170_7 := Aside0.mk hl170_7
          clear hi170_7 hl170_7
          replace p170 := eq_true p170
          replace q170 := eq_true q170
          have ea_ := Option.some.inj (hx167_7.symm.trans hx170_7)
          injection ea_ with ea_ en_ ec_
          subst ea_
          subst ec_
          clear en_
          go_wp2_with (first | (go_at_call 115; (with_reducible refine (spec_ValidValue.calls kj9 ((rd_T32 l0 0).f3.f0) ((rd_T32 l0 0).f3.f1) ((rd_T32 l0 0).f3.f2) ((rd_T32 l0 0).f3.f3) true _ A20.out).mono ?_); rintro e w25 ⟨rfl, hb⟩; have n0_ := sB HB hb; clear HB; have HB := n0_; clear n0_; (try clear hb); (try clear hb2); (try clear hk); (try clear hi)))
          go_ret
          exact ⟨sq, sb⟩
         rw [if_neg c24] at H
         have c24b0 : (((rd_T32 l0 0).f3.f0) == 2) = false := beq_eq_false_iff_ne.mpr c24
         have c24b1 : (((rd_T32 l0 0).f3.f0) != 2) = true := bne_iff_ne.mpr c24
         obtain ⟨t173, A26, H⟩ := sO H
         obtain rfl := Option.some.inj H
         have p167 : 0 ≤ (0 : Int) := (by omega)
         have q167 : 0 < (l0.length : Int) := of_decide_eq_true (by first | (with_reducible assumption) | assumption)
         obtain ⟨ad167, A167_7, c167_7, e167, hx167_0, hx167_1, hx167_2, hx167_3, hx167_4, hx167_5, hx167_6, hx167_7, hl167_7, hi167_7⟩ := at_T32 HR0.out 0 p167 q167
         cases e167
         have qi167 : (0 < l0.length) = True := eq_true (by omega)
         (try rw [sZ] at hx167_0)
         (try rw [sZ] at hx167_1)
         (try rw [sZ] at hx167_2)
         (try rw [sZ] at hx167_3)
         (try rw [sZ] at hx167_4)
         (try rw [sZ] at hx167_5)
         (try rw [sZ] at hx167_6)
         (try rw [sZ] at hx167_7)
         replace hx167_0 := sX HB hx167_0
         replace hx167_1 := sX HB hx167_1
         replace hx167_2 := sX HB hx167_2
         replace hx167_3 := sX HB hx167_3
         replace hx167_4 := sX HB hx167_4
         replace hx167_5 := sX HB hx167_5
         replace hx167_6 := sX HB hx167_6
         replace hx167_7 := sX HB hx167_7
         have HR167_7 := Aside0.mk hi167_7
         have HC167_7 := Aside0.mk hl167_7
         clear hi167_7 hl167_7
         replace p167 := eq_true p167
         replace q167 := eq_true q167
         have p168 : 0 ≤ (0 : Int) := (by omega)
         have q168 : 0 < (l0.length : Int) := of_decide_eq_true (by first | (with_reducible assumption) | assumption)
         obtain ⟨ad168, A168_7, c168_7, e168, hx168_0, hx168_1, hx168_2, hx168_3, hx168_4, hx168_5, hx168_6, hx168_7, hl168_7, hi168_7⟩ := at_T32 HR0.out 0 p168 q168
         obtain rfl : ad167 = ad168 := (by injection e168)
         have qi168 : (0 < l0.length) = True := eq_true (by omega)
         (try rw [sZ] at hx168_0)
         (try rw [sZ] at hx168_1)
         (try rw [sZ] at hx168_2)
         (try rw [sZ] at hx168_3)
         (try rw [sZ] at hx168_4)
         (try rw [sZ] at hx168_5)
         (try rw [sZ] at hx168_6)
         (try rw [sZ] at hx168_7)
         replace hx168_0 := sX HB hx168_0
         replace hx168_1 := sX HB hx168_1
         replace hx168_2 := sX HB hx168_2
         replace hx168_3 := sX HB hx168_3
         replace hx168_4 := sX HB hx168_4
         replace hx168_5 := sX HB hx168_5
         replace hx168_6 := sX HB hx168_6
         replace hx168_7 := sX HB hx168_7
         have HR168_7 := Aside0.mk hi168_7
         have HC168_7 := Aside0.mk hl168_7
         clear hi168_7 hl168_7
         replace p168 := eq_true p168
         replace q168 := eq_true q168
         have ea_ := Option.some.inj (hx167_7.symm.trans hx168_7)
         injection ea_ with ea_ en_ ec_
         subst ea_
         subst ec_
         clear en_
         have p169 : 0 ≤ (0 : Int) := (by omega)
         have q169 : 0 < (l0.length : Int) := of_decide_eq_true (by first | (with_reducible assumption) | assumption)
         obtain ⟨ad169, A169_7, c169_7, e169, hx169_0, hx169_1, hx169_2, hx169_3, hx169_4, hx169_5, hx169_6, hx169_7, hl169_7, hi169_7⟩ := at_T32 HR0.out 0 p169 q169
         obtain rfl : ad167 = ad169 := (by injection e169)
         have qi169 : (0 < l0.length) = True := eq_true (by omega)
         (try rw [sZ] at hx169_0)
         (try rw [sZ] at hx169_1)
         (try rw [sZ] at hx169_2)
         (try rw [sZ] at hx169_3)
         (try rw [sZ] at hx169_4)
         (try rw [sZ] at hx169_5)
         (try rw [sZ] at hx169_6)
         (try rw [sZ] at hx169_7)
         replace hx169_0 := sX HB hx169_0
         replace hx169_1 := sX HB hx169_1
         replace hx169_2 := sX HB hx169_2
         replace hx169_3 := sX HB hx169_3
         replace hx169_4 := sX HB hx169_4
         replace hx169_5 := sX HB hx169_5
         replace hx169_6 := sX HB hx169_6
         replace hx169_7 := sX HB hx169_7
         have HR169_7 := Aside0.mk hi169_7
         have HC169_7 := Aside0.mk hl169_7
         clear hi169_7 hl169_7
         replace p169 := eq_true p169
         replace q169 := eq_true q169
         have ea_ := Option.some.inj (hx167_7.symm.trans hx169_7)
         injection ea_ with ea_ en_ ec_
         subst ea_
         subst ec_
         clear en_
         have p170 : 0 ≤ (0 : Int) := (by omega)
         have q170 : 0 < (l0.length : Int) := of_decide_eq_true (by first | (with_reducible assumption) | assumption)
         obtain ⟨ad170, A170_7, c170_7, e170, hx170_0, hx170_1, hx170_2, hx170_3, hx170_4, hx170_5, hx170_6, hx170_7, hl170_7, hi170_7⟩ := at_T32 HR0.out 0 p170 q170
         obtain rfl : ad167 = ad170 := (by injection e170)
         have qi170 : (0 < l0.length) = True := eq_true (by omega)
         (try rw [sZ] at hx170_0)
         (try rw [sZ] at hx170_1)
         (try rw [sZ] at hx170_2)
         (try rw [sZ] at hx170_3)
         (try rw [sZ] at hx170_4)
         (try rw [sZ] at hx170_5)
         (try rw [sZ] at hx170_6)
         (try rw [sZ] at hx170_7)
         replace hx170_0 := sX HB hx170_0
         replace hx170_1 := sX HB hx170_1
         replace hx170_2 := sX HB hx170_2
         replace hx170_3 := sX HB hx170_3
         replace hx170_4 := sX HB hx170_4
         replace hx170_5 := sX HB hx170_5
         replace hx170_6 := sX HB hx170_6
         replace hx170_7 := sX HB hx170_7
         have HR170_7 := Aside0.mk hi170_7
         have HC170_7 := Aside0.mk hl170_7
         clear hi170_7 hl170_7
         replace p170 := eq_true p170
         replace q170 := eq_true q170
         have ea_ := Option.some.inj (hx167_7.symm.trans hx170_7)
         injection ea_ with ea_ en_ ec_
         subst ea_
         subst ec_
         clear en_
         go_wp2_with (first | (go_at_call 115; (with_reducible refine (spec_ValidValue.calls kj9 ((rd_T32 l0 0).f3.f0) ((rd_T32 l0 0).f3.f1) ((rd_T32 l0 0).f3.f2) ((rd_T32 l0 0).f3.f3) true _ A20.out).mono ?_); rintro e w27 ⟨rfl, hb⟩; have n0_ := sB HB hb; clear HB; have HB := n0_; clear n0_; (try clear hb); (try clear hb2); (try clear hk); (try clear hi); have p172 : 0 ≤ (0 : Int) := (by omega); have q172 : 0 < (l0.length : Int) := of_decide_eq_true (by first | (with_reducible assumption) | assumption); obtain ⟨ad172, A172_7, c172_7, e172, hx172_0, hx172_1, hx172_2, hx172_3, hx172_4, hx172_5, hx172_6, hx172_7, hl172_7, hi172_7⟩ := at_T32 HR0.out 0 p172 q172; obtain rfl : ad167 = ad172 := (by injection e172); have qi172 : (0 < l0.length) = True := eq_true (by omega); (try rw [show ((0 : Int)).toNat = 0 from rfl] at hx172_0); (try rw [show 0 * 8 = 0 from rfl] at hx172_0); (try rw [Addr.add_zero'] at hx172_0); (try rw [show ((0 : Int)).toNat = 0 from rfl] at hx172_1); (try rw [show 0 * 8 = 0 from rfl] at hx172_1); (try rw [Addr.add_zero'] at hx172_1); (try rw [show ((0 : Int)).toNat = 0 from rfl] at hx172_2); (try rw [show 0 * 8 = 0 from rfl] at hx172_2); (try rw [Addr.add_zero'] at hx172_2); (try rw [show ((0 : Int)).toNat = 0 from rfl] at hx172_3); (try rw [show 0 * 8 = 0 from rfl] at hx172_3); (try rw [Addr.add_zero'] at hx172_3); (try rw [show ((0 : Int)).toNat = 0 from rfl] at hx172_4); (try rw [show 0 * 8 = 0 from rfl] at hx172_4); (try rw [Addr.add_zero'] at hx172_4); (try rw [show ((0 : Int)).toNat = 0 from rfl] at hx172_5); (try rw [show 0 * 8 = 0 from rfl] at hx172_5); (try rw [Addr.add_zero'] at hx172_5); (try rw [show ((0 : Int)).toNat = 0 from rfl] at hx172_6); (try rw [show 0 * 8 = 0 from rfl] at hx172_6); (try rw [Addr.add_zero'] at hx172_6); (try rw [show ((0 : Int)).toNat = 0 from rfl] at hx172_7); (try rw [show 0 * 8 = 0 from rfl] at hx172_7); (try rw [Addr.add_zero'] at hx172_7); replace hx172_0 := sX HB hx172_0; replace hx172_1 := sX HB hx172_1; replace hx172_2 := sX HB hx172_2; replace hx172_3 := sX HB hx172_3; replace hx172_4 := sX HB hx172_4; replace hx172_5 := sX HB hx172_5; replace hx172_6 := sX HB hx172_6; replace hx172_7 := sX HB hx172_7; have HR172_7 := Aside0.mk hi172_7; have HC172_7 := Aside0.mk hl172_7; clear hi172_7 hl172_7; replace p172 := eq_true p172; replace q172 := eq_true q172) | (go_at_call 116; (with_reducible refine (spec_l07IsRef.calls ((rd_T32 l0 0).f3.f0) ((rd_T32 l0 0).f3.f1) ((rd_T32 l0 0).f3.f2) ((rd_T32 l0 0).f3.f3) t173 _ A26.out).mono ?_); rintro e w28 ⟨rfl, hb⟩; have n0_ := sB HB hb; clear HB; have HB := n0_; clear n0_; (try clear hb); (try clear hb2); (try clear hk); (try clear hi)))
         go_ret
         exact ⟨sq, sb⟩
        replace c21 := Bool.eq_false_iff.mpr c21
        subst c21
        rewrite [if_neg (show ¬ (false = true) by decide)] at H
        obtain rfl := Option.some.inj H
        have p167 : 0 ≤ (0 : Int) := (by omega)
        have q167 : 0 < (l0.length : Int) := of_decide_eq_true (by first | (with_reducible assumption) | assumption)
        obtain ⟨ad167, A167_7, c167_7, e167, hx167_0, hx167_1, hx167_2, hx167_3, hx167_4, hx167_5, hx167_6, hx167_7, hl167_7, hi167_7⟩ := at_T32 HR0.out 0 p167 q167
        cases e167
        have qi167 : (0 < l0.length) = True := eq_true (by omega)
        (try rw [sZ] at hx167_0)
        (try rw [sZ] at hx167_1)
        (try rw [sZ] at hx167_2)
        (try rw [sZ] at hx167_3)
        (try rw [sZ] at hx167_4)
        (try rw [sZ] at hx167_5)
        (try rw [sZ] at hx167_6)
        (try rw [sZ] at hx167_7)
        replace hx167_0 := sX HB hx167_0
        replace hx167_1 := sX HB hx167_1
        replace hx167_2 := sX HB hx167_2
        replace hx167_3 := sX HB hx167_3
        replace hx167_4 := sX HB hx167_4
        replace hx167_5 := sX HB hx167_5
        replace hx167_6 := sX HB hx167_6
        replace hx167_7 := sX HB hx167_7
        have HR167_7 := Aside0.mk hi167_7
        have HC167_7 := Aside0.mk hl167_7
        clear hi167_7 hl167_7
        replace p167 := eq_true p167
        replace q167 := eq_true q167
        have p168 : 0 ≤ (0 : Int) := (by omega)
        have q168 : 0 < (l0.length : Int) := of_decide_eq_true (by first | (with_reducible assumption) | assumption)
        obtain ⟨ad168, A168_7, c168_7, e168, hx168_0, hx168_1, hx168_2, hx168_3, hx168_4, hx168_5, hx168_6, hx168_7, hl168_7, hi168_7⟩ := at_T32 HR0.out 0 p168 q168
        obtain rfl : ad167 = ad168 := (by injection e168)
        have qi168 : (0 < l0.length) = True := eq_true (by omega)
        (try rw [sZ] at hx168_0)
        (try rw [sZ] at hx168_1)
        (try rw [sZ] at hx168_2)
        (try rw [sZ] at hx168_3)
        (try rw [sZ] at hx168_4)
        (try rw [sZ] at hx168_5)
        (try rw [sZ] at hx168_6)
        (try rw [sZ] at hx168_7)
        replace hx168_0 := sX HB hx168_0
        replace hx168_1 := sX HB hx168_1
        replace hx168_2 := sX HB hx168_2
        replace hx168_3 := sX HB hx168_3
        replace hx168_4 := sX HB hx168_4
        replace hx168_5 := sX HB hx168_5
        replace hx168_6 := sX HB hx168_6
        replace hx168_7 := sX HB hx168_7
        have HR168_7 := Aside0.mk hi168_7
        have HC168_7 := Aside0.mk hl168_7
        clear hi168_7 hl168_7
        replace p168 := eq_true p168
        replace q168 := eq_true q168
        have ea_ := Option.some.inj (hx167_7.symm.trans hx168_7)
        injection ea_ with ea_ en_ ec_
        subst ea_
        subst ec_
        clear en_
        have p169 : 0 ≤ (0 : Int) := (by omega)
        have q169 : 0 < (l0.length : Int) := of_decide_eq_true (by first | (with_reducible assumption) | assumption)
        obtain ⟨ad169, A169_7, c169_7, e169, hx169_0, hx169_1, hx169_2, hx169_3, hx169_4, hx169_5, hx169_6, hx169_7, hl169_7, hi169_7⟩ := at_T32 HR0.out 0 p169 q169
        obtain rfl : ad167 = ad169 := (by injection e169)
        have qi169 : (0 < l0.length) = True := eq_true (by omega)
        (try rw [sZ] at hx169_0)
        (try rw [sZ] at hx169_1)
        (try rw [sZ] at hx169_2)
        (try rw [sZ] at hx169_3)
        (try rw [sZ] at hx169_4)
        (try rw [sZ] at hx169_5)
        (try rw [sZ] at hx169_6)
        (try rw [sZ] at hx169_7)
        replace hx169_0 := sX HB hx169_0
        replace hx169_1 := sX HB hx169_1
        replace hx169_2 := sX HB hx169_2
        replace hx169_3 := sX HB hx169_3
        replace hx169_4 := sX HB hx169_4
        replace hx169_5 := sX HB hx169_5
        replace hx169_6 := sX HB hx169_6
        replace hx169_7 := sX HB hx169_7
        have HR169_7 := Aside0.mk hi169_7
        have HC169_7 := Aside0.mk hl169_7
        clear hi169_7 hl169_7
        replace p169 := eq_true p169
        replace q169 := eq_true q169
        have ea_ := Option.some.inj (hx167_7.symm.trans hx169_7)
        injection ea_ with ea_ en_ ec_
        subst ea_
        subst ec_
        clear en_
        have p170 : 0 ≤ (0 : Int) := (by omega)
        have q170 : 0 < (l0.length : Int) := of_decide_eq_true (by first | (with_reducible assumption) | assumption)
        obtain ⟨ad170, A170_7, c170_7, e170, hx170_0, hx170_1, hx170_2, hx170_3, hx170_4, hx170_5, hx170_6, hx170_7, hl170_7, hi170_7⟩ := at_T32 HR0.out 0 p170 q170
        obtain rfl : ad167 = ad170 := (by injection e170)
        have qi170 : (0 < l0.length) = True := eq_true (by omega)
        (try rw [sZ] at hx170_0)
        (try rw [sZ] at hx170_1)
        (try rw [sZ] at hx170_2)
        (try rw [sZ] at hx170_3)
        (try rw [sZ] at hx170_4)
        (try rw [sZ] at hx170_5)
        (try rw [sZ] at hx170_6)
        (try rw [sZ] at hx170_7)
        replace hx170_0 := sX HB hx170_0
        replace hx170_1 := sX HB hx170_1
        replace hx170_2 := sX HB hx170_2
        replace hx170_3 := sX HB hx170_3
        replace hx170_4 := sX HB hx170_4
        replace hx170_5 := sX HB hx170_5
        replace hx170_6 := sX HB hx170_6
        replace hx170_7 := sX HB hx170_7
        have HR170_7 := Aside0.mk hi170_7
        have HC170_7 := Aside0.mk hl170_7
        clear hi170_7 hl170_7
        replace p170 := eq_true p170
        replace q170 := eq_true q170
        have ea_ := Option.some.inj (hx167_7.symm.trans hx170_7)
        injection ea_ with ea_ en_ ec_
        subst ea_
        subst ec_
        clear en_
        go_wp2_with (first | (go_at_call 115; (with_reducible refine (spec_ValidValue.calls kj9 ((rd_T32 l0 0).f3.f0) ((rd_T32 l0 0).f3.f1) ((rd_T32 l0 0).f3.f2) ((rd_T32 l0 0).f3.f3) false _ A20.out).mono ?_); rintro e w29 ⟨rfl, hb⟩; have n0_ := sB HB hb; clear HB; have HB := n0_; clear n0_; (try clear hb); (try clear hb2); (try clear hk); (try clear hi)))
        go_ret
        exact ⟨sq, sb⟩
       rw [if_neg c19] at H
       have c19b0 : (((rd_T32 l0 0).f2).toList == ([] : List UInt8)) = false := beq_eq_false_iff_ne.mpr c19
       have c19b1 : (((rd_T32 l0 0).f2).toList != ([] : List UInt8)) = true := bne_iff_ne.mpr c19
       have c19b2 : ((rd_T32 l0 0).f2).toList.isEmpty = false := by simpa using c19
       obtain rfl := Option.some.inj H
       have p167 : 0 ≤ (0 : Int) := (by omega)
       have q167 : 0 < (l0.length : Int) := of_decide_eq_true (by first | (with_reducible assumption) | assumption)
       obtain ⟨ad167, A167_7, c167_7, e167, hx167_0, hx167_1, hx167_2, hx167_3, hx167_4, hx167_5, hx167_6, hx167_7, hl167_7, hi167_7⟩ := at_T32 HR0.out 0 p167 q167
       cases e167
       have qi167 : (0 < l0.length) = True := eq_true (by omega)
       (try rw [sZ] at hx167_0)
       (try rw [sZ] at hx167_1)
       (try rw [sZ] at hx167_2)
       (try rw [sZ] at hx167_3)
       (try rw [sZ] at hx167_4)
       (try rw [sZ] at hx167_5)
       (try rw [sZ] at hx167_6)
       (try rw [sZ] at hx167_7)
       replace hx167_0 := sX HB hx167_0
       replace hx167_1 := sX HB hx167_1
       replace hx167_2 := sX HB hx167_2
       replace hx167_3 := sX HB hx167_3
       replace hx167_4 := sX HB hx167_4
       replace hx167_5 := sX HB hx167_5
       replace hx167_6 := sX HB hx167_6
       replace hx167_7 := sX HB hx167_7
       have HR167_7 := Aside0.mk hi167_7
       have HC167_7 := Aside0.mk hl167_7
       clear hi167_7 hl167_7
       replace p167 := eq_true p167
       replace q167 := eq_true q167
       have p168 : 0 ≤ (0 : Int) := (by omega)
       have q168 : 0 < (l0.length : Int) := of_decide_eq_true (by first | (with_reducible assumption) | assumption)
       obtain ⟨ad168, A168_7, c168_7, e168, hx168_0, hx168_1, hx168_2, hx168_3, hx168_4, hx168_5, hx168_6, hx168_7, hl168_7, hi168_7⟩ := at_T32 HR0.out 0 p168 q168
       obtain rfl : ad167 = ad168 := (by injection e168)
       have qi168 : (0 < l0.length) = True := eq_true (by omega)
       (try rw [sZ] at hx168_0)
       (try rw [sZ] at hx168_1)
       (try rw [sZ] at hx168_2)
       (try rw [sZ] at hx168_3)
       (try rw [sZ] at hx168_4)
       (try rw [sZ] at hx168_5)
       (try rw [sZ] at hx168_6)
       (try rw [sZ] at hx168_7)
       replace hx168_0 := sX HB hx168_0
       replace hx168_1 := sX HB hx168_1
       replace hx168_2 := sX HB hx168_2
       replace hx168_3 := sX HB hx168_3
       replace hx168_4 := sX HB hx168_4
       replace hx168_5 := sX HB hx168_5
       replace hx168_6 := sX HB hx168_6
       replace hx168_7 := sX HB hx168_7
       have HR168_7 := Aside0.mk hi168_7
       have HC168_7 := Aside0.mk hl168_7
       clear hi168_7 hl168_7
       replace p168 := eq_true p168
       replace q168 := eq_true q168
       have ea_ := Option.some.inj (hx167_7.symm.trans hx168_7)
       injection ea_ with ea_ en_ ec_
       subst ea_
       subst ec_
       clear en_
       have p169 : 0 ≤ (0 : Int) := (by omega)
       have q169 : 0 < (l0.length : Int) := of_decide_eq_true (by first | (with_reducible assumption) | assumption)
       obtain ⟨ad169, A169_7, c169_7, e169, hx169_0, hx169_1, hx169_2, hx169_3, hx169_4, hx169_5, hx169_6, hx169_7, hl169_7, hi169_7⟩ := at_T32 HR0.out 0 p169 q169
       obtain rfl : ad167 = ad169 := (by injection e169)
       have qi169 : (0 < l0.length) = True := eq_true (by omega)
       (try rw [sZ] at hx169_0)
       (try rw [sZ] at hx169_1)
       (try rw [sZ] at hx169_2)
       (try rw [sZ] at hx169_3)
       (try rw [sZ] at hx169_4)
       (try rw [sZ] at hx169_5)
       (try rw [sZ] at hx169_6)
       (try rw [sZ] at hx169_7)
       replace hx169_0 := sX HB hx169_0
       replace hx169_1 := sX HB hx169_1
       replace hx169_2 := sX HB hx169_2
       replace hx169_3 := sX HB hx169_3
       replace hx169_4 := sX HB hx169_4
       replace hx169_5 := sX HB hx169_5
       replace hx169_6 := sX HB hx169_6
       replace hx169_7 := sX HB hx169_7
       have HR169_7 := Aside0.mk hi169_7
       have HC169_7 := Aside0.mk hl169_7
       clear hi169_7 hl169_7
       replace p169 := eq_true p169
       replace q169 := eq_true q169
       have ea_ := Option.some.inj (hx167_7.symm.trans hx169_7)
       injection ea_ with ea_ en_ ec_
       subst ea_
       subst ec_
       clear en_
       go_wp2
       go_ret
       exact ⟨sq, sb⟩
      rw [if_neg c18] at H
      have c18b0 : (((rd_T32 l0 0).f0) == 1) = false := beq_eq_false_iff_ne.mpr c18
      have c18b1 : (((rd_T32 l0 0).f0) != 1) = true := bne_iff_ne.mpr c18
      have HC30 := Aside0.mk H
      clear H
      have p167 : 0 ≤ (0 : Int) := (by omega)
      have q167 : 0 < (l0.length : Int) := of_decide_eq_true (by first | (with_reducible assumption) | assumption)
      obtain ⟨ad167, A167_7, c167_7, e167, hx167_0, hx167_1, hx167_2, hx167_3, hx167_4, hx167_5, hx167_6, hx167_7, hl167_7, hi167_7⟩ := at_T32 HR0.out 0 p167 q167
      cases e167
      have qi167 : (0 < l0.length) = True := eq_true (by omega)
      (try rw [sZ] at hx167_0)
      (try rw [sZ] at hx167_1)
      (try rw [sZ] at hx167_2)
      (try rw [sZ] at hx167_3)
      (try rw [sZ] at hx167_4)
      (try rw [sZ] at hx167_5)
      (try rw [sZ] at hx167_6)
      (try rw [sZ] at hx167_7)
      replace hx167_0 := sX HB hx167_0
      replace hx167_1 := sX HB hx167_1
      replace hx167_2 := sX HB hx167_2
      replace hx167_3 := sX HB hx167_3
      replace hx167_4 := sX HB hx167_4
      replace hx167_5 := sX HB hx167_5
      replace hx167_6 := sX HB hx167_6
      replace hx167_7 := sX HB hx167_7
      have HR167_7 := Aside0.mk hi167_7
      have HC167_7 := Aside0.mk hl167_7
      clear hi167_7 hl167_7
      replace p167 := eq_true p167
      replace q167 := eq_true q167
      go_upto_if 88 with (fail)
      go_cut [88] (fun v88 wc => ∃ (kq : Nat) (x88_29 : Bool), v88 = .bool x88_29 ∧ Aside0 (spec_l22Shape.j2 kq l0 ((rd_T32 l0 0).f0) x88_29 = some r) ∧ Aside0 (kq ≤ kj9) ∧ Aside0 (Below w.heap.size w wc))
      case first =>
       have H := HC30.out
       clear HC30
       by_cases c31 : ((rd_T32 l0 0).f0) = 2
       ·rw [if_pos c31] at H
        have c31b0 : (((rd_T32 l0 0).f0) == 2) = true := beq_iff_eq.mpr c31
        have c31b1 : (((rd_T32 l0 0).f0) != 2) = false := bne_eq_false_iff_eq.mpr c31
        clear c31
        (first | rw [c31b0] | (simp only [i64_w, i32_w]; rw [c31b0]) | rw [c31b2] | skip)
        have H' := Aside0.mk H
        clear H
        go_wp2
        go_meet
        case rel => exact ⟨_, ((((rd_T32 l0 0).f0) == 2)), sr, H', ⟨by have := HJ1.out; have := HJ9.out; first | omega | exact Nat.le_refl _⟩, ⟨sb⟩⟩
       rw [if_neg c31] at H
       have c31b0 : (((rd_T32 l0 0).f0) == 2) = false := beq_eq_false_iff_ne.mpr c31
       have c31b1 : (((rd_T32 l0 0).f0) != 2) = true := bne_iff_ne.mpr c31
       (first | rw [c31b0] | (simp only [i64_w, i32_w]; rw [c31b0]) | rw [c31b2] | skip)
       by_cases c32 : ((rd_T32 l0 0).f0) = 16
       ·rw [if_pos c32] at H
        have c32b0 : (((rd_T32 l0 0).f0) == 16) = true := beq_iff_eq.mpr c32
        have c32b1 : (((rd_T32 l0 0).f0) != 16) = false := bne_eq_false_iff_eq.mpr c32
        clear c32
        have H' := Aside0.mk H
        clear H
        go_wp2
        go_meet
        case rel => exact ⟨_, ((((rd_T32 l0 0).f0) == 16)), sr, H', ⟨by have := HJ1.out; have := HJ9.out; first | omega | exact Nat.le_refl _⟩, ⟨sb⟩⟩
       rw [if_neg c32] at H
       have c32b0 : (((rd_T32 l0 0).f0) == 16) = false := beq_eq_false_iff_ne.mpr c32
       have c32b1 : (((rd_T32 l0 0).f0) != 16) = true := bne_iff_ne.mpr c32
       have H' := Aside0.mk H
       clear H
       go_wp2
       go_meet
       case rel => exact ⟨_, ((((rd_T32 l0 0).f0) == 17)), sr, H', ⟨by have := HJ1.out; have := HJ9.out; first | omega | exact Nat.le_refl _⟩, ⟨sb⟩⟩
      case rest =>
       clear HC30
       try clear c1
       try clear p1
       try clear q1
       try clear hx1
       try clear qi1
       try clear c2
       try clear p2
       try clear c3
       try clear c16
       try clear p16
       try clear q16
       try clear hx16
       try clear qi16
       try clear c17
       try clear p17
       try clear q17
       try clear hx17
       try clear qi17
       try clear c18
       try clear c18b0
       try clear c18b1
       try clear c19
       try clear c19b0
       try clear c19b1
       try clear c19b2
       try clear c21
       try clear c31
       try clear c31b0
       try clear c31b1
       try clear c31b2
       try clear c32
       try clear c32b0
       try clear c32b1
       try clear hx167_0
       try clear hx167_1
       try clear hx167_2
       try clear hx167_3
       try clear hx167_4
       try clear hx167_5
       try clear hx167_6
       try clear hx167_7
       try clear hx168_0
       try clear hx168_1
       try clear hx168_2
       try clear hx168_3
       try clear hx168_4
       try clear hx168_5
       try clear hx168_6
       try clear hx168_7
       try clear hx169_0
       try clear hx169_1
       try clear hx169_2
       try clear hx169_3
       try clear hx169_4
       try clear hx169_5
       try clear hx169_6
       try clear hx169_7
       try clear hx170_0
       try clear hx170_1
       try clear hx170_2
       try clear hx170_3
       try clear hx170_4
       try clear hx170_5
       try clear hx170_6
       try clear hx170_7
       try clear hx172_0
       try clear hx172_1
       try clear hx172_2
       try clear hx172_3
       try clear hx172_4
       try clear hx172_5
       try clear hx172_6
       try clear hx172_7
       try clear p167
       try clear p168
       try clear p169
       try clear p170
       try clear p172
       try clear q167
       try clear q168
       try clear q169
       try clear q170
       try clear q172
       obtain ⟨kq, x88_29, rfl, HA, HJ29, HB⟩ := hcut
       cases kq with
       | zero => exact absurd HA.out (by simp [spec_l22Shape.j2])
       | succ kj29 =>
        have H := HA.out
        clear HA
        simp only [spec_l22Shape.j2] at H
        by_cases c33 : x88_29 = true
        ·subst c33
         rewrite [if_pos rfl] at H
         by_cases c34 : 0 < (l0.length : Int)
         ·rw [if_pos c34] at H
          have c34b0 := decide_eq_true c34
          have c34b1 : decide (0 < l0.length) = true := decide_eq_true (by omega)
          clear c34
          obtain ⟨t175, A35, H⟩ := sO H
          obtain rfl := Option.some.inj H
          have p174 : 0 ≤ (0 : Int) := (by omega)
          have q174 : 0 < (l0.length : Int) := of_decide_eq_true (by first | (with_reducible assumption) | assumption)
          obtain ⟨ad174, A174_7, c174_7, e174, hx174_0, hx174_1, hx174_2, hx174_3, hx174_4, hx174_5, hx174_6, hx174_7, hl174_7, hi174_7⟩ := at_T32 HR0.out 0 p174 q174
          obtain rfl : ad167 = ad174 := (by injection e174)
          have qi174 : (0 < l0.length) = True := eq_true (by omega)
          (try rw [sZ] at hx174_0)
          (try rw [sZ] at hx174_1)
          (try rw [sZ] at hx174_2)
          (try rw [sZ] at hx174_3)
          (try rw [sZ] at hx174_4)
          (try rw [sZ] at hx174_5)
          (try rw [sZ] at hx174_6)
          (try rw [sZ] at hx174_7)
          replace hx174_0 := sX HB hx174_0
          replace hx174_1 := sX HB hx174_1
          replace hx174_2 := sX HB hx174_2
          replace hx174_3 := sX HB hx174_3
          replace hx174_4 := sX HB hx174_4
          replace hx174_5 := sX HB hx174_5
          replace hx174_6 := sX HB hx174_6
          replace hx174_7 := sX HB hx174_7
          have HR174_7 := Aside0.mk hi174_7
          have HC174_7 := Aside0.mk hl174_7
          clear hi174_7 hl174_7
          replace p174 := eq_true p174
          replace q174 := eq_true q174
          go_wp2_with (first | ((with_reducible refine gate_callee (f := 53) rfl ?_); refine sC (some 96) Try.func53 #[.string ((rd_T32 l0 0).f2)] (spec_IsName.calls kj29 ((rd_T32 l0 0).f2) t175 _ A35.out) ?_; rintro e w' ⟨rfl, ⟨nd, rfl⟩⟩; refine ⟨_, rfl, ?_⟩))
          go_ret
          exact ⟨sq, sb⟩
         rw [if_neg c34] at H
         exact absurd H (by simp)
        replace c33 := Bool.eq_false_iff.mpr c33
        subst c33
        rewrite [if_neg (show ¬ (false = true) by decide)] at H
        by_cases c36 : ((rd_T32 l0 0).f0) = 11
        ·rw [if_pos c36] at H
         have c36b0 : (((rd_T32 l0 0).f0) == 11) = true := beq_iff_eq.mpr c36
         have c36b1 : (((rd_T32 l0 0).f0) != 11) = false := bne_eq_false_iff_eq.mpr c36
         clear c36
         obtain ⟨t176, A37, H⟩ := sO H
         by_cases c38 : 0 < (l0.length : Int)
         ·rw [if_pos c38] at H
          have c38b0 := decide_eq_true c38
          have c38b1 : decide (0 < l0.length) = true := decide_eq_true (by omega)
          clear c38
          obtain ⟨t180, A39, H⟩ := sO H
          obtain rfl := Option.some.inj H
          try go_wp2
          have n0_ := Aside0.mk (below_drew1 HB.out)
          clear HB
          have HB := n0_
          clear n0_
          have p179 : 0 ≤ (0 : Int) := (by omega)
          have q179 : 0 < (l0.length : Int) := of_decide_eq_true (by first | (with_reducible assumption) | assumption)
          obtain ⟨ad179, A179_7, c179_7, e179, hx179_0, hx179_1, hx179_2, hx179_3, hx179_4, hx179_5, hx179_6, hx179_7, hl179_7, hi179_7⟩ := at_T32 HR0.out 0 p179 q179
          have hw179_7 := hx179_7
          (try rw [sZ] at hw179_7)
          have hw179_6 := hx179_6
          (try rw [sZ] at hw179_6)
          have hw179_5 := hx179_5
          (try rw [sZ] at hw179_5)
          have hw179_4 := hx179_4
          (try rw [sZ] at hw179_4)
          have hw179_3 := hx179_3
          (try rw [sZ] at hw179_3)
          have hw179_2 := hx179_2
          (try rw [sZ] at hw179_2)
          have hw179_1 := hx179_1
          (try rw [sZ] at hw179_1)
          have hw179_0 := hx179_0
          (try rw [sZ] at hw179_0)
          obtain rfl : ad167 = ad179 := (by injection e179)
          have qi179 : (0 < l0.length) = True := eq_true (by omega)
          (try rw [sZ] at hx179_0)
          (try rw [sZ] at hx179_1)
          (try rw [sZ] at hx179_2)
          (try rw [sZ] at hx179_3)
          (try rw [sZ] at hx179_4)
          (try rw [sZ] at hx179_5)
          (try rw [sZ] at hx179_6)
          (try rw [sZ] at hx179_7)
          replace hx179_0 := sX HB hx179_0
          replace hx179_1 := sX HB hx179_1
          replace hx179_2 := sX HB hx179_2
          replace hx179_3 := sX HB hx179_3
          replace hx179_4 := sX HB hx179_4
          replace hx179_5 := sX HB hx179_5
          replace hx179_6 := sX HB hx179_6
          replace hx179_7 := sX HB hx179_7
          have HR179_7 := Aside0.mk hi179_7
          have HC179_7 := Aside0.mk hl179_7
          clear hi179_7 hl179_7
          replace p179 := eq_true p179
          replace q179 := eq_true q179
          refine start_ (n := 8) (S := fun w' => w'.cell? ad167 = some (.int .i64 ((rd_T32 l0 0).f0)) ∧ w'.cell? ⟨ad167.block, ad167.off + 1, none⟩ = some (.int .i64 ((rd_T32 l0 0).f1)) ∧ w'.cell? ⟨ad167.block, ad167.off + 2, none⟩ = some (.string ((rd_T32 l0 0).f2)) ∧ w'.cell? ⟨ad167.block, ad167.off + 3, none⟩ = some (.int .i64 ((rd_T32 l0 0).f3.f0)) ∧ w'.cell? ⟨ad167.block, ad167.off + 4, none⟩ = some (.int .i64 ((rd_T32 l0 0).f3.f1)) ∧ w'.cell? ⟨ad167.block, ad167.off + 5, none⟩ = some (.string ((rd_T32 l0 0).f3.f2)) ∧ w'.cell? ⟨ad167.block, ad167.off + 6, none⟩ = some (.int .i64 ((rd_T32 l0 0).f3.f3)) ∧ w'.cell? ⟨ad167.block, ad167.off + 7, none⟩ = some (.slice A179_7 ((rd_T32 l0 0).f4).length c179_7)) (ds := []) #[false, false, false, false, false, false, false, false] (by kernel_rfl) rfl rfl ⟨((HB.out.cell (World.block_lt_of_cell? w _ hw179_0)).trans hw179_0), ((HB.out.cell (World.block_lt_of_cell? w _ hw179_1)).trans hw179_1), ((HB.out.cell (World.block_lt_of_cell? w _ hw179_2)).trans hw179_2), ((HB.out.cell (World.block_lt_of_cell? w _ hw179_3)).trans hw179_3), ((HB.out.cell (World.block_lt_of_cell? w _ hw179_4)).trans hw179_4), ((HB.out.cell (World.block_lt_of_cell? w _ hw179_5)).trans hw179_5), ((HB.out.cell (World.block_lt_of_cell? w _ hw179_6)).trans hw179_6), ((HB.out.cell (World.block_lt_of_cell? w _ hw179_7)).trans hw179_7)⟩ (fun hHeld => ?_); refine with_tabW spec_l22Shape.tab14 spec_l22Shape.bits14 (fun HT_ HW_ => ?_)
          generalize wc.drew = w40 at HB HR179_7 hx179_0 hx179_1 hx179_2 hx179_3 hx179_4 hx179_5 hx179_6 hx179_7 hHeld ⊢
          refine pure_ (i := 1) (N := some 100) (v := ?_) (a' := ?_) (bN 8 2) rfl rfl (any_of HT_.out (by kernel_rfl)) (fun _ _ _ h => h) (Or.inl ⟨by rfl, ?_⟩) ?_ ?_
          rotate_left
          ·intro w'
           go_simp
           with_reducible rfl
          rotate_left
          ·simp only [Act.put, List.setIfInBounds_toArray, List.set_cons_zero, List.set_cons_succ, i64_w, i32_w]
           rfl
          refine pure_ (i := 2) (N := some 101) (v := ?_) (a' := ?_) (bN 8 6) rfl rfl (any_of HT_.out (by kernel_rfl)) (fun _ _ _ h => h) (Or.inl ⟨by rfl, ?_⟩) ?_ ?_
          rotate_left
          ·intro w'
           go_simp
           with_reducible rfl
          rotate_left
          ·simp only [Act.put, List.setIfInBounds_toArray, List.set_cons_zero, List.set_cons_succ, i64_w, i32_w]
           rfl
          refine pure_ (i := 3) (N := some 102) (v := ?_) (a' := ?_) (bN 8 14) rfl rfl (any_of HT_.out (by kernel_rfl)) (fun _ _ _ h => h) (Or.inl ⟨by rfl, ?_⟩) ?_ ?_
          rotate_left
          ·intro w'
           go_simp
           with_reducible rfl
          rotate_left
          ·simp only [Act.put, List.setIfInBounds_toArray, List.set_cons_zero, List.set_cons_succ, i64_w, i32_w]
           rfl
          refine take_ (i := 4) (N := some 103) (v := ?_) (a' := ?_) (bN 8 30) rfl rfl (take_ofW HT_.out HW_.out (by kernel_rfl)) (fun _ _ _ h => h) (Or.inl ⟨by rfl, ?_⟩) hHeld ?_ ?_
          rotate_left
          ·rintro w' ⟨s0, s1, s2, s3, s4, s5, s6, s7⟩
           go_simp
           with_reducible rfl
          rotate_left
          ·simp only [Act.put, List.setIfInBounds_toArray, List.set_cons_zero, List.set_cons_succ, i64_w, i32_w]
           rfl
          refine one_ (i := 0) (N := some 99) (bN 8 31) rfl rfl (one_of HT_.out (by kernel_rfl)) (by decide) (fun K hK => ?_)
          refine goes_ Try.func118 (by kernel_rfl) rfl #[] (by rfl) rfl rfl (by (try simp only [List.map_toArray, List.map_cons, List.map_nil]); first | done | rfl | (simp only [List.length_drop, List.length_take]; rfl)) ?_
          with_reducible refine (spec_l22Operators.calls  t176 _ A37.out).mono ?_
          rintro e w41 ⟨v177, rfl, ho0, hb⟩
          refine ⟨_, rfl, ?_⟩
          have n0_ := Aside0.mk (Kd.R_lower ho0 (below_size (sH HB.out)))
          have n1_ := sB HB hb
          clear HB
          have HO178 := n0_
          have HB := n1_
          clear n0_ n1_
          (try clear hb)
          (try clear hb2)
          (try clear hk)
          (try clear hi)
          (try clear ho0)
          obtain ⟨Ao42, co42, eo42⟩ := Kd.R_slice HO178.out
          (first | subst eo42 | (injection eo42 with f1_ f2_ f3_; have f4_ := f1_.symm; have f5_ := f3_.symm; clear f1_ f2_ f3_; subst f4_; subst f5_))
          refine hK.out _ _ ⟨((HB.out.cell (World.block_lt_of_cell? w _ hw179_0)).trans hw179_0), ((HB.out.cell (World.block_lt_of_cell? w _ hw179_1)).trans hw179_1), ((HB.out.cell (World.block_lt_of_cell? w _ hw179_2)).trans hw179_2), ((HB.out.cell (World.block_lt_of_cell? w _ hw179_3)).trans hw179_3), ((HB.out.cell (World.block_lt_of_cell? w _ hw179_4)).trans hw179_4), ((HB.out.cell (World.block_lt_of_cell? w _ hw179_5)).trans hw179_5), ((HB.out.cell (World.block_lt_of_cell? w _ hw179_6)).trans hw179_6), ((HB.out.cell (World.block_lt_of_cell? w _ hw179_7)).trans hw179_7)⟩ (fun hHeld => ?_)
          clear hK K
          refine norm_ (a' := ?_) ?_ ?_
          rotate_left
          ·show Act.put _ (some 99) _ = _
           simp only [Act.put, List.setIfInBounds_toArray, List.set_cons_zero, List.set_cons_succ, i64_w, i32_w]
           rfl
          refine one_ (i := 5) (N := some 104) (bN 8 63) rfl rfl (one_of HT_.out (by kernel_rfl)) (by decide) (fun K hK => ?_)
          refine goes_ Try.func117 (by kernel_rfl) rfl #[.slice Ao42 t176.length co42, .string ((rd_T32 l0 0).f2)] (by rfl) rfl rfl (by (try simp only [List.map_toArray, List.map_cons, List.map_nil]); first | done | rfl | (simp only [List.length_drop, List.length_take]; rfl)) ?_
          with_reducible refine (spec_l22Among.calls kj29 _ _ t176 ((rd_T32 l0 0).f2) t180 _ ?side1 ?side2 A39.out).mono ?_
          (case side1 => exact sD ((Kd.R_reads' HO178.out).2.2))
          (case side2 => exact (Kd.R_reads' HO178.out).2.1)
          rintro e w' ⟨rfl, ⟨nd, rfl⟩⟩
          refine ⟨_, rfl, ?_⟩
          refine hK.out _ _ ⟨((HB.out.cell (World.block_lt_of_cell? w _ hw179_0)).trans hw179_0), ((HB.out.cell (World.block_lt_of_cell? w _ hw179_1)).trans hw179_1), ((HB.out.cell (World.block_lt_of_cell? w _ hw179_2)).trans hw179_2), ((HB.out.cell (World.block_lt_of_cell? w _ hw179_3)).trans hw179_3), ((HB.out.cell (World.block_lt_of_cell? w _ hw179_4)).trans hw179_4), ((HB.out.cell (World.block_lt_of_cell? w _ hw179_5)).trans hw179_5), ((HB.out.cell (World.block_lt_of_cell? w _ hw179_6)).trans hw179_6), ((HB.out.cell (World.block_lt_of_cell? w _ hw179_7)).trans hw179_7)⟩ (fun hHeld => ?_)
          clear hK K
          refine norm_ (a' := ?_) ?_ ?_
          rotate_left
          ·show Act.put _ (some 104) _ = _
           simp only [Act.put, List.setIfInBounds_toArray, List.set_cons_zero, List.set_cons_succ, i64_w, i32_w]
           rfl
          refine pure_ (i := 6) (N := some 105) (v := ?_) (a' := ?_) (bN 8 127) rfl rfl (any_of HT_.out (by kernel_rfl)) (fun _ _ _ h => h) (Or.inl ⟨by rfl, ?_⟩) ?_ ?_
          rotate_left
          ·intro w'
           go_simp
           with_reducible rfl
          rotate_left
          ·simp only [Act.put, List.setIfInBounds_toArray, List.set_cons_zero, List.set_cons_succ, i64_w, i32_w]
           rfl
          refine pure_ (i := 7) (N := some 2) (v := ?_) (a' := ?_) (bN 8 255) rfl rfl (any_of HT_.out (by kernel_rfl)) (fun _ _ _ h => h) (Or.inl ⟨by rfl, ?_⟩) ?_ ?_
          rotate_left
          ·intro w'
           go_simp
           with_reducible rfl
          rotate_left
          ·simp only [Act.put, List.setIfInBounds_toArray, List.set_cons_zero, List.set_cons_succ, i64_w, i32_w]
           rfl
          refine done_ (done_of HT_.out (by kernel_rfl)) ?_
          try go_wp2
          go_ret
          exact ⟨sq, sb⟩
         rw [if_neg c38] at H
         exact absurd H (by simp)
        rw [if_neg c36] at H
        have c36b0 : (((rd_T32 l0 0).f0) == 11) = false := beq_eq_false_iff_ne.mpr c36
        have c36b1 : (((rd_T32 l0 0).f0) != 11) = true := bne_iff_ne.mpr c36
        by_cases c43 : ((rd_T32 l0 0).f0) = 6
        ·rw [if_pos c43] at H
         have c43b0 : (((rd_T32 l0 0).f0) == 6) = true := beq_iff_eq.mpr c43
         have c43b1 : (((rd_T32 l0 0).f0) != 6) = false := bne_eq_false_iff_eq.mpr c43
         clear c43
         by_cases c44 : 0 < (l0.length : Int)
         ·rw [if_pos c44] at H
          have c44b0 := decide_eq_true c44
          have c44b1 : decide (0 < l0.length) = true := decide_eq_true (by omega)
          clear c44
          by_cases c45 : ((rd_T32 l0 0).f2).toList = ([] : List UInt8)
          ·rw [if_pos c45] at H
           have c45b0 : (((rd_T32 l0 0).f2).toList == ([] : List UInt8)) = true := beq_iff_eq.mpr c45
           have c45b1 : (((rd_T32 l0 0).f2).toList != ([] : List UInt8)) = false := bne_eq_false_iff_eq.mpr c45
           have c45b2 : ((rd_T32 l0 0).f2).toList.isEmpty = true := by simpa using c45
           clear c45
           obtain ⟨t183, A46, H⟩ := sO H
           obtain rfl := Option.some.inj H
           have p181 : 0 ≤ (0 : Int) := (by omega)
           have q181 : 0 < (l0.length : Int) := of_decide_eq_true (by first | (with_reducible assumption) | assumption)
           obtain ⟨ad181, A181_7, c181_7, e181, hx181_0, hx181_1, hx181_2, hx181_3, hx181_4, hx181_5, hx181_6, hx181_7, hl181_7, hi181_7⟩ := at_T32 HR0.out 0 p181 q181
           obtain rfl : ad167 = ad181 := (by injection e181)
           have qi181 : (0 < l0.length) = True := eq_true (by omega)
           (try rw [sZ] at hx181_0)
           (try rw [sZ] at hx181_1)
           (try rw [sZ] at hx181_2)
           (try rw [sZ] at hx181_3)
           (try rw [sZ] at hx181_4)
           (try rw [sZ] at hx181_5)
           (try rw [sZ] at hx181_6)
           (try rw [sZ] at hx181_7)
           replace hx181_0 := sX HB hx181_0
           replace hx181_1 := sX HB hx181_1
           replace hx181_2 := sX HB hx181_2
           replace hx181_3 := sX HB hx181_3
           replace hx181_4 := sX HB hx181_4
           replace hx181_5 := sX HB hx181_5
           replace hx181_6 := sX HB hx181_6
           replace hx181_7 := sX HB hx181_7
           have HR181_7 := Aside0.mk hi181_7
           have HC181_7 := Aside0.mk hl181_7
           clear hi181_7 hl181_7
           replace p181 := eq_true p181
           replace q181 := eq_true q181
           have p182 : 0 ≤ (0 : Int) := (by omega)
           have q182 : 0 < (l0.length : Int) := of_decide_eq_true (by first | (with_reducible assumption) | assumption)
           obtain ⟨ad182, A182_7, c182_7, e182, hx182_0, hx182_1, hx182_2, hx182_3, hx182_4, hx182_5, hx182_6, hx182_7, hl182_7, hi182_7⟩ := at_T32 HR0.out 0 p182 q182
           obtain rfl : ad167 = ad182 := (by injection e182)
           have qi182 : (0 < l0.length) = True := eq_true (by omega)
           (try rw [sZ] at hx182_0)
           (try rw [sZ] at hx182_1)
           (try rw [sZ] at hx182_2)
           (try rw [sZ] at hx182_3)
           (try rw [sZ] at hx182_4)
           (try rw [sZ] at hx182_5)
           (try rw [sZ] at hx182_6)
           (try rw [sZ] at hx182_7)
           replace hx182_0 := sX HB hx182_0
           replace hx182_1 := sX HB hx182_1
           replace hx182_2 := sX HB hx182_2
           replace hx182_3 := sX HB hx182_3
           replace hx182_4 := sX HB hx182_4
           replace hx182_5 := sX HB hx182_5
           replace hx182_6 := sX HB hx182_6
           replace hx182_7 := sX HB hx182_7
           have HR182_7 := Aside0.mk hi182_7
           have HC182_7 := Aside0.mk hl182_7
           clear hi182_7 hl182_7
           replace p182 := eq_true p182
           replace q182 := eq_true q182
           have ea_ := Option.some.inj (hx181_7.symm.trans hx182_7)
           injection ea_ with ea_ en_ ec_
           subst ea_
           subst ec_
           clear en_
           go_wp2_with (first | (go_at_call 113; (with_reducible refine (spec_l00In.calls ((rd_T32 l0 0).f1) 0 60 t183 _ A46.out).mono ?_); rintro e w' ⟨rfl, ⟨nd, rfl⟩⟩))
           go_ret
           exact ⟨sq, sb⟩
          rw [if_neg c45] at H
          have c45b0 : (((rd_T32 l0 0).f2).toList == ([] : List UInt8)) = false := beq_eq_false_iff_ne.mpr c45
          have c45b1 : (((rd_T32 l0 0).f2).toList != ([] : List UInt8)) = true := bne_iff_ne.mpr c45
          have c45b2 : ((rd_T32 l0 0).f2).toList.isEmpty = false := by simpa using c45
          obtain rfl := Option.some.inj H
          have p181 : 0 ≤ (0 : Int) := (by omega)
          have q181 : 0 < (l0.length : Int) := of_decide_eq_true (by first | (with_reducible assumption) | assumption)
          obtain ⟨ad181, A181_7, c181_7, e181, hx181_0, hx181_1, hx181_2, hx181_3, hx181_4, hx181_5, hx181_6, hx181_7, hl181_7, hi181_7⟩ := at_T32 HR0.out 0 p181 q181
          obtain rfl : ad167 = ad181 := (by injection e181)
          have qi181 : (0 < l0.length) = True := eq_true (by omega)
          (try rw [sZ] at hx181_0)
          (try rw [sZ] at hx181_1)
          (try rw [sZ] at hx181_2)
          (try rw [sZ] at hx181_3)
          (try rw [sZ] at hx181_4)
          (try rw [sZ] at hx181_5)
          (try rw [sZ] at hx181_6)
          (try rw [sZ] at hx181_7)
          replace hx181_0 := sX HB hx181_0
          replace hx181_1 := sX HB hx181_1
          replace hx181_2 := sX HB hx181_2
          replace hx181_3 := sX HB hx181_3
          replace hx181_4 := sX HB hx181_4
          replace hx181_5 := sX HB hx181_5
          replace hx181_6 := sX HB hx181_6
          replace hx181_7 := sX HB hx181_7
          have HR181_7 := Aside0.mk hi181_7
          have HC181_7 := Aside0.mk hl181_7
          clear hi181_7 hl181_7
          replace p181 := eq_true p181
          replace q181 := eq_true q181
          go_wp2
          go_ret
          exact ⟨sq, sb⟩
         rw [if_neg c44] at H
         exact absurd H (by simp)
        rw [if_neg c43] at H
        have c43b0 : (((rd_T32 l0 0).f0) == 6) = false := beq_eq_false_iff_ne.mpr c43
        have c43b1 : (((rd_T32 l0 0).f0) != 6) = true := bne_iff_ne.mpr c43
        by_cases c47 : 0 < (l0.length : Int)
        ·rw [if_pos c47] at H
         have c47b0 := decide_eq_true c47
         have c47b1 : decide (0 < l0.length) = true := decide_eq_true (by omega)
         clear c47
         obtain rfl := Option.some.inj H
         have p184 : 0 ≤ (0 : Int) := (by omega)
         have q184 : 0 < (l0.length : Int) := of_decide_eq_true (by first | (with_reducible assumption) | assumption)
         obtain ⟨ad184, A184_7, c184_7, e184, hx184_0, hx184_1, hx184_2, hx184_3, hx184_4, hx184_5, hx184_6, hx184_7, hl184_7, hi184_7⟩ := at_T32 HR0.out 0 p184 q184
         obtain rfl : ad167 = ad184 := (by injection e184)
         have qi184 : (0 < l0.length) = True := eq_true (by omega)
         (try rw [sZ] at hx184_0)
         (try rw [sZ] at hx184_1)
         (try rw [sZ] at hx184_2)
         (try rw [sZ] at hx184_3)
         (try rw [sZ] at hx184_4)
         (try rw [sZ] at hx184_5)
         (try rw [sZ] at hx184_6)
         (try rw [sZ] at hx184_7)
         replace hx184_0 := sX HB hx184_0
         replace hx184_1 := sX HB hx184_1
         replace hx184_2 := sX HB hx184_2
         replace hx184_3 := sX HB hx184_3
         replace hx184_4 := sX HB hx184_4
         replace hx184_5 := sX HB hx184_5
         replace hx184_6 := sX HB hx184_6
         replace hx184_7 := sX HB hx184_7
         have HR184_7 := Aside0.mk hi184_7
         have HC184_7 := Aside0.mk hl184_7
         clear hi184_7 hl184_7
         replace p184 := eq_true p184
         replace q184 := eq_true q184
         go_wp2
         go_ret
         exact ⟨sq, sb⟩
        rw [if_neg c47] at H
        exact absurd H (by simp)
     rw [if_neg c17] at H
     exact absurd H (by simp)
end
end Go.Proofs.Ytfpkngdoijpafaa.PFnExactValidGen
