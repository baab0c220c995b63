/- Printed functions: spec_l24Expr. -/
import Derived.Test.YtmebimamjgnlpaaYCeP0
namespace Go.Proofs.Ytmebimamjgnlpaa.PFnExactCompileExpr
open Go.RowKit Go.Proofs.YtmebimamjgnlpaaG Go.Proofs.YtmebimamjgnlpaaW.PrintWords Go.Proofs.YtmebimamjgnlpaaW.PrintLast Go.Proofs.YtmebimamjgnlpaaW.PrintMore
attribute [local go_sem] max2_int min2_int max_two min_two max_three min_three max_four min_four   -- for this text's walks alone
set_option linter.unusedVariables false
set_option linter.unusedSimpArgs false
/-! ### spec_l24Expr: function 51 -/
mutual
def spec_l24Expr.j0 : Nat → List (S26) → List (S89) → Bool → Option ((List (S89)))
 | 0, _, _, _ => none
 | k + 1, x0, x3, x17 => if x17 = true then (if 0 < (x0.length : Int) then (if 0 < (((rd_T26 x0 0).f3).length : Int) then ((spec_l24Expr.f k [rd_T26 ((rd_T26 x0 0).f3) 0]).bind fun t170 => (if x3.length + t170.length < 4398046511104 then ((some (x3 ++ t170 : List (S89))).bind fun y173 => (if 1 < (((rd_T26 x0 0).f3).length : Int) then (if y173.length < 4398046511104 then (some (y173 ++ [(⟨11, wrap64 ((wrap64 (21 + ((rd_T26 x0 0).f0))) - 12), (rd_T26 ((rd_T26 x0 0).f3) 1).f2⟩ : S89)])) else (none)) else (none))) else (none))) else (none)) else (none)) else (spec_l24Expr.l0 k x0 x3 0)
def spec_l24Expr.l0 : Nat → List (S26) → List (S89) → Int → Option ((List (S89)))
 | 0, _, _, _ => none
 | k + 1, x0, x3, x4 => if 0 < (x0.length : Int) then (if x4 < (((rd_T26 x0 0).f3).length : Int) then (if 0 ≤ x4 then ((spec_l24Expr.f k [rd_T26 ((rd_T26 x0 0).f3) x4]).bind fun t185 => (if x3.length + t185.length < 4398046511104 then (spec_l24Expr.l0 k x0 (x3 ++ t185) (wrap64 (x4 + 1))) else (none))) else (none)) else (if ((rd_T26 x0 0).f0) = 1 then (if x3.length < 4398046511104 then (some (x3 ++ [(⟨2, 0, (rd_T26 x0 0).f2⟩ : S89)])) else (none)) else (if ((rd_T26 x0 0).f0) = 2 then (if x3.length < 4398046511104 then (some (x3 ++ [(⟨3, (rd_T26 x0 0).f1, (⟨#[]⟩ : ByteArray)⟩ : S89)])) else (none)) else (if ((rd_T26 x0 0).f0) = 3 then (if x3.length < 4398046511104 then (some (x3 ++ [(⟨4, 0, (rd_T26 x0 0).f2⟩ : S89)])) else (none)) else (if ((rd_T26 x0 0).f0) = 16 then (spec_l24Expr.j2 k x0 x3 ((rd_T26 x0 0).f0) (((rd_T26 x0 0).f0) == 16)) else (if ((rd_T26 x0 0).f0) = 17 then (spec_l24Expr.j2 k x0 x3 ((rd_T26 x0 0).f0) (((rd_T26 x0 0).f0) == 17)) else (spec_l24Expr.j2 k x0 x3 ((rd_T26 x0 0).f0) (((rd_T26 x0 0).f0) == 18)))))))) else (none)
def spec_l24Expr.j2 : Nat → List (S26) → List (S89) → Int → Bool → Option ((List (S89)))
 | 0, _, _, _, _ => none
 | k + 1, x0, x3, x64, x95 => if x95 = true then (if 0 < (x0.length : Int) then (if x3.length < 4398046511104 then (some (x3 ++ [(⟨wrap64 ((wrap64 (5 + ((rd_T26 x0 0).f0))) - 16), 0, (rd_T26 x0 0).f2⟩ : S89)])) else (none)) else (none)) else (if x64 = 14 then (spec_l24Expr.j3 k x0 x3 x64 (x64 == 14)) else (spec_l24Expr.j3 k x0 x3 x64 (x64 == 15)))
def spec_l24Expr.j3 : Nat → List (S26) → List (S89) → Int → Bool → Option ((List (S89)))
 | 0, _, _, _, _ => none
 | k + 1, x0, x3, x64, x113 => if x113 = true then (if 0 < (x0.length : Int) then (if x3.length < 4398046511104 then (some (x3 ++ [(⟨wrap64 ((wrap64 (9 + ((rd_T26 x0 0).f0))) - 14), 0, (⟨#[]⟩ : ByteArray)⟩ : S89)])) else (none)) else (none)) else (if x64 = 5 then (if x3.length < 4398046511104 then (some (x3 ++ [(⟨12, 0, (⟨#[]⟩ : ByteArray)⟩ : S89)])) else (none)) else (if x64 = 4 then (if 0 < (x0.length : Int) then (if x3.length < 4398046511104 then (some (x3 ++ [(⟨13, (((rd_T26 x0 0).f3).length : Int), (rd_T26 x0 0).f2⟩ : S89)])) else (none)) else (none)) else (if 0 < (x0.length : Int) then (if x3.length < 4398046511104 then (some (x3 ++ [(⟨8, (rd_T26 x0 0).f0, (⟨#[]⟩ : ByteArray)⟩ : S89)])) else (none)) else (none))))
def spec_l24Expr.f : Nat → List (S26) → Option ((List (S89)))
 | 0, _ => none
 | k + 1, l0 => (some (([] : List (S89)) : List (S89))).bind fun y163 => (if 0 < (l0.length : Int) then (if ((rd_T26 l0 0).f0) = 12 then (spec_l24Expr.j0 k l0 y163 true) else (spec_l24Expr.j0 k l0 y163 (((rd_T26 l0 0).f0) == 13))) else (none))
end
def spec_l24Expr.T4 : Bool × List (List Nat × List Nat) := (true, [([], []), ([], []), ([1], [1]), ([2], [2]), ([3], [3]), ([4], [4]), ([5], [5]), ([], []), ([7], [7]), ([8], [8]), ([9], [9]), ([10], [10]), ([11], [11]), ([12], [12]), ([6, 13], [6, 13]), ([14], [14]), ([0, 15], [0, 15]), ([16, 16, 0, 1, 2, 3, 4, 5, 6, 7, 8, 9, 10, 11, 12, 13, 14, 15, 16], [16])])
def spec_l24Expr.B4 : List Nat := [0, 0, 2, 6, 14, 30, 62, 0, 128, 384, 896, 1920, 3968, 8064, 16382, 32766, 65535, 131071]
theorem spec_l24Expr.tab4 : rtab .any (opsOf Try.f51 4) = spec_l24Expr.T4 := by kernel_rfl
theorem spec_l24Expr.bits4 : waitsOk spec_l24Expr.T4.2 spec_l24Expr.B4 = true := by kernel_rfl
def spec_l24Expr.T19 : Bool × List (List Nat × List Nat) := (true, [([], []), ([], []), ([1], [1]), ([2], [2]), ([3], [3]), ([4], [4]), ([5], [5]), ([], []), ([7], [7]), ([8], [8]), ([9], [9]), ([6, 10], [6, 10]), ([11], [11]), ([0, 12], [0, 12]), ([13, 13, 0, 1, 2, 3, 4, 5, 6, 7, 8, 9, 10, 11, 12, 13], [13])])
def spec_l24Expr.B19 : List Nat := [0, 0, 2, 6, 14, 30, 62, 0, 128, 384, 896, 2046, 4094, 8191, 16383]
theorem spec_l24Expr.tab19 : rtab .any (opsOf Try.f51 19) = spec_l24Expr.T19 := by kernel_rfl
theorem spec_l24Expr.bits19 : waitsOk spec_l24Expr.T19.2 spec_l24Expr.B19 = true := by kernel_rfl
def spec_l24Expr.T26 : Bool × List (List Nat × List Nat) := (true, [([], []), ([], []), ([1], [1]), ([2], [2]), ([3], [3]), ([4], [4]), ([], []), ([6], [6]), ([7], [7]), ([8], [8]), ([5, 9], [5, 9]), ([10], [10]), ([0, 11], [0, 11]), ([12, 12, 0, 1, 2, 3, 4, 5, 6, 7, 8, 9, 10, 11, 12], [12])])
def spec_l24Expr.B26 : List Nat := [0, 0, 2, 6, 14, 30, 0, 64, 192, 448, 1022, 2046, 4095, 8191]
theorem spec_l24Expr.tab26 : rtab .any (opsOf Try.f51 26) = spec_l24Expr.T26 := by kernel_rfl
theorem spec_l24Expr.bits26 : waitsOk spec_l24Expr.T26.2 spec_l24Expr.B26 = true := by kernel_rfl
set_option maxHeartbeats 8000000 in
set_option maxRecDepth 100000 in
theorem spec_l24Expr.calls (k : Nat) : ∀ (A0 : Option Addr) (l0 : List (S26)) (r : List (S89)) (w : World) (hr0 : Kd.C k26 w A0 l0.length l0) (h : spec_l24Expr.f k l0 = some r),
  Calls Try.prog 51 #[.pointer A0] w fun e w' => ∃ v0_ : Value, e = .returned (v0_) ∧ Kd.R k89 89 w' w.heap.size (fun _ => True) v0_ r ∧ Below w.heap.size w w' := by
 induction k using Nat.strongRecOn with
 | _ k ih =>
 intro A0 l0 r w hr0 h
 cases k with
 | zero => exact absurd h (by simp [spec_l24Expr.f])
 | succ k =>
 simp only [spec_l24Expr.f] at h
 have hu89 := Try.underlying89
 have HR0 := Aside0.mk hr0
 have HC0 := Aside0.mk (Nat.le_refl l0.length)
 clear hr0
 have HB := Aside0.mk (Below.refl w.heap.size w)
 have H : ((some (([] : List (S89)) : List (S89))).bind fun y163 => (if 0 < (l0.length : Int) then (if ((rd_T26 l0 0).f0) = 12 then (spec_l24Expr.j0 k l0 y163 true) else (spec_l24Expr.j0 k l0 y163 (((rd_T26 l0 0).f0) == 13))) else (none))) = some r := h
 clear h
 obtain ⟨y163, hy163⟩ : ∃ y_ : List (S89), y_ = (([] : List (S89))) := ⟨_, rfl⟩
 replace H : (if 0 < (l0.length : Int) then (if ((rd_T26 l0 0).f0) = 12 then (spec_l24Expr.j0 k l0 y163 true) else (spec_l24Expr.j0 k l0 y163 (((rd_T26 l0 0).f0) == 13))) else (none)) = some r := by first | (rw [hy163]; with_reducible exact H) | (have H2_ := (Option.bind_some _ _).symm.trans H; rw [hy163]; with_reducible exact H2_) | (have H2_ := (Option.bind_some _ _).symm.trans H; with_reducible exact H2_) | with_reducible exact H | (rw [hy163]; exact H) | exact H
 have Ny163 := Aside0.mk hy163
 clear hy163
 have HC2 := Aside0.mk H
 clear H
 go_enter Try.func51, Try.ntmps51
 go_upto_region 2 with (first | ((with_reducible refine gate_dst (N := 5) rfl ?_); refine Kd.R_lit k89 _ 89 ?hg (N := 5) ?hd (xs := ([] : List (S89))) (inner := []) (ok := fun _ => True) (okp := fun _ => True) ?hr ?hp (fun _ hk => hk) trivial (Below.refl _ _) (Nat.le_refl _) (by simp) ?_; (case hd => rfl); (case hg => rfl); (case hr => first | (go_simp; done) | (go_simp; rfl)); (case hp => exact (Reps.none _ _)); intro v164 w3 ho4 hb hg_ hnew_; clear hg_ hnew_; (first | rw [← Ny163.out] at ho4 | (simp only [Int.reduceToNat] at ho4; rw [← Ny163.out] at ho4)); have n0_ := Aside0.mk (Kd.R_lower ho4 (below_size (sH HB.out))); have n1_ := sB HB hb; clear HB; have HO165 := n0_; have HB := n1_; clear n0_ n1_; clear hb ho4))
 (try simp only [Act.put, List.setIfInBounds_toArray, List.set_cons_zero, List.set_cons_succ])
 go_cut [17] (fun v17 wc => ∃ (kq : Nat) (x17_1 : Bool), v17 = .bool x17_1 ∧ Aside0 (spec_l24Expr.j0 kq l0 y163 x17_1 = some r) ∧ Aside0 (kq ≤ k) ∧ Aside0 (Kd.R k89 89 wc w.heap.size (fun _ => True) v164 y163) ∧ Aside0 (Below w.heap.size w wc))
 case first =>
  have H := HC2.out
  clear HC2
  by_cases c5 : 0 < (l0.length : Int)
  ·rw [if_pos c5] at H
   have c5b0 := decide_eq_true c5
   have c5b1 : decide (0 < l0.length) = true := decide_eq_true (by omega)
   clear c5
   (first | rw [c5b0] | (simp only [i64_w, i32_w]; rw [c5b0]) | rw [c5b2] | skip)
   by_cases c6 : ((rd_T26 l0 0).f0) = 12
   ·rw [if_pos c6] at H
    have c6b0 : (((rd_T26 l0 0).f0) == 12) = true := beq_iff_eq.mpr c6
    have c6b1 : (((rd_T26 l0 0).f0) != 12) = false := bne_eq_false_iff_eq.mpr c6
    clear c6
    have H' := Aside0.mk H
    clear H
    have p166 : 0 ≤ (0 : Int) := (by omega)
    have q166 : 0 < (l0.length : Int) := of_decide_eq_true (by first | (with_reducible assumption) | assumption)
    obtain ⟨ad166, A166_3, c166_3, e166, hx166_0, hx166_1, hx166_2, hx166_3, hl166_3, hi166_3⟩ := at_T26 HR0.out 0 p166 q166
    cases e166
    have qi166 : (0 < l0.length) = True := eq_true (by omega)
    (try rw [sZ] at hx166_0)
    (try rw [sZ] at hx166_1)
    (try rw [sZ] at hx166_2)
    (try rw [sZ] at hx166_3)
    replace hx166_0 := sX HB hx166_0
    replace hx166_1 := sX HB hx166_1
    replace hx166_2 := sX HB hx166_2
    replace hx166_3 := sX HB hx166_3
    have HR166_3 := Aside0.mk hi166_3
    have HC166_3 := Aside0.mk hl166_3
    clear hi166_3 hl166_3
    replace p166 := eq_true p166
    replace q166 := eq_true q166
    go_wp2
    go_meet
    case rel => exact ⟨_, (true), sr, H', ⟨by first | omega | exact Nat.le_refl _⟩, ⟨by exact sE HO165.out⟩, ⟨sb⟩⟩
   rw [if_neg c6] at H
   have c6b0 : (((rd_T26 l0 0).f0) == 12) = false := beq_eq_false_iff_ne.mpr c6
   have c6b1 : (((rd_T26 l0 0).f0) != 12) = true := bne_iff_ne.mpr c6
   have H' := Aside0.mk H
   clear H
   have p166 : 0 ≤ (0 : Int) := (by omega)
   have q166 : 0 < (l0.length : Int) := of_decide_eq_true (by first | (with_reducible assumption) | assumption)
   obtain ⟨ad166, A166_3, c166_3, e166, hx166_0, hx166_1, hx166_2, hx166_3, hl166_3, hi166_3⟩ := at_T26 HR0.out 0 p166 q166
   cases e166
   have qi166 : (0 < l0.length) = True := eq_true (by omega)
   (try rw [sZ] at hx166_0)
   (try rw [sZ] at hx166_1)
   (try rw [sZ] at hx166_2)
   (try rw [sZ] at hx166_3)
   replace hx166_0 := sX HB hx166_0
   replace hx166_1 := sX HB hx166_1
   replace hx166_2 := sX HB hx166_2
   replace hx166_3 := sX HB hx166_3
   have HR166_3 := Aside0.mk hi166_3
   have HC166_3 := Aside0.mk hl166_3
   clear hi166_3 hl166_3
   replace p166 := eq_true p166
   replace q166 := eq_true q166
   have p167 : 0 ≤ (0 : Int) := (by omega)
   have q167 : 0 < (l0.length : Int) := of_decide_eq_true (by first | (with_reducible assumption) | assumption)
   obtain ⟨ad167, A167_3, c167_3, e167, hx167_0, hx167_1, hx167_2, hx167_3, hl167_3, hi167_3⟩ := at_T26 HR0.out 0 p167 q167
   obtain rfl : ad166 = ad167 := (by injection e167)
   have qi167 : (0 < l0.length) = True := eq_true (by omega)
   (try rw [sZ] at hx167_0)
   (try rw [sZ] at hx167_1)
   (try rw [sZ] at hx167_2)
   (try rw [sZ] at hx167_3)
   replace hx167_0 := sX HB hx167_0
   replace hx167_1 := sX HB hx167_1
   replace hx167_2 := sX HB hx167_2
   replace hx167_3 := sX HB hx167_3
   have HR167_3 := Aside0.mk hi167_3
   have HC167_3 := Aside0.mk hl167_3
   clear hi167_3 hl167_3
   replace p167 := eq_true p167
   replace q167 := eq_true q167
   have ea_ := Option.some.inj (hx166_3.symm.trans hx167_3)
   injection ea_ with ea_ en_ ec_
   subst ea_
   subst ec_
   clear en_
   go_wp2
   go_meet
   case rel => exact ⟨_, ((((rd_T26 l0 0).f0) == 13)), sr, H', ⟨by first | omega | exact Nat.le_refl _⟩, ⟨by exact sE HO165.out⟩, ⟨sb⟩⟩
  rw [if_neg c5] at H
  exact absurd H (by simp)
 case rest =>
  clear HC2
  try clear c1
  try clear p1
  try clear q1
  try clear hx1
  try clear qi1
  try clear p2
  try clear c5
  try clear c5b0
  try clear c5b1
  try clear c5b2
  try clear c6
  try clear c6b0
  try clear c6b1
  try clear hx166_0
  try clear hx166_1
  try clear hx166_2
  try clear hx166_3
  try clear hx167_0
  try clear hx167_1
  try clear hx167_2
  try clear hx167_3
  try clear p166
  try clear p167
  try clear q166
  try clear q167
  obtain ⟨kq, x17_1, rfl, HA, HJ1, HO_3, HB⟩ := hcut
  cases kq with
  | zero => exact absurd HA.out (by simp [spec_l24Expr.j0])
  | succ kj1 =>
   have H := HA.out
   clear HA
   simp only [spec_l24Expr.j0] at H
   by_cases c7 : x17_1 = true
   ·subst c7
    rewrite [if_pos rfl] at H
    by_cases c8 : 0 < (l0.length : Int)
    ·rw [if_pos c8] at H
     have c8b0 := decide_eq_true c8
     have c8b1 : decide (0 < l0.length) = true := decide_eq_true (by omega)
     clear c8
     by_cases c9 : 0 < (((rd_T26 l0 0).f3).length : Int)
     ·rw [if_pos c9] at H
      have c9b0 := decide_eq_true c9
      have c9b1 : decide (0 < ((rd_T26 l0 0).f3).length) = true := decide_eq_true (by omega)
      clear c9
      obtain ⟨t170, A10, H⟩ := sO H
      by_cases c11 : y163.length + t170.length < 4398046511104
      ·rw [if_pos c11] at H
       have LMc11 := Aside0.mk c11
       clear c11
       obtain ⟨y173, hy173⟩ : ∃ y_ : List (S89), y_ = (y163 ++ t170) := ⟨_, rfl⟩
       replace H : (if 1 < (((rd_T26 l0 0).f3).length : Int) then (if y173.length < 4398046511104 then (some (y173 ++ [(⟨11, wrap64 ((wrap64 (21 + ((rd_T26 l0 0).f0))) - 12), (rd_T26 ((rd_T26 l0 0).f3) 1).f2⟩ : S89)])) else (none)) else (none)) = some r := by first | (rw [hy173]; with_reducible exact H) | (have H2_ := (Option.bind_some _ _).symm.trans H; rw [hy173]; with_reducible exact H2_) | (have H2_ := (Option.bind_some _ _).symm.trans H; with_reducible exact H2_) | with_reducible exact H | (rw [hy173]; exact H) | exact H
       have Ny173 := Aside0.mk hy173
       clear hy173
       by_cases c12 : 1 < (((rd_T26 l0 0).f3).length : Int)
       ·rw [if_pos c12] at H
        have c12b0 := decide_eq_true c12
        have c12b1 : decide (1 < ((rd_T26 l0 0).f3).length) = true := decide_eq_true (by omega)
        clear c12
        by_cases c13 : y173.length < 4398046511104
        ·rw [if_pos c13] at H
         have LMc13 := Aside0.mk c13
         clear c13
         obtain ⟨y179, hy179⟩ : ∃ y_ : List (S89), y_ = (y173 ++ [(⟨11, wrap64 ((wrap64 (21 + ((rd_T26 l0 0).f0))) - 12), (rd_T26 ((rd_T26 l0 0).f3) 1).f2⟩ : S89)]) := ⟨_, rfl⟩
         replace H : (some y179) = some r := by first | (rw [hy179]; with_reducible exact H) | (have H2_ := (Option.bind_some _ _).symm.trans H; rw [hy179]; with_reducible exact H2_) | (have H2_ := (Option.bind_some _ _).symm.trans H; with_reducible exact H2_) | with_reducible exact H | (rw [hy179]; exact H) | exact H
         have Ny179 := Aside0.mk hy179
         clear hy179
         obtain rfl := Option.some.inj H
         have p168 : 0 ≤ (0 : Int) := (by omega)
         have q168 : 0 < (l0.length : Int) := of_decide_eq_true (by first | (with_reducible assumption) | assumption)
         obtain ⟨ad168, A168_3, c168_3, e168, hx168_0, hx168_1, hx168_2, hx168_3, hl168_3, hi168_3⟩ := at_T26 HR0.out 0 p168 q168
         cases e168
         have qi168 : (0 < l0.length) = True := eq_true (by omega)
         (try rw [sZ] at hx168_0)
         (try rw [sZ] at hx168_1)
         (try rw [sZ] at hx168_2)
         (try rw [sZ] at hx168_3)
         replace hx168_0 := sX HB hx168_0
         replace hx168_1 := sX HB hx168_1
         replace hx168_2 := sX HB hx168_2
         replace hx168_3 := sX HB hx168_3
         have HR168_3 := Aside0.mk hi168_3
         have HC168_3 := Aside0.mk hl168_3
         clear hi168_3 hl168_3
         replace p168 := eq_true p168
         replace q168 := eq_true q168
         have p169 : 0 ≤ (0 : Int) := (by omega)
         have q169 : 0 < (((rd_T26 l0 0).f3).length : Int) := of_decide_eq_true (by first | (with_reducible assumption) | assumption)
         obtain ⟨ad169, A169_3, c169_3, e169, hx169_0, hx169_1, hx169_2, hx169_3, hl169_3, hi169_3⟩ := at_T26 HR168_3.out 0 p169 q169
         cases e169
         have qi169 : (0 < ((rd_T26 l0 0).f3).length) = True := eq_true (by omega)
         (try rw [sZ] at hx169_0)
         (try rw [sZ] at hx169_1)
         (try rw [sZ] at hx169_2)
         (try rw [sZ] at hx169_3)
         replace hx169_0 := sX HB hx169_0
         replace hx169_1 := sX HB hx169_1
         replace hx169_2 := sX HB hx169_2
         replace hx169_3 := sX HB hx169_3
         have HR169_3 := Aside0.mk hi169_3
         have HC169_3 := Aside0.mk hl169_3
         clear hi169_3 hl169_3
         replace p169 := eq_true p169
         replace q169 := eq_true q169
         try go_wp2_with (first | ((with_reducible refine gate_callee (f := 51) rfl ?_); refine goesL_ (some 24) rfl rfl Try.func51 (by kernel_rfl) rfl #[.pointer (some ad169)] rfl (by (try simp only [List.map_toArray, List.map_cons, List.map_nil]); first | done | rfl | (simp only [List.length_drop, List.length_take]; rfl)) ?_; (with_reducible refine (ih kj1 (by have := HJ1.out; omega) _ [rd_T26 ((rd_T26 l0 0).f3) 0] t170 _ ?side1 A10.out).mono ?_); (case side1 => first | exact (C_one (by exact sD (Kd.C_below HR168_3.out HB.out)) z26 (0 : Int) (by decide) (by have h_ := q169; first | exact of_eq_true h_ | exact h_ | exact of_decide_eq_true (by assumption))) | (have h_ := (C_one (by exact sD (Kd.C_below HR168_3.out HB.out)) z26 (0 : Int) (by decide) (by have h_ := q169; first | exact of_eq_true h_ | exact h_ | exact of_decide_eq_true (by assumption))); first | exact h_ | simpa using h_)); rintro e w14 ⟨v171, rfl, ho0, hb⟩; refine ⟨_, rfl, ?_⟩; have n0_ := Aside0.mk (Kd.R_elder' (sE HO_3.out) (Kd.R_base ho0) hb); have n1_ := Aside0.mk (Kd.R_lower (Kd.R_new' ho0 (Kd.R_lt (sE HO_3.out))) (below_size (sH HB.out))); have n2_ := sB HB hb; clear HO_3; clear HB; have HO_3 := n0_; have HO172 := n1_; have HB := n2_; clear n0_ n1_ n2_; (try clear hb); (try clear hb2); (try clear hk); (try clear hi); (try clear ho0); obtain ⟨Ao16, co16, eo16⟩ := Kd.R_slice HO172.out; subst eo16) | ((with_reducible refine gate_builtin (b := .append) (xs := #[.tmp 18, .tmp 24]) rfl ?_); at_builtin; refine Kd.R_append_rows k89 (w0 := w) w.heap.size rfl (.tmp 18) (.tmp 24) 40 89 (.agg #[(.int .i64 0), (.int .i64 0), (.string ⟨#[]⟩)]) 32 rfl Try.underlying40 info89 rfl (by decide) (by omega) v164 y163 t170 _ _ _ (fun k_ => some k_ ≠ (.slice Ao16 t170.length co16 : Value).ownBlock) (fun _ => False) rfl rfl ?aO ?aR (fun _ _ h => h) (fun _ h => h.elim) ?aF ?aB ?aS ?aL ?_; (case aR => exact sD ((Kd.R_reads' HO172.out).2.2)); (case aB => exact (sH HB.out)); (case aF => exact (fun k_ hk => Kd.fresh' (Kd.R_lt (sE HO172.out)) k_ hk)); (case aO => exact (by (with_reducible repeat (first | apply Kd.R_alloc | apply Kd.R_drewN | apply Kd.R_drew)); exact Kd.R_mono HO_3.out (fun _ hk => hk.2))); (case aS => exact (below_size (sH HB.out))); (case aL => have := LMc11.out; omega); intro v174 w15 ho hb hg hat; rw [← Ny173.out] at ho; have n0_ := Aside0.mk (Kd.R_after (ok := (fun _ => True)) (sE HO172.out) hg hat); have n1_ := Aside0.mk (hb); have n2_ := Aside0.mk (ho); clear HO172; clear HB; clear HO_3; have HO172 := n0_; have HB := n1_; have HO175 := n2_; clear n0_ n1_ n2_; clear ho hb hg hat))
         have n0_ := Aside0.mk (Kd.R_drew HO172.out)
         have n1_ := Aside0.mk (Kd.R_drew HO175.out)
         have n2_ := Aside0.mk (below_drew1 HB.out)
         clear HO172
         clear HO175
         clear HB
         have HO172 := n0_
         have HO175 := n1_
         have HB := n2_
         clear n0_ n1_ n2_
         have p176 : 0 ≤ (0 : Int) := (by omega)
         have q176 : 0 < (l0.length : Int) := of_decide_eq_true (by first | (with_reducible assumption) | assumption)
         obtain ⟨ad176, A176_3, c176_3, e176, hx176_0, hx176_1, hx176_2, hx176_3, hl176_3, hi176_3⟩ := at_T26 HR0.out 0 p176 q176
         have hw176_3 := hx176_3
         (try rw [sZ] at hw176_3)
         have hw176_2 := hx176_2
         (try rw [sZ] at hw176_2)
         have hw176_1 := hx176_1
         (try rw [sZ] at hw176_1)
         have hw176_0 := hx176_0
         (try rw [sZ] at hw176_0)
         obtain rfl : ad168 = ad176 := (by injection e176)
         have qi176 : (0 < l0.length) = True := eq_true (by omega)
         (try rw [sZ] at hx176_0)
         (try rw [sZ] at hx176_1)
         (try rw [sZ] at hx176_2)
         (try rw [sZ] at hx176_3)
         replace hx176_0 := sX HB hx176_0
         replace hx176_1 := sX HB hx176_1
         replace hx176_2 := sX HB hx176_2
         replace hx176_3 := sX HB hx176_3
         have HR176_3 := Aside0.mk hi176_3
         have HC176_3 := Aside0.mk hl176_3
         clear hi176_3 hl176_3
         replace p176 := eq_true p176
         replace q176 := eq_true q176
         have p177 : 0 ≤ (0 : Int) := (by omega)
         have q177 : 0 < (l0.length : Int) := of_decide_eq_true (by first | (with_reducible assumption) | assumption)
         obtain ⟨ad177, A177_3, c177_3, e177, hx177_0, hx177_1, hx177_2, hx177_3, hl177_3, hi177_3⟩ := at_T26 HR0.out 0 p177 q177
         have hw177_3 := hx177_3
         (try rw [sZ] at hw177_3)
         have hw177_2 := hx177_2
         (try rw [sZ] at hw177_2)
         have hw177_1 := hx177_1
         (try rw [sZ] at hw177_1)
         have hw177_0 := hx177_0
         (try rw [sZ] at hw177_0)
         obtain rfl : ad168 = ad177 := (by injection e177)
         have qi177 : (0 < l0.length) = True := eq_true (by omega)
         (try rw [sZ] at hx177_0)
         (try rw [sZ] at hx177_1)
         (try rw [sZ] at hx177_2)
         (try rw [sZ] at hx177_3)
         replace hx177_0 := sX HB hx177_0
         replace hx177_1 := sX HB hx177_1
         replace hx177_2 := sX HB hx177_2
         replace hx177_3 := sX HB hx177_3
         have HR177_3 := Aside0.mk hi177_3
         have HC177_3 := Aside0.mk hl177_3
         clear hi177_3 hl177_3
         replace p177 := eq_true p177
         replace q177 := eq_true q177
         have ea_ := Option.some.inj (hx176_3.symm.trans hx177_3)
         injection ea_ with ea_ en_ ec_
         subst ea_
         subst ec_
         clear en_
         have p178 : 0 ≤ (1 : Int) := (by omega)
         have q178 : 1 < (((rd_T26 l0 0).f3).length : Int) := of_decide_eq_true (by first | (with_reducible assumption) | assumption)
         obtain ⟨ad178, A178_3, c178_3, e178, hx178_0, hx178_1, hx178_2, hx178_3, hl178_3, hi178_3⟩ := at_T26 HR177_3.out 1 p178 q178
         have hw178_3 := hx178_3
         (try rw [show ((1 : Int)).toNat = 1 from rfl] at hw178_3)
         (try rw [show 1 * 4 = 4 from rfl] at hw178_3)
         (try simp only [Nat.reduceMul, Nat.reduceEqDiff, Go.Addr.add, ↓reduceIte] at hw178_3)
         have hw178_2 := hx178_2
         (try rw [show ((1 : Int)).toNat = 1 from rfl] at hw178_2)
         (try rw [show 1 * 4 = 4 from rfl] at hw178_2)
         (try simp only [Nat.reduceMul, Nat.reduceEqDiff, Go.Addr.add, ↓reduceIte] at hw178_2)
         have hw178_1 := hx178_1
         (try rw [show ((1 : Int)).toNat = 1 from rfl] at hw178_1)
         (try rw [show 1 * 4 = 4 from rfl] at hw178_1)
         (try simp only [Nat.reduceMul, Nat.reduceEqDiff, Go.Addr.add, ↓reduceIte] at hw178_1)
         have hw178_0 := hx178_0
         (try rw [show ((1 : Int)).toNat = 1 from rfl] at hw178_0)
         (try rw [show 1 * 4 = 4 from rfl] at hw178_0)
         (try simp only [Nat.reduceMul, Nat.reduceEqDiff, Go.Addr.add, ↓reduceIte] at hw178_0)
         cases e178
         (try simp only [show (1 : Int).toNat = 1 from rfl, Nat.reduceMul, Nat.reduceEqDiff, Go.Addr.add, ↓reduceIte] at hx178_0)
         (try simp only [show (1 : Int).toNat = 1 from rfl, Nat.reduceMul, Nat.reduceEqDiff, Go.Addr.add, ↓reduceIte] at hx178_1)
         (try simp only [show (1 : Int).toNat = 1 from rfl, Nat.reduceMul, Nat.reduceEqDiff, Go.Addr.add, ↓reduceIte] at hx178_2)
         (try simp only [show (1 : Int).toNat = 1 from rfl, Nat.reduceMul, Nat.reduceEqDiff, Go.Addr.add, ↓reduceIte] at hx178_3)
         have qi178 : (1 < ((rd_T26 l0 0).f3).length) = True := eq_true (by omega)
         (try rw [show ((1 : Int)).toNat = 1 from rfl] at hx178_0)
         (try rw [show 1 * 4 = 4 from rfl] at hx178_0)
         (try rw [show ((1 : Int)).toNat = 1 from rfl] at hx178_1)
         (try rw [show 1 * 4 = 4 from rfl] at hx178_1)
         (try rw [show ((1 : Int)).toNat = 1 from rfl] at hx178_2)
         (try rw [show 1 * 4 = 4 from rfl] at hx178_2)
         (try rw [show ((1 : Int)).toNat = 1 from rfl] at hx178_3)
         (try rw [show 1 * 4 = 4 from rfl] at hx178_3)
         replace hx178_0 := sX HB hx178_0
         replace hx178_1 := sX HB hx178_1
         replace hx178_2 := sX HB hx178_2
         replace hx178_3 := sX HB hx178_3
         have HR178_3 := Aside0.mk hi178_3
         have HC178_3 := Aside0.mk hl178_3
         clear hi178_3 hl178_3
         replace p178 := eq_true p178
         replace q178 := eq_true q178
         refine start_ (n := 18) (S := fun w' => w'.cell? ad168 = some (.int .i64 ((rd_T26 l0 0).f0)) ∧ w'.cell? ⟨ad168.block, ad168.off + 1, none⟩ = some (.int .i64 ((rd_T26 l0 0).f1)) ∧ w'.cell? ⟨ad168.block, ad168.off + 2, none⟩ = some (.string ((rd_T26 l0 0).f2)) ∧ w'.cell? ⟨ad168.block, ad168.off + 3, none⟩ = some (.slice (some ad178) ((rd_T26 l0 0).f3).length c176_3) ∧ w'.cell? ad168 = some (.int .i64 ((rd_T26 l0 0).f0)) ∧ w'.cell? ⟨ad168.block, ad168.off + 1, none⟩ = some (.int .i64 ((rd_T26 l0 0).f1)) ∧ w'.cell? ⟨ad168.block, ad168.off + 2, none⟩ = some (.string ((rd_T26 l0 0).f2)) ∧ w'.cell? ⟨ad168.block, ad168.off + 3, none⟩ = some (.slice (some ad178) ((rd_T26 l0 0).f3).length c176_3) ∧ w'.cell? ⟨ad178.block, ad178.off + 4, none⟩ = some (.int .i64 ((rd_T26 ((rd_T26 l0 0).f3) 1).f0)) ∧ w'.cell? ⟨ad178.block, ad178.off + 4 + 1, none⟩ = some (.int .i64 ((rd_T26 ((rd_T26 l0 0).f3) 1).f1)) ∧ w'.cell? ⟨ad178.block, ad178.off + 4 + 2, none⟩ = some (.string ((rd_T26 ((rd_T26 l0 0).f3) 1).f2)) ∧ w'.cell? ⟨ad178.block, ad178.off + 4 + 3, none⟩ = some (.slice A178_3 ((rd_T26 ((rd_T26 l0 0).f3) 1).f3).length c178_3)) (ds := []) #[false, false, false, false, false, false, false, false, false, false, false, false, false, false, false, false, false, false] (by kernel_rfl) rfl rfl ⟨((HB.out.cell (World.block_lt_of_cell? w _ hw176_0)).trans hw176_0), ((HB.out.cell (World.block_lt_of_cell? w _ hw176_1)).trans hw176_1), ((HB.out.cell (World.block_lt_of_cell? w _ hw176_2)).trans hw176_2), ((HB.out.cell (World.block_lt_of_cell? w _ hw176_3)).trans hw176_3), ((HB.out.cell (World.block_lt_of_cell? w _ hw177_0)).trans hw177_0), ((HB.out.cell (World.block_lt_of_cell? w _ hw177_1)).trans hw177_1), ((HB.out.cell (World.block_lt_of_cell? w _ hw177_2)).trans hw177_2), ((HB.out.cell (World.block_lt_of_cell? w _ hw177_3)).trans hw177_3), ((HB.out.cell (World.block_lt_of_cell? w _ hw178_0)).trans hw178_0), ((HB.out.cell (World.block_lt_of_cell? w _ hw178_1)).trans hw178_1), ((HB.out.cell (World.block_lt_of_cell? w _ hw178_2)).trans hw178_2), ((HB.out.cell (World.block_lt_of_cell? w _ hw178_3)).trans hw178_3)⟩ (fun hHeld => ?_); refine with_tabW spec_l24Expr.tab4 spec_l24Expr.bits4 (fun HT_ HW_ => ?_)
         generalize w15.drew = w17 at HO172 HO175 HB HR176_3 HR177_3 HR178_3 hx176_0 hx176_1 hx176_2 hx176_3 hx177_0 hx177_1 hx177_2 hx177_3 hx178_0 hx178_1 hx178_2 hx178_3 hHeld ⊢
         refine pure_ (i := 0) (N := some 26) (v := ?_) (a' := ?_) (bN 18 1) rfl rfl (any_of HT_.out (by kernel_rfl)) (fun _ _ _ h => h) (Or.inl ⟨by rfl, ?_⟩) ?_ ?_
         rotate_left
         ·intro w'
          go_simp
          with_reducible rfl
         rotate_left
         ·simp only [Act.put, List.setIfInBounds_toArray, List.set_cons_zero, List.set_cons_succ, i64_w, i32_w]
          rfl
         refine pure_ (i := 1) (N := some 27) (v := ?_) (a' := ?_) (bN 18 3) rfl rfl (any_of HT_.out (by kernel_rfl)) (fun _ _ _ h => h) (Or.inl ⟨by rfl, ?_⟩) ?_ ?_
         rotate_left
         ·intro w'
          go_simp
          with_reducible rfl
         rotate_left
         ·simp only [Act.put, List.setIfInBounds_toArray, List.set_cons_zero, List.set_cons_succ, i64_w, i32_w]
          rfl
         refine pure_ (i := 2) (N := some 28) (v := ?_) (a' := ?_) (bN 18 7) rfl rfl (any_of HT_.out (by kernel_rfl)) (fun _ _ _ h => h) (Or.inl ⟨by rfl, ?_⟩) ?_ ?_
         rotate_left
         ·intro w'
          go_simp
          with_reducible rfl
         rotate_left
         ·simp only [Act.put, List.setIfInBounds_toArray, List.set_cons_zero, List.set_cons_succ, i64_w, i32_w]
          rfl
         refine pure_ (i := 3) (N := some 29) (v := ?_) (a' := ?_) (bN 18 15) rfl rfl (any_of HT_.out (by kernel_rfl)) (fun _ _ _ h => h) (Or.inl ⟨by rfl, ?_⟩) ?_ ?_
         rotate_left
         ·intro w'
          go_simp
          with_reducible rfl
         rotate_left
         ·simp only [Act.put, List.setIfInBounds_toArray, List.set_cons_zero, List.set_cons_succ, i64_w, i32_w]
          rfl
         refine pure_ (i := 7) (N := some 33) (v := ?_) (a' := ?_) (bN 18 143) rfl rfl (any_of HT_.out (by kernel_rfl)) (fun _ _ _ h => h) (Or.inl ⟨by rfl, ?_⟩) ?_ ?_
         rotate_left
         ·intro w'
          go_simp
          with_reducible rfl
         rotate_left
         ·simp only [Act.put, List.setIfInBounds_toArray, List.set_cons_zero, List.set_cons_succ, i64_w, i32_w]
          rfl
         refine pure_ (i := 8) (N := some 34) (v := ?_) (a' := ?_) (bN 18 399) rfl rfl (any_of HT_.out (by kernel_rfl)) (fun _ _ _ h => h) (Or.inl ⟨by rfl, ?_⟩) ?_ ?_
         rotate_left
         ·intro w'
          go_simp
          with_reducible rfl
         rotate_left
         ·simp only [Act.put, List.setIfInBounds_toArray, List.set_cons_zero, List.set_cons_succ, i64_w, i32_w]
          rfl
         refine pure_ (i := 9) (N := some 35) (v := ?_) (a' := ?_) (bN 18 911) rfl rfl (any_of HT_.out (by kernel_rfl)) (fun _ _ _ h => h) (Or.inl ⟨by rfl, ?_⟩) ?_ ?_
         rotate_left
         ·intro w'
          go_simp
          with_reducible rfl
         rotate_left
         ·simp only [Act.put, List.setIfInBounds_toArray, List.set_cons_zero, List.set_cons_succ, i64_w, i32_w]
          rfl
         refine take_ (i := 4) (N := some 30) (v := ?_) (a' := ?_) (bN 18 927) rfl rfl (take_ofW HT_.out HW_.out (by kernel_rfl)) (fun _ _ _ h => h) (Or.inl ⟨by rfl, ?_⟩) hHeld ?_ ?_
         rotate_left
         ·rintro w' ⟨s0, s1, s2, s3, s4, s5, s6, s7, s8, s9, s10, s11⟩
          go_simp
          with_reducible rfl
         rotate_left
         ·simp only [Act.put, List.setIfInBounds_toArray, List.set_cons_zero, List.set_cons_succ, i64_w, i32_w]
          rfl
         refine pure_ (i := 5) (N := some 31) (v := ?_) (a' := ?_) (bN 18 959) rfl rfl (any_of HT_.out (by kernel_rfl)) (fun _ _ _ h => h) (Or.inl ⟨by rfl, ?_⟩) ?_ ?_
         rotate_left
         ·intro w'
          go_simp
          with_reducible rfl
         rotate_left
         ·simp only [Act.put, List.setIfInBounds_toArray, List.set_cons_zero, List.set_cons_succ, i64_w, i32_w]
          rfl
         refine pure_ (i := 6) (N := some 32) (v := ?_) (a' := ?_) (bN 18 1023) rfl rfl (any_of HT_.out (by kernel_rfl)) (fun _ _ _ h => h) (Or.inl ⟨by rfl, ?_⟩) ?_ ?_
         rotate_left
         ·intro w'
          go_simp
          with_reducible rfl
         rotate_left
         ·simp only [Act.put, List.setIfInBounds_toArray, List.set_cons_zero, List.set_cons_succ, i64_w, i32_w]
          rfl
         refine take_ (i := 10) (N := some 36) (v := ?_) (a' := ?_) (bN 18 2047) rfl rfl (take_ofW HT_.out HW_.out (by kernel_rfl)) (fun _ _ _ h => h) (Or.inl ⟨by rfl, ?_⟩) hHeld ?_ ?_
         rotate_left
         ·rintro w' ⟨s0, s1, s2, s3, s4, s5, s6, s7, s8, s9, s10, s11⟩
          go_simp
          with_reducible rfl
         rotate_left
         ·simp only [Act.put, List.setIfInBounds_toArray, List.set_cons_zero, List.set_cons_succ, i64_w, i32_w]
          rfl
         refine pure_ (i := 11) (N := some 37) (v := ?_) (a' := ?_) (bN 18 4095) rfl rfl (any_of HT_.out (by kernel_rfl)) (fun _ _ _ h => h) (Or.inl ⟨by rfl, ?_⟩) ?_ ?_
         rotate_left
         ·intro w'
          go_simp
          with_reducible rfl
         rotate_left
         ·simp only [Act.put, List.setIfInBounds_toArray, List.set_cons_zero, List.set_cons_succ, i64_w, i32_w]
          rfl
         refine pure_ (i := 12) (N := some 38) (v := ?_) (a' := ?_) (bN 18 8191) rfl rfl (any_of HT_.out (by kernel_rfl)) (fun _ _ _ h => h) (Or.inl ⟨by rfl, ?_⟩) ?_ ?_
         rotate_left
         ·intro w'
          go_simp
          with_reducible rfl
         rotate_left
         ·simp only [Act.put, List.setIfInBounds_toArray, List.set_cons_zero, List.set_cons_succ, i64_w, i32_w]
          rfl
         refine take_ (i := 13) (N := some 39) (v := ?_) (a' := ?_) (bN 18 16383) rfl rfl (take_ofW HT_.out HW_.out (by kernel_rfl)) (fun _ _ _ h => h) (Or.inl ⟨by rfl, ?_⟩) hHeld ?_ ?_
         rotate_left
         ·rintro w' ⟨s0, s1, s2, s3, s4, s5, s6, s7, s8, s9, s10, s11⟩
          go_simp
          with_reducible rfl
         rotate_left
         ·simp only [Act.put, List.setIfInBounds_toArray, List.set_cons_zero, List.set_cons_succ, i64_w, i32_w]
          rfl
         refine pure_ (i := 14) (N := some 40) (v := ?_) (a' := ?_) (bN 18 32767) rfl rfl (any_of HT_.out (by kernel_rfl)) (fun _ _ _ h => h) (Or.inl ⟨by rfl, ?_⟩) ?_ ?_
         rotate_left
         ·intro w'
          go_simp
          with_reducible rfl
         rotate_left
         ·simp only [Act.put, List.setIfInBounds_toArray, List.set_cons_zero, List.set_cons_succ, i64_w, i32_w]
          rfl
         refine one_ (i := 15) (N := some 41) (bN 18 65535) rfl rfl (one_of HT_.out (by kernel_rfl)) (by decide) (fun K hK => ?_)
         refine value_ (w1 := ?_) (v := ?_) (by rfl) rfl ?_ ?_
         rotate_left 2
         ·go_simp
          constructor
          ·rfl
          ·rfl
         refine hK.out _ _ ⟨(World.cell?_alloc_lt _ _ _ (World.block_lt_of_cell? _ _ (((HB.out.cell (World.block_lt_of_cell? w _ hw176_0)).trans hw176_0)))).trans (((HB.out.cell (World.block_lt_of_cell? w _ hw176_0)).trans hw176_0)), (World.cell?_alloc_lt _ _ _ (World.block_lt_of_cell? _ _ (((HB.out.cell (World.block_lt_of_cell? w _ hw176_1)).trans hw176_1)))).trans (((HB.out.cell (World.block_lt_of_cell? w _ hw176_1)).trans hw176_1)), (World.cell?_alloc_lt _ _ _ (World.block_lt_of_cell? _ _ (((HB.out.cell (World.block_lt_of_cell? w _ hw176_2)).trans hw176_2)))).trans (((HB.out.cell (World.block_lt_of_cell? w _ hw176_2)).trans hw176_2)), (World.cell?_alloc_lt _ _ _ (World.block_lt_of_cell? _ _ (((HB.out.cell (World.block_lt_of_cell? w _ hw176_3)).trans hw176_3)))).trans (((HB.out.cell (World.block_lt_of_cell? w _ hw176_3)).trans hw176_3)), (World.cell?_alloc_lt _ _ _ (World.block_lt_of_cell? _ _ (((HB.out.cell (World.block_lt_of_cell? w _ hw177_0)).trans hw177_0)))).trans (((HB.out.cell (World.block_lt_of_cell? w _ hw177_0)).trans hw177_0)), (World.cell?_alloc_lt _ _ _ (World.block_lt_of_cell? _ _ (((HB.out.cell (World.block_lt_of_cell? w _ hw177_1)).trans hw177_1)))).trans (((HB.out.cell (World.block_lt_of_cell? w _ hw177_1)).trans hw177_1)), (World.cell?_alloc_lt _ _ _ (World.block_lt_of_cell? _ _ (((HB.out.cell (World.block_lt_of_cell? w _ hw177_2)).trans hw177_2)))).trans (((HB.out.cell (World.block_lt_of_cell? w _ hw177_2)).trans hw177_2)), (World.cell?_alloc_lt _ _ _ (World.block_lt_of_cell? _ _ (((HB.out.cell (World.block_lt_of_cell? w _ hw177_3)).trans hw177_3)))).trans (((HB.out.cell (World.block_lt_of_cell? w _ hw177_3)).trans hw177_3)), (World.cell?_alloc_lt _ _ _ (World.block_lt_of_cell? _ _ (((HB.out.cell (World.block_lt_of_cell? w _ hw178_0)).trans hw178_0)))).trans (((HB.out.cell (World.block_lt_of_cell? w _ hw178_0)).trans hw178_0)), (World.cell?_alloc_lt _ _ _ (World.block_lt_of_cell? _ _ (((HB.out.cell (World.block_lt_of_cell? w _ hw178_1)).trans hw178_1)))).trans (((HB.out.cell (World.block_lt_of_cell? w _ hw178_1)).trans hw178_1)), (World.cell?_alloc_lt _ _ _ (World.block_lt_of_cell? _ _ (((HB.out.cell (World.block_lt_of_cell? w _ hw178_2)).trans hw178_2)))).trans (((HB.out.cell (World.block_lt_of_cell? w _ hw178_2)).trans hw178_2)), (World.cell?_alloc_lt _ _ _ (World.block_lt_of_cell? _ _ (((HB.out.cell (World.block_lt_of_cell? w _ hw178_3)).trans hw178_3)))).trans (((HB.out.cell (World.block_lt_of_cell? w _ hw178_3)).trans hw178_3))⟩ (fun hHeld => ?_)
         clear hK K
         refine norm_ (a' := ?_) ?_ ?_
         rotate_left
         ·show Act.put _ (some 41) _ = _
          simp only [Act.put, List.setIfInBounds_toArray, List.set_cons_zero, List.set_cons_succ, i64_w, i32_w]
          rfl
         refine one_ (i := 16) (N := some 42) (bN 18 131071) rfl rfl (one_of HT_.out (by kernel_rfl)) (by decide) (fun K hK => ?_)
         refine Kd.R_append_step k89 (w0 := w) w.heap.size (by rfl) (.tmp 26) (.tmp 41) 40 89 (.agg #[(.int .i64 0), (.int .i64 0), (.string ⟨#[]⟩)]) 32 rfl Try.underlying40 info89 rfl (by decide) (by omega) v174 y173 (⟨11, wrap64 ((wrap64 (21 + ((rd_T26 l0 0).f0))) - 12), (rd_T26 ((rd_T26 l0 0).f3) 1).f2⟩ : S89) [.int .i64 11, .int .i64 (wrap64 ((wrap64 (21 + ((rd_T26 l0 0).f0))) - 12)), .string ((rd_T26 ((rd_T26 l0 0).f3) 1).f2)] (fun k_ => some k_ ≠ (.slice Ao16 t170.length co16 : Value).ownBlock) (fun _ => False) rfl rfl ?aP (fun _ hk => hk.elim) ?aF ?aO ?aB ?aS ?aL ?_
         (case aP => exact k89_mkM _ _ _ (⟨11, wrap64 ((wrap64 (21 + ((rd_T26 l0 0).f0))) - 12), (rd_T26 ((rd_T26 l0 0).f3) 1).f2⟩ : S89))
         (case aB => exact (sH HB.out))
         (case aF => exact (fun k_ hk => Kd.fresh' (Kd.R_lt (sE HO172.out)) k_ hk))
         (case aO => exact (sE HO175.out))
         (case aS => exact (below_size (sH HB.out)))
         (case aL => have := LMc13.out; omega)
         intro v180 w18 ho hb hg hat
         rw [← Ny179.out] at ho
         have n0_ := Aside0.mk (Kd.R_after (ok := (fun _ => True)) (sE HO172.out) hg hat)
         have n1_ := Aside0.mk (hb)
         have n2_ := Aside0.mk (ho)
         clear HO172
         clear HB
         clear HO175
         have HO172 := n0_
         have HB := n1_
         have HO181 := n2_
         clear n0_ n1_ n2_
         clear ho hb hg hat
         refine hK.out _ _ ⟨((HB.out.cell (World.block_lt_of_cell? w _ hw176_0)).trans hw176_0), ((HB.out.cell (World.block_lt_of_cell? w _ hw176_1)).trans hw176_1), ((HB.out.cell (World.block_lt_of_cell? w _ hw176_2)).trans hw176_2), ((HB.out.cell (World.block_lt_of_cell? w _ hw176_3)).trans hw176_3), ((HB.out.cell (World.block_lt_of_cell? w _ hw177_0)).trans hw177_0), ((HB.out.cell (World.block_lt_of_cell? w _ hw177_1)).trans hw177_1), ((HB.out.cell (World.block_lt_of_cell? w _ hw177_2)).trans hw177_2), ((HB.out.cell (World.block_lt_of_cell? w _ hw177_3)).trans hw177_3), ((HB.out.cell (World.block_lt_of_cell? w _ hw178_0)).trans hw178_0), ((HB.out.cell (World.block_lt_of_cell? w _ hw178_1)).trans hw178_1), ((HB.out.cell (World.block_lt_of_cell? w _ hw178_2)).trans hw178_2), ((HB.out.cell (World.block_lt_of_cell? w _ hw178_3)).trans hw178_3)⟩ (fun hHeld => ?_)
         clear hK K
         refine norm_ (a' := ?_) ?_ ?_
         rotate_left
         ·show Act.put _ (some 42) _ = _
          simp only [Act.put, List.setIfInBounds_toArray, List.set_cons_zero, List.set_cons_succ, i64_w, i32_w]
          rfl
         refine pure_ (i := 17) (N := some 2) (v := ?_) (a' := ?_) (bN 18 262143) rfl rfl (any_of HT_.out (by kernel_rfl)) (fun _ _ _ h => h) (Or.inl ⟨by rfl, ?_⟩) ?_ ?_
         rotate_left
         ·intro w'
          go_simp
          with_reducible rfl
         rotate_left
         ·simp only [Act.put, List.setIfInBounds_toArray, List.set_cons_zero, List.set_cons_succ, i64_w, i32_w]
          rfl
         refine done_ (done_of HT_.out (by kernel_rfl)) ?_
         try go_wp2
         go_ret
         exact ⟨_, sq, by (with_reducible repeat (first | apply Kd.R_alloc | apply Kd.R_drewN | apply Kd.R_drew)); exact Kd.R_mono HO181.out (fun _ hk => trivial), sb⟩
        rw [if_neg c13] at H
        exact absurd H (by simp)
       rw [if_neg c12] at H
       exact absurd H (by simp)
      rw [if_neg c11] at H
      exact absurd H (by simp)
     rw [if_neg c9] at H
     exact absurd H (by simp)
    rw [if_neg c8] at H
    exact absurd H (by simp)
   replace c7 := Bool.eq_false_iff.mpr c7
   subst c7
   rewrite [if_neg (show ¬ (false = true) by decide)] at H
   have H' := Aside0.mk H
   clear H
   go_wp2
   go_loopg [3, 4] kj1 (fun kq v3 v4 w' => ∃ (x3_2 : List (S89)) (x4_2 : Int), v4 = .int .i64 x4_2 ∧ Aside0 (spec_l24Expr.l0 kq l0 x3_2 x4_2 = some r) ∧ Aside0 (kq ≤ kj1) ∧ Aside0 (Kd.R k89 89 w' w.heap.size (fun _ => True) v3 x3_2) ∧ Aside0 (Below w.heap.size w w'))
   case atStart => exact ⟨(y163), (0), sr, H', ⟨Nat.le_refl _⟩, ⟨by exact sE HO_3.out⟩, ⟨sb⟩⟩
   case round =>
    clear H'
    try clear c1
    try clear p1
    try clear q1
    try clear hx1
    try clear qi1
    try clear p2
    try clear c5
    try clear c5b0
    try clear c5b1
    try clear c5b2
    try clear c6
    try clear c6b0
    try clear c6b1
    try clear p6
    try clear c7
    try clear c8
    try clear c8b0
    try clear c8b1
    try clear c9
    try clear c9b0
    try clear c9b1
    try clear c11
    try clear c12
    try clear c12b0
    try clear c12b1
    try clear c13
    try clear c16
    try clear p16
    try clear q16
    try clear hx16
    try clear qi16
    try clear c17
    try clear p17
    try clear q17
    try clear hx17
    try clear qi17
    try clear hx166_0
    try clear hx166_1
    try clear hx166_2
    try clear hx166_3
    try clear hx167_0
    try clear hx167_1
    try clear hx167_2
    try clear hx167_3
    try clear hx168_0
    try clear hx168_1
    try clear hx168_2
    try clear hx168_3
    try clear hx169_0
    try clear hx169_1
    try clear hx169_2
    try clear hx169_3
    try clear hx176_0
    try clear hx176_1
    try clear hx176_2
    try clear hx176_3
    try clear hx177_0
    try clear hx177_1
    try clear hx177_2
    try clear hx177_3
    try clear hx178_0
    try clear hx178_1
    try clear hx178_2
    try clear hx178_3
    try clear p1
    try clear p166
    try clear p167
    try clear p168
    try clear p169
    try clear p176
    try clear p177
    try clear p178
    try clear p2
    try clear q1
    try clear q166
    try clear q167
    try clear q168
    try clear q169
    try clear q176
    try clear q177
    try clear q178
    obtain ⟨x3_2, x4_2, rfl, HA, HK2, HO_3, HB⟩ := hrel
    cases gk with
    | zero => exact absurd HA.out (by simp [spec_l24Expr.l0])
    | succ k2 =>
     have H := HA.out
     clear HA
     simp only [spec_l24Expr.l0] at H
     by_cases c19 : 0 < (l0.length : Int)
     ·rw [if_pos c19] at H
      have c19b0 := decide_eq_true c19
      have c19b1 : decide (0 < l0.length) = true := decide_eq_true (by omega)
      clear c19
      by_cases c20 : x4_2 < (((rd_T26 l0 0).f3).length : Int)
      ·rw [if_pos c20] at H
       have c20b0 := decide_eq_true c20
       clear c20
       by_cases c21 : 0 ≤ x4_2
       ·rw [if_pos c21] at H
        have c21b0 := decide_eq_true c21
        clear c21
        obtain ⟨t185, A22, H⟩ := sO H
        by_cases c23 : x3_2.length + t185.length < 4398046511104
        ·rw [if_pos c23] at H
         have LMc23 := Aside0.mk c23
         clear c23
         obtain ⟨y188, hy188⟩ : ∃ y_ : List (S89), y_ = (x3_2 ++ t185) := ⟨_, rfl⟩
         replace H : (spec_l24Expr.l0 k2 l0 y188 (wrap64 (x4_2 + 1))) = some r := by first | (rw [hy188]; with_reducible exact H) | (have H2_ := (Option.bind_some _ _).symm.trans H; rw [hy188]; with_reducible exact H2_) | (have H2_ := (Option.bind_some _ _).symm.trans H; with_reducible exact H2_) | with_reducible exact H | (rw [hy188]; exact H) | exact H
         have Ny188 := Aside0.mk hy188
         clear hy188
         have H' := Aside0.mk H
         clear H
         have p182 : 0 ≤ (0 : Int) := (by omega)
         have q182 : 0 < (l0.length : Int) := of_decide_eq_true (by first | (with_reducible assumption) | assumption)
         obtain ⟨ad182, A182_3, c182_3, e182, hx182_0, hx182_1, hx182_2, hx182_3, hl182_3, hi182_3⟩ := at_T26 HR0.out 0 p182 q182
         cases e182
         have qi182 : (0 < l0.length) = True := eq_true (by omega)
         (try rw [sZ] at hx182_0)
         (try rw [sZ] at hx182_1)
         (try rw [sZ] at hx182_2)
         (try rw [sZ] at hx182_3)
         replace hx182_0 := sX HB hx182_0
         replace hx182_1 := sX HB hx182_1
         replace hx182_2 := sX HB hx182_2
         replace hx182_3 := sX HB hx182_3
         have HR182_3 := Aside0.mk hi182_3
         have HC182_3 := Aside0.mk hl182_3
         clear hi182_3 hl182_3
         replace p182 := eq_true p182
         replace q182 := eq_true q182
         have p183 : 0 ≤ (0 : Int) := (by omega)
         have q183 : 0 < (l0.length : Int) := of_decide_eq_true (by first | (with_reducible assumption) | assumption)
         obtain ⟨ad183, A183_3, c183_3, e183, hx183_0, hx183_1, hx183_2, hx183_3, hl183_3, hi183_3⟩ := at_T26 HR0.out 0 p183 q183
         obtain rfl : ad182 = ad183 := (by injection e183)
         have qi183 : (0 < l0.length) = True := eq_true (by omega)
         (try rw [sZ] at hx183_0)
         (try rw [sZ] at hx183_1)
         (try rw [sZ] at hx183_2)
         (try rw [sZ] at hx183_3)
         replace hx183_0 := sX HB hx183_0
         replace hx183_1 := sX HB hx183_1
         replace hx183_2 := sX HB hx183_2
         replace hx183_3 := sX HB hx183_3
         have HR183_3 := Aside0.mk hi183_3
         have HC183_3 := Aside0.mk hl183_3
         clear hi183_3 hl183_3
         replace p183 := eq_true p183
         replace q183 := eq_true q183
         have ea_ := Option.some.inj (hx182_3.symm.trans hx183_3)
         injection ea_ with ea_ en_ ec_
         subst ea_
         subst ec_
         clear en_
         have p184 : 0 ≤ (x4_2 : Int) := of_decide_eq_true (by first | (with_reducible assumption) | assumption)
         have q184 : x4_2 < (((rd_T26 l0 0).f3).length : Int) := of_decide_eq_true (by first | (with_reducible assumption) | assumption)
         obtain ⟨ad184, A184_3, c184_3, e184, hx184_0, hx184_1, hx184_2, hx184_3, hl184_3, hi184_3⟩ := at_T26 HR183_3.out x4_2 p184 q184
         cases e184
         replace hx184_0 := sX HB hx184_0
         replace hx184_1 := sX HB hx184_1
         replace hx184_2 := sX HB hx184_2
         replace hx184_3 := sX HB hx184_3
         have HR184_3 := Aside0.mk hi184_3
         have HC184_3 := Aside0.mk hl184_3
         clear hi184_3 hl184_3
         replace p184 := eq_true p184
         replace q184 := eq_true q184
         go_wp2_with (first | ((with_reducible refine gate_callee (f := 51) rfl ?_); refine goesL_ (some 59) rfl rfl Try.func51 (by kernel_rfl) rfl #[.pointer (some (ad184.add ((x4_2).toNat * 4)))] rfl (by (try simp only [List.map_toArray, List.map_cons, List.map_nil]); first | done | rfl | (simp only [List.length_drop, List.length_take]; rfl)) ?_; (with_reducible refine (ih k2 (by have := HJ1.out; have := HK2.out; omega) _ [rd_T26 ((rd_T26 l0 0).f3) x4_2] t185 _ ?side1 A22.out).mono ?_); (case side1 => first | exact (C_one (by exact sD (Kd.C_below HR183_3.out HB.out)) z26 (x4_2 : Int) (of_eq_true p184) (by have h_ := q184; first | exact of_eq_true h_ | exact h_ | exact of_decide_eq_true (by assumption))) | (have h_ := (C_one (by exact sD (Kd.C_below HR183_3.out HB.out)) z26 (x4_2 : Int) (of_eq_true p184) (by have h_ := q184; first | exact of_eq_true h_ | exact h_ | exact of_decide_eq_true (by assumption))); first | exact h_ | simpa using h_)); rintro e w24 ⟨v186, rfl, ho0, hb⟩; refine ⟨_, rfl, ?_⟩; have n0_ := Aside0.mk (Kd.R_elder' (sE HO_3.out) (Kd.R_base ho0) hb); have n1_ := Aside0.mk (Kd.R_lower (Kd.R_new' ho0 (Kd.R_lt (sE HO_3.out))) (below_size (sH HB.out))); have n2_ := sB HB hb; clear HO_3; clear HB; have HO_3 := n0_; have HO187 := n1_; have HB := n2_; clear n0_ n1_ n2_; (try clear hb); (try clear hb2); (try clear hk); (try clear hi); (try clear ho0); obtain ⟨Ao26, co26, eo26⟩ := Kd.R_slice HO187.out; subst eo26) | ((with_reducible refine gate_builtin (b := .append) (xs := #[.tmp 52, .tmp 59]) rfl ?_); at_builtin; refine Kd.R_append_rows k89 (w0 := w) w.heap.size rfl (.tmp 52) (.tmp 59) 40 89 (.agg #[(.int .i64 0), (.int .i64 0), (.string ⟨#[]⟩)]) 32 rfl Try.underlying40 info89 rfl (by decide) (by omega) u3 x3_2 t185 _ _ _ (fun k_ => some k_ ≠ (.slice Ao26 t185.length co26 : Value).ownBlock) (fun _ => False) rfl rfl ?aO ?aR (fun _ _ h => h) (fun _ h => h.elim) ?aF ?aB ?aS ?aL ?_; (case aR => exact sD ((Kd.R_reads' HO187.out).2.2)); (case aB => exact (sH HB.out)); (case aF => exact (fun k_ hk => Kd.fresh' (Kd.R_lt (sE HO187.out)) k_ hk)); (case aO => exact (by (with_reducible repeat (first | apply Kd.R_alloc | apply Kd.R_drewN | apply Kd.R_drew)); exact Kd.R_mono HO_3.out (fun _ hk => hk.2))); (case aS => exact (below_size (sH HB.out))); (case aL => have := LMc23.out; omega); intro v189 w25 ho hb hg hat; rw [← Ny188.out] at ho; have n0_ := Aside0.mk (Kd.R_after (ok := (fun _ => True)) (sE HO187.out) hg hat); have n1_ := Aside0.mk (hb); have n2_ := Aside0.mk (ho); clear HO187; clear HB; clear HO_3; have HO187 := n0_; have HB := n1_; have HO190 := n2_; clear n0_ n1_ n2_; clear ho hb hg hat))
         go_roundg k2
         case measure => have := HJ1.out; have := HK2.out; omega
         case rel => exact ⟨(y188), (wrap64 (x4_2 + 1)), sr, H', ⟨by have := HJ1.out; have := HK2.out; omega⟩, ⟨by (with_reducible repeat (first | apply Kd.R_alloc | apply Kd.R_drewN | apply Kd.R_drew)); exact Kd.R_mono HO190.out (fun _ hk => trivial)⟩, ⟨sb⟩⟩
        rw [if_neg c23] at H
        exact absurd H (by simp)
       rw [if_neg c21] at H
       exact absurd H (by simp)
      rw [if_neg c20] at H
      have c20b0 := decide_eq_false c20
      clear c20
      by_cases c27 : ((rd_T26 l0 0).f0) = 1
      ·rw [if_pos c27] at H
       have c27b0 : (((rd_T26 l0 0).f0) == 1) = true := beq_iff_eq.mpr c27
       have c27b1 : (((rd_T26 l0 0).f0) != 1) = false := bne_eq_false_iff_eq.mpr c27
       clear c27
       by_cases c28 : x3_2.length < 4398046511104
       ·rw [if_pos c28] at H
        have LMc28 := Aside0.mk c28
        clear c28
        obtain ⟨y193, hy193⟩ : ∃ y_ : List (S89), y_ = (x3_2 ++ [(⟨2, 0, (rd_T26 l0 0).f2⟩ : S89)]) := ⟨_, rfl⟩
        replace H : (some y193) = some r := by first | (rw [hy193]; with_reducible exact H) | (have H2_ := (Option.bind_some _ _).symm.trans H; rw [hy193]; with_reducible exact H2_) | (have H2_ := (Option.bind_some _ _).symm.trans H; with_reducible exact H2_) | with_reducible exact H | (rw [hy193]; exact H) | exact H
        have Ny193 := Aside0.mk hy193
        clear hy193
        obtain rfl := Option.some.inj H
        have p182 : 0 ≤ (0 : Int) := (by omega)
        have q182 : 0 < (l0.length : Int) := of_decide_eq_true (by first | (with_reducible assumption) | assumption)
        obtain ⟨ad182, A182_3, c182_3, e182, hx182_0, hx182_1, hx182_2, hx182_3, hl182_3, hi182_3⟩ := at_T26 HR0.out 0 p182 q182
        cases e182
        have qi182 : (0 < l0.length) = True := eq_true (by omega)
        (try rw [sZ] at hx182_0)
        (try rw [sZ] at hx182_1)
        (try rw [sZ] at hx182_2)
        (try rw [sZ] at hx182_3)
        replace hx182_0 := sX HB hx182_0
        replace hx182_1 := sX HB hx182_1
        replace hx182_2 := sX HB hx182_2
        replace hx182_3 := sX HB hx182_3
        have HR182_3 := Aside0.mk hi182_3
        have HC182_3 := Aside0.mk hl182_3
        clear hi182_3 hl182_3
        replace p182 := eq_true p182
        replace q182 := eq_true q182
        have p191 : 0 ≤ (0 : Int) := (by omega)
        have q191 : 0 < (l0.length : Int) := of_decide_eq_true (by first | (with_reducible assumption) | assumption)
        obtain ⟨ad191, A191_3, c191_3, e191, hx191_0, hx191_1, hx191_2, hx191_3, hl191_3, hi191_3⟩ := at_T26 HR0.out 0 p191 q191
        obtain rfl : ad182 = ad191 := (by injection e191)
        have qi191 : (0 < l0.length) = True := eq_true (by omega)
        (try rw [sZ] at hx191_0)
        (try rw [sZ] at hx191_1)
        (try rw [sZ] at hx191_2)
        (try rw [sZ] at hx191_3)
        replace hx191_0 := sX HB hx191_0
        replace hx191_1 := sX HB hx191_1
        replace hx191_2 := sX HB hx191_2
        replace hx191_3 := sX HB hx191_3
        have HR191_3 := Aside0.mk hi191_3
        have HC191_3 := Aside0.mk hl191_3
        clear hi191_3 hl191_3
        replace p191 := eq_true p191
        replace q191 := eq_true q191
        have ea_ := Option.some.inj (hx182_3.symm.trans hx191_3)
        injection ea_ with ea_ en_ ec_
        subst ea_
        subst ec_
        clear en_
        have p192 : 0 ≤ (0 : Int) := (by omega)
        have q192 : 0 < (l0.length : Int) := of_decide_eq_true (by first | (with_reducible assumption) | assumption)
        obtain ⟨ad192, A192_3, c192_3, e192, hx192_0, hx192_1, hx192_2, hx192_3, hl192_3, hi192_3⟩ := at_T26 HR0.out 0 p192 q192
        obtain rfl : ad182 = ad192 := (by injection e192)
        have qi192 : (0 < l0.length) = True := eq_true (by omega)
        (try rw [sZ] at hx192_0)
        (try rw [sZ] at hx192_1)
        (try rw [sZ] at hx192_2)
        (try rw [sZ] at hx192_3)
        replace hx192_0 := sX HB hx192_0
        replace hx192_1 := sX HB hx192_1
        replace hx192_2 := sX HB hx192_2
        replace hx192_3 := sX HB hx192_3
        have HR192_3 := Aside0.mk hi192_3
        have HC192_3 := Aside0.mk hl192_3
        clear hi192_3 hl192_3
        replace p192 := eq_true p192
        replace q192 := eq_true q192
        have ea_ := Option.some.inj (hx182_3.symm.trans hx192_3)
        injection ea_ with ea_ en_ ec_
        subst ea_
        subst ec_
        clear en_
        go_wp2_with (first | ((with_reducible refine gate_builtin (b := .append) (xs := #[.tmp 67, .tmp 73]) rfl ?_); at_builtin; refine Kd.R_append k89 (w0 := w) w.heap.size rfl (.tmp 67) (.tmp 73) 40 89 (.agg #[(.int .i64 0), (.int .i64 0), (.string ⟨#[]⟩)]) 32 rfl Try.underlying40 info89 rfl (by decide) (by omega) u3 x3_2 (⟨2, 0, (rd_T26 l0 0).f2⟩ : S89) [.int .i64 2, .int .i64 0, .string ((rd_T26 l0 0).f2)] (fun _ => True) (fun _ => False) rfl rfl ?aP (fun _ hk => hk.elim) ?aF ?aO ?aB ?aS ?aL ?_; (case aP => exact k89_mkM _ _ _ (⟨2, 0, (rd_T26 l0 0).f2⟩ : S89)); (case aB => exact (sH HB.out)); (case aF => exact (fun _ _ => trivial)); (case aO => exact (sE HO_3.out)); (case aS => exact (below_size (sH HB.out))); (case aL => have := LMc28.out; omega); intro v194 w29 ho hb hg hat; rw [← Ny193.out] at ho; have n0_ := Aside0.mk (hb); have n1_ := Aside0.mk (ho); clear HB; clear HO_3; have HB := n0_; have HO195 := n1_; clear n0_ n1_; clear ho hb hg hat))
        go_ret
        exact ⟨_, sq, by exact sE HO195.out, sb⟩
       rw [if_neg c28] at H
       exact absurd H (by simp)
      rw [if_neg c27] at H
      have c27b0 : (((rd_T26 l0 0).f0) == 1) = false := beq_eq_false_iff_ne.mpr c27
      have c27b1 : (((rd_T26 l0 0).f0) != 1) = true := bne_iff_ne.mpr c27
      by_cases c30 : ((rd_T26 l0 0).f0) = 2
      ·rw [if_pos c30] at H
       have c30b0 : (((rd_T26 l0 0).f0) == 2) = true := beq_iff_eq.mpr c30
       have c30b1 : (((rd_T26 l0 0).f0) != 2) = false := bne_eq_false_iff_eq.mpr c30
       clear c30
       by_cases c31 : x3_2.length < 4398046511104
       ·rw [if_pos c31] at H
        have LMc31 := Aside0.mk c31
        clear c31
        obtain ⟨y197, hy197⟩ : ∃ y_ : List (S89), y_ = (x3_2 ++ [(⟨3, (rd_T26 l0 0).f1, (⟨#[]⟩ : ByteArray)⟩ : S89)]) := ⟨_, rfl⟩
        replace H : (some y197) = some r := by first | (rw [hy197]; with_reducible exact H) | (have H2_ := (Option.bind_some _ _).symm.trans H; rw [hy197]; with_reducible exact H2_) | (have H2_ := (Option.bind_some _ _).symm.trans H; with_reducible exact H2_) | with_reducible exact H | (rw [hy197]; exact H) | exact H
        have Ny197 := Aside0.mk hy197
        clear hy197
        obtain rfl := Option.some.inj H
        have p182 : 0 ≤ (0 : Int) := (by omega)
        have q182 : 0 < (l0.length : Int) := of_decide_eq_true (by first | (with_reducible assumption) | assumption)
        obtain ⟨ad182, A182_3, c182_3, e182, hx182_0, hx182_1, hx182_2, hx182_3, hl182_3, hi182_3⟩ := at_T26 HR0.out 0 p182 q182
        cases e182
        have qi182 : (0 < l0.length) = True := eq_true (by omega)
        (try rw [sZ] at hx182_0)
        (try rw [sZ] at hx182_1)
        (try rw [sZ] at hx182_2)
        (try rw [sZ] at hx182_3)
        replace hx182_0 := sX HB hx182_0
        replace hx182_1 := sX HB hx182_1
        replace hx182_2 := sX HB hx182_2
        replace hx182_3 := sX HB hx182_3
        have HR182_3 := Aside0.mk hi182_3
        have HC182_3 := Aside0.mk hl182_3
        clear hi182_3 hl182_3
        replace p182 := eq_true p182
        replace q182 := eq_true q182
        have p191 : 0 ≤ (0 : Int) := (by omega)
        have q191 : 0 < (l0.length : Int) := of_decide_eq_true (by first | (with_reducible assumption) | assumption)
        obtain ⟨ad191, A191_3, c191_3, e191, hx191_0, hx191_1, hx191_2, hx191_3, hl191_3, hi191_3⟩ := at_T26 HR0.out 0 p191 q191
        obtain rfl : ad182 = ad191 := (by injection e191)
        have qi191 : (0 < l0.length) = True := eq_true (by omega)
        (try rw [sZ] at hx191_0)
        (try rw [sZ] at hx191_1)
        (try rw [sZ] at hx191_2)
        (try rw [sZ] at hx191_3)
        replace hx191_0 := sX HB hx191_0
        replace hx191_1 := sX HB hx191_1
        replace hx191_2 := sX HB hx191_2
        replace hx191_3 := sX HB hx191_3
        have HR191_3 := Aside0.mk hi191_3
        have HC191_3 := Aside0.mk hl191_3
        clear hi191_3 hl191_3
        replace p191 := eq_true p191
        replace q191 := eq_true q191
        have ea_ := Option.some.inj (hx182_3.symm.trans hx191_3)
        injection ea_ with ea_ en_ ec_
        subst ea_
        subst ec_
        clear en_
        have p196 : 0 ≤ (0 : Int) := (by omega)
        have q196 : 0 < (l0.length : Int) := of_decide_eq_true (by first | (with_reducible assumption) | assumption)
        obtain ⟨ad196, A196_3, c196_3, e196, hx196_0, hx196_1, hx196_2, hx196_3, hl196_3, hi196_3⟩ := at_T26 HR0.out 0 p196 q196
        obtain rfl : ad182 = ad196 := (by injection e196)
        have qi196 : (0 < l0.length) = True := eq_true (by omega)
        (try rw [sZ] at hx196_0)
        (try rw [sZ] at hx196_1)
        (try rw [sZ] at hx196_2)
        (try rw [sZ] at hx196_3)
        replace hx196_0 := sX HB hx196_0
        replace hx196_1 := sX HB hx196_1
        replace hx196_2 := sX HB hx196_2
        replace hx196_3 := sX HB hx196_3
        have HR196_3 := Aside0.mk hi196_3
        have HC196_3 := Aside0.mk hl196_3
        clear hi196_3 hl196_3
        replace p196 := eq_true p196
        replace q196 := eq_true q196
        have ea_ := Option.some.inj (hx182_3.symm.trans hx196_3)
        injection ea_ with ea_ en_ ec_
        subst ea_
        subst ec_
        clear en_
        go_wp2_with (first | ((with_reducible refine gate_builtin (b := .append) (xs := #[.tmp 77, .tmp 83]) rfl ?_); at_builtin; refine Kd.R_append k89 (w0 := w) w.heap.size rfl (.tmp 77) (.tmp 83) 40 89 (.agg #[(.int .i64 0), (.int .i64 0), (.string ⟨#[]⟩)]) 32 rfl Try.underlying40 info89 rfl (by decide) (by omega) u3 x3_2 (⟨3, (rd_T26 l0 0).f1, (⟨#[]⟩ : ByteArray)⟩ : S89) [.int .i64 3, .int .i64 ((rd_T26 l0 0).f1), .string (⟨#[]⟩ : ByteArray)] (fun _ => True) (fun _ => False) rfl rfl ?aP (fun _ hk => hk.elim) ?aF ?aO ?aB ?aS ?aL ?_; (case aP => exact k89_mkM _ _ _ (⟨3, (rd_T26 l0 0).f1, (⟨#[]⟩ : ByteArray)⟩ : S89)); (case aB => exact (sH HB.out)); (case aF => exact (fun _ _ => trivial)); (case aO => exact (sE HO_3.out)); (case aS => exact (below_size (sH HB.out))); (case aL => have := LMc31.out; omega); intro v198 w32 ho hb hg hat; rw [← Ny197.out] at ho; have n0_ := Aside0.mk (hb); have n1_ := Aside0.mk (ho); clear HB; clear HO_3; have HB := n0_; have HO199 := n1_; clear n0_ n1_; clear ho hb hg hat))
        go_ret
        exact ⟨_, sq, by exact sE HO199.out, sb⟩
       rw [if_neg c31] at H
       exact absurd H (by simp)
      rw [if_neg c30] at H
      have c30b0 : (((rd_T26 l0 0).f0) == 2) = false := beq_eq_false_iff_ne.mpr c30
      have c30b1 : (((rd_T26 l0 0).f0) != 2) = true := bne_iff_ne.mpr c30
      by_cases c33 : ((rd_T26 l0 0).f0) = 3
      ·rw [if_pos c33] at H
       have c33b0 : (((rd_T26 l0 0).f0) == 3) = true := beq_iff_eq.mpr c33
       have c33b1 : (((rd_T26 l0 0).f0) != 3) = false := bne_eq_false_iff_eq.mpr c33
       clear c33
       by_cases c34 : x3_2.length < 4398046511104
       ·rw [if_pos c34] at H
        have LMc34 := Aside0.mk c34
        clear c34
        obtain ⟨y201, hy201⟩ : ∃ y_ : List (S89), y_ = (x3_2 ++ [(⟨4, 0, (rd_T26 l0 0).f2⟩ : S89)]) := ⟨_, rfl⟩
        replace H : (some y201) = some r := by first | (rw [hy201]; with_reducible exact H) | (have H2_ := (Option.bind_some _ _).symm.trans H; rw [hy201]; with_reducible exact H2_) | (have H2_ := (Option.bind_some _ _).symm.trans H; with_reducible exact H2_) | with_reducible exact H | (rw [hy201]; exact H) | exact H
        have Ny201 := Aside0.mk hy201
        clear hy201
        obtain rfl := Option.some.inj H
        have p182 : 0 ≤ (0 : Int) := (by omega)
        have q182 : 0 < (l0.length : Int) := of_decide_eq_true (by first | (with_reducible assumption) | assumption)
        obtain ⟨ad182, A182_3, c182_3, e182, hx182_0, hx182_1, hx182_2, hx182_3, hl182_3, hi182_3⟩ := at_T26 HR0.out 0 p182 q182
        cases e182
        have qi182 : (0 < l0.length) = True := eq_true (by omega)
        (try rw [sZ] at hx182_0)
        (try rw [sZ] at hx182_1)
        (try rw [sZ] at hx182_2)
        (try rw [sZ] at hx182_3)
        replace hx182_0 := sX HB hx182_0
        replace hx182_1 := sX HB hx182_1
        replace hx182_2 := sX HB hx182_2
        replace hx182_3 := sX HB hx182_3
        have HR182_3 := Aside0.mk hi182_3
        have HC182_3 := Aside0.mk hl182_3
        clear hi182_3 hl182_3
        replace p182 := eq_true p182
        replace q182 := eq_true q182
        have p191 : 0 ≤ (0 : Int) := (by omega)
        have q191 : 0 < (l0.length : Int) := of_decide_eq_true (by first | (with_reducible assumption) | assumption)
        obtain ⟨ad191, A191_3, c191_3, e191, hx191_0, hx191_1, hx191_2, hx191_3, hl191_3, hi191_3⟩ := at_T26 HR0.out 0 p191 q191
        obtain rfl : ad182 = ad191 := (by injection e191)
        have qi191 : (0 < l0.length) = True := eq_true (by omega)
        (try rw [sZ] at hx191_0)
        (try rw [sZ] at hx191_1)
        (try rw [sZ] at hx191_2)
        (try rw [sZ] at hx191_3)
        replace hx191_0 := sX HB hx191_0
        replace hx191_1 := sX HB hx191_1
        replace hx191_2 := sX HB hx191_2
        replace hx191_3 := sX HB hx191_3
        have HR191_3 := Aside0.mk hi191_3
        have HC191_3 := Aside0.mk hl191_3
        clear hi191_3 hl191_3
        replace p191 := eq_true p191
        replace q191 := eq_true q191
        have ea_ := Option.some.inj (hx182_3.symm.trans hx191_3)
        injection ea_ with ea_ en_ ec_
        subst ea_
        subst ec_
        clear en_
        have p200 : 0 ≤ (0 : Int) := (by omega)
        have q200 : 0 < (l0.length : Int) := of_decide_eq_true (by first | (with_reducible assumption) | assumption)
        obtain ⟨ad200, A200_3, c200_3, e200, hx200_0, hx200_1, hx200_2, hx200_3, hl200_3, hi200_3⟩ := at_T26 HR0.out 0 p200 q200
        obtain rfl : ad182 = ad200 := (by injection e200)
        have qi200 : (0 < l0.length) = True := eq_true (by omega)
        (try rw [sZ] at hx200_0)
        (try rw [sZ] at hx200_1)
        (try rw [sZ] at hx200_2)
        (try rw [sZ] at hx200_3)
        replace hx200_0 := sX HB hx200_0
        replace hx200_1 := sX HB hx200_1
        replace hx200_2 := sX HB hx200_2
        replace hx200_3 := sX HB hx200_3
        have HR200_3 := Aside0.mk hi200_3
        have HC200_3 := Aside0.mk hl200_3
        clear hi200_3 hl200_3
        replace p200 := eq_true p200
        replace q200 := eq_true q200
        have ea_ := Option.some.inj (hx182_3.symm.trans hx200_3)
        injection ea_ with ea_ en_ ec_
        subst ea_
        subst ec_
        clear en_
        go_wp2_with (first | ((with_reducible refine gate_builtin (b := .append) (xs := #[.tmp 87, .tmp 93]) rfl ?_); at_builtin; refine Kd.R_append k89 (w0 := w) w.heap.size rfl (.tmp 87) (.tmp 93) 40 89 (.agg #[(.int .i64 0), (.int .i64 0), (.string ⟨#[]⟩)]) 32 rfl Try.underlying40 info89 rfl (by decide) (by omega) u3 x3_2 (⟨4, 0, (rd_T26 l0 0).f2⟩ : S89) [.int .i64 4, .int .i64 0, .string ((rd_T26 l0 0).f2)] (fun _ => True) (fun _ => False) rfl rfl ?aP (fun _ hk => hk.elim) ?aF ?aO ?aB ?aS ?aL ?_; (case aP => exact k89_mkM _ _ _ (⟨4, 0, (rd_T26 l0 0).f2⟩ : S89)); (case aB => exact (sH HB.out)); (case aF => exact (fun _ _ => trivial)); (case aO => exact (sE HO_3.out)); (case aS => exact (below_size (sH HB.out))); (case aL => have := LMc34.out; omega); intro v202 w35 ho hb hg hat; rw [← Ny201.out] at ho; have n0_ := Aside0.mk (hb); have n1_ := Aside0.mk (ho); clear HB; clear HO_3; have HB := n0_; have HO203 := n1_; clear n0_ n1_; clear ho hb hg hat))
        go_ret
        exact ⟨_, sq, by exact sE HO203.out, sb⟩
       rw [if_neg c34] at H
       exact absurd H (by simp)
      rw [if_neg c33] at H
      have c33b0 : (((rd_T26 l0 0).f0) == 3) = false := beq_eq_false_iff_ne.mpr c33
      have c33b1 : (((rd_T26 l0 0).f0) != 3) = true := bne_iff_ne.mpr c33
      have HC36 := Aside0.mk H
      clear H
      have p182 : 0 ≤ (0 : Int) := (by omega)
      have q182 : 0 < (l0.length : Int) := of_decide_eq_true (by first | (with_reducible assumption) | assumption)
      obtain ⟨ad182, A182_3, c182_3, e182, hx182_0, hx182_1, hx182_2, hx182_3, hl182_3, hi182_3⟩ := at_T26 HR0.out 0 p182 q182
      cases e182
      have qi182 : (0 < l0.length) = True := eq_true (by omega)
      (try rw [sZ] at hx182_0)
      (try rw [sZ] at hx182_1)
      (try rw [sZ] at hx182_2)
      (try rw [sZ] at hx182_3)
      replace hx182_0 := sX HB hx182_0
      replace hx182_1 := sX HB hx182_1
      replace hx182_2 := sX HB hx182_2
      replace hx182_3 := sX HB hx182_3
      have HR182_3 := Aside0.mk hi182_3
      have HC182_3 := Aside0.mk hl182_3
      clear hi182_3 hl182_3
      replace p182 := eq_true p182
      replace q182 := eq_true q182
      have p191 : 0 ≤ (0 : Int) := (by omega)
      have q191 : 0 < (l0.length : Int) := of_decide_eq_true (by first | (with_reducible assumption) | assumption)
      obtain ⟨ad191, A191_3, c191_3, e191, hx191_0, hx191_1, hx191_2, hx191_3, hl191_3, hi191_3⟩ := at_T26 HR0.out 0 p191 q191
      obtain rfl : ad182 = ad191 := (by injection e191)
      have qi191 : (0 < l0.length) = True := eq_true (by omega)
      (try rw [sZ] at hx191_0)
      (try rw [sZ] at hx191_1)
      (try rw [sZ] at hx191_2)
      (try rw [sZ] at hx191_3)
      replace hx191_0 := sX HB hx191_0
      replace hx191_1 := sX HB hx191_1
      replace hx191_2 := sX HB hx191_2
      replace hx191_3 := sX HB hx191_3
      have HR191_3 := Aside0.mk hi191_3
      have HC191_3 := Aside0.mk hl191_3
      clear hi191_3 hl191_3
      replace p191 := eq_true p191
      replace q191 := eq_true q191
      have ea_ := Option.some.inj (hx182_3.symm.trans hx191_3)
      injection ea_ with ea_ en_ ec_
      subst ea_
      subst ec_
      clear en_
      go_upto_if 95 with (fail)
      go_cut [95] (fun v95 wc => ∃ (kq : Nat) (x95_35 : Bool), v95 = .bool x95_35 ∧ Aside0 (spec_l24Expr.j2 kq l0 x3_2 ((rd_T26 l0 0).f0) x95_35 = some r) ∧ Aside0 (kq ≤ k2) ∧ Aside0 (Kd.R k89 89 wc w.heap.size (fun _ => True) u3 x3_2) ∧ Aside0 (Below w.heap.size w wc))
      case first =>
       have H := HC36.out
       clear HC36
       by_cases c37 : ((rd_T26 l0 0).f0) = 16
       ·rw [if_pos c37] at H
        have c37b0 : (((rd_T26 l0 0).f0) == 16) = true := beq_iff_eq.mpr c37
        have c37b1 : (((rd_T26 l0 0).f0) != 16) = false := bne_eq_false_iff_eq.mpr c37
        clear c37
        (first | rw [c37b0] | (simp only [i64_w, i32_w]; rw [c37b0]) | rw [c37b2] | skip)
        have H' := Aside0.mk H
        clear H
        go_wp2
        go_meet
        case rel => exact ⟨_, ((((rd_T26 l0 0).f0) == 16)), sr, H', ⟨by have := HJ1.out; have := HK2.out; first | omega | exact Nat.le_refl _⟩, ⟨by exact sE HO_3.out⟩, ⟨sb⟩⟩
       rw [if_neg c37] at H
       have c37b0 : (((rd_T26 l0 0).f0) == 16) = false := beq_eq_false_iff_ne.mpr c37
       have c37b1 : (((rd_T26 l0 0).f0) != 16) = true := bne_iff_ne.mpr c37
       (first | rw [c37b0] | (simp only [i64_w, i32_w]; rw [c37b0]) | rw [c37b2] | skip)
       by_cases c38 : ((rd_T26 l0 0).f0) = 17
       ·rw [if_pos c38] at H
        have c38b0 : (((rd_T26 l0 0).f0) == 17) = true := beq_iff_eq.mpr c38
        have c38b1 : (((rd_T26 l0 0).f0) != 17) = false := bne_eq_false_iff_eq.mpr c38
        clear c38
        have H' := Aside0.mk H
        clear H
        go_wp2
        go_meet
        case rel => exact ⟨_, ((((rd_T26 l0 0).f0) == 17)), sr, H', ⟨by have := HJ1.out; have := HK2.out; first | omega | exact Nat.le_refl _⟩, ⟨by exact sE HO_3.out⟩, ⟨sb⟩⟩
       rw [if_neg c38] at H
       have c38b0 : (((rd_T26 l0 0).f0) == 17) = false := beq_eq_false_iff_ne.mpr c38
       have c38b1 : (((rd_T26 l0 0).f0) != 17) = true := bne_iff_ne.mpr c38
       have H' := Aside0.mk H
       clear H
       go_wp2
       go_meet
       case rel => exact ⟨_, ((((rd_T26 l0 0).f0) == 18)), sr, H', ⟨by have := HJ1.out; have := HK2.out; first | omega | exact Nat.le_refl _⟩, ⟨by exact sE HO_3.out⟩, ⟨sb⟩⟩
      case rest =>
       clear HC36
       try clear c1
       try clear p1
       try clear q1
       try clear hx1
       try clear qi1
       try clear c2
       try clear p2
       try clear q2
       try clear hx2
       try clear qi2
       try clear c3
       try clear c5
       try clear p6
       try clear c16
       try clear p16
       try clear q16
       try clear hx16
       try clear qi16
       try clear c17
       try clear p17
       try clear q17
       try clear hx17
       try clear qi17
       try clear c18
       try clear p18
       try clear q18
       try clear hx18
       try clear qi18
       try clear c19
       try clear c19b0
       try clear c19b1
       try clear p19
       try clear q19
       try clear hx19
       try clear qi19
       try clear c20
       try clear c20b0
       try clear p20
       try clear q20
       try clear hx20
       try clear qi20
       try clear c21
       try clear c21b0
       try clear c23
       try clear c27
       try clear c27b0
       try clear c27b1
       try clear c28
       try clear c30
       try clear c30b0
       try clear c30b1
       try clear c31
       try clear c33
       try clear c33b0
       try clear c33b1
       try clear c34
       try clear c37
       try clear c37b0
       try clear c37b1
       try clear c37b2
       try clear c38
       try clear c38b0
       try clear c38b1
       try clear hx166_0
       try clear hx166_1
       try clear hx166_2
       try clear hx166_3
       try clear hx167_0
       try clear hx167_1
       try clear hx167_2
       try clear hx167_3
       try clear hx168_0
       try clear hx168_1
       try clear hx168_2
       try clear hx168_3
       try clear hx169_0
       try clear hx169_1
       try clear hx169_2
       try clear hx169_3
       try clear hx176_0
       try clear hx176_1
       try clear hx176_2
       try clear hx176_3
       try clear hx177_0
       try clear hx177_1
       try clear hx177_2
       try clear hx177_3
       try clear hx178_0
       try clear hx178_1
       try clear hx178_2
       try clear hx178_3
       try clear hx182_0
       try clear hx182_1
       try clear hx182_2
       try clear hx182_3
       try clear hx183_0
       try clear hx183_1
       try clear hx183_2
       try clear hx183_3
       try clear hx184_0
       try clear hx184_1
       try clear hx184_2
       try clear hx184_3
       try clear hx191_0
       try clear hx191_1
       try clear hx191_2
       try clear hx191_3
       try clear hx192_0
       try clear hx192_1
       try clear hx192_2
       try clear hx192_3
       try clear hx196_0
       try clear hx196_1
       try clear hx196_2
       try clear hx196_3
       try clear hx200_0
       try clear hx200_1
       try clear hx200_2
       try clear hx200_3
       try clear p1
       try clear p16
       try clear p166
       try clear p167
       try clear p168
       try clear p169
       try clear p17
       try clear p176
       try clear p177
       try clear p178
       try clear p182
       try clear p183
       try clear p184
       try clear p191
       try clear p192
       try clear p196
       try clear p2
       try clear p200
       try clear q1
       try clear q16
       try clear q166
       try clear q167
       try clear q168
       try clear q169
       try clear q17
       try clear q176
       try clear q177
       try clear q178
       try clear q182
       try clear q183
       try clear q184
       try clear q191
       try clear q192
       try clear q196
       try clear q200
       obtain ⟨kq, x95_35, rfl, HA, HJ35, HO_3, HB⟩ := hcut
       cases kq with
       | zero => exact absurd HA.out (by simp [spec_l24Expr.j2])
       | succ kj35 =>
        have H := HA.out
        clear HA
        simp only [spec_l24Expr.j2] at H
        by_cases c39 : x95_35 = true
        ·subst c39
         rewrite [if_pos rfl] at H
         by_cases c40 : 0 < (l0.length : Int)
         ·rw [if_pos c40] at H
          have c40b0 := decide_eq_true c40
          have c40b1 : decide (0 < l0.length) = true := decide_eq_true (by omega)
          clear c40
          by_cases c41 : x3_2.length < 4398046511104
          ·rw [if_pos c41] at H
           have LMc41 := Aside0.mk c41
           clear c41
           obtain ⟨y206, hy206⟩ : ∃ y_ : List (S89), y_ = (x3_2 ++ [(⟨wrap64 ((wrap64 (5 + ((rd_T26 l0 0).f0))) - 16), 0, (rd_T26 l0 0).f2⟩ : S89)]) := ⟨_, rfl⟩
           replace H : (some y206) = some r := by first | (rw [hy206]; with_reducible exact H) | (have H2_ := (Option.bind_some _ _).symm.trans H; rw [hy206]; with_reducible exact H2_) | (have H2_ := (Option.bind_some _ _).symm.trans H; with_reducible exact H2_) | with_reducible exact H | (rw [hy206]; exact H) | exact H
           have Ny206 := Aside0.mk hy206
           clear hy206
           obtain rfl := Option.some.inj H
           try go_wp2
           have n0_ := Aside0.mk (Kd.R_drew HO_3.out)
           have n1_ := Aside0.mk (below_drew1 HB.out)
           clear HO_3
           clear HB
           have HO_3 := n0_
           have HB := n1_
           clear n0_ n1_
           have p204 : 0 ≤ (0 : Int) := (by omega)
           have q204 : 0 < (l0.length : Int) := of_decide_eq_true (by first | (with_reducible assumption) | assumption)
           obtain ⟨ad204, A204_3, c204_3, e204, hx204_0, hx204_1, hx204_2, hx204_3, hl204_3, hi204_3⟩ := at_T26 HR0.out 0 p204 q204
           have hw204_3 := hx204_3
           (try rw [sZ] at hw204_3)
           have hw204_2 := hx204_2
           (try rw [sZ] at hw204_2)
           have hw204_1 := hx204_1
           (try rw [sZ] at hw204_1)
           have hw204_0 := hx204_0
           (try rw [sZ] at hw204_0)
           obtain rfl : ad182 = ad204 := (by injection e204)
           have qi204 : (0 < l0.length) = True := eq_true (by omega)
           (try rw [sZ] at hx204_0)
           (try rw [sZ] at hx204_1)
           (try rw [sZ] at hx204_2)
           (try rw [sZ] at hx204_3)
           replace hx204_0 := sX HB hx204_0
           replace hx204_1 := sX HB hx204_1
           replace hx204_2 := sX HB hx204_2
           replace hx204_3 := sX HB hx204_3
           have HR204_3 := Aside0.mk hi204_3
           have HC204_3 := Aside0.mk hl204_3
           clear hi204_3 hl204_3
           replace p204 := eq_true p204
           replace q204 := eq_true q204
           have p205 : 0 ≤ (0 : Int) := (by omega)
           have q205 : 0 < (l0.length : Int) := of_decide_eq_true (by first | (with_reducible assumption) | assumption)
           obtain ⟨ad205, A205_3, c205_3, e205, hx205_0, hx205_1, hx205_2, hx205_3, hl205_3, hi205_3⟩ := at_T26 HR0.out 0 p205 q205
           have hw205_3 := hx205_3
           (try rw [sZ] at hw205_3)
           have hw205_2 := hx205_2
           (try rw [sZ] at hw205_2)
           have hw205_1 := hx205_1
           (try rw [sZ] at hw205_1)
           have hw205_0 := hx205_0
           (try rw [sZ] at hw205_0)
           obtain rfl : ad182 = ad205 := (by injection e205)
           have qi205 : (0 < l0.length) = True := eq_true (by omega)
           (try rw [sZ] at hx205_0)
           (try rw [sZ] at hx205_1)
           (try rw [sZ] at hx205_2)
           (try rw [sZ] at hx205_3)
           replace hx205_0 := sX HB hx205_0
           replace hx205_1 := sX HB hx205_1
           replace hx205_2 := sX HB hx205_2
           replace hx205_3 := sX HB hx205_3
           have HR205_3 := Aside0.mk hi205_3
           have HC205_3 := Aside0.mk hl205_3
           clear hi205_3 hl205_3
           replace p205 := eq_true p205
           replace q205 := eq_true q205
           have ea_ := Option.some.inj (hx204_3.symm.trans hx205_3)
           injection ea_ with ea_ en_ ec_
           subst ea_
           subst ec_
           clear en_
           refine start_ (n := 15) (S := fun w' => w'.cell? ad182 = some (.int .i64 ((rd_T26 l0 0).f0)) ∧ w'.cell? ⟨ad182.block, ad182.off + 1, none⟩ = some (.int .i64 ((rd_T26 l0 0).f1)) ∧ w'.cell? ⟨ad182.block, ad182.off + 2, none⟩ = some (.string ((rd_T26 l0 0).f2)) ∧ w'.cell? ⟨ad182.block, ad182.off + 3, none⟩ = some (.slice A204_3 ((rd_T26 l0 0).f3).length c204_3) ∧ w'.cell? ad182 = some (.int .i64 ((rd_T26 l0 0).f0)) ∧ w'.cell? ⟨ad182.block, ad182.off + 1, none⟩ = some (.int .i64 ((rd_T26 l0 0).f1)) ∧ w'.cell? ⟨ad182.block, ad182.off + 2, none⟩ = some (.string ((rd_T26 l0 0).f2)) ∧ w'.cell? ⟨ad182.block, ad182.off + 3, none⟩ = some (.slice A204_3 ((rd_T26 l0 0).f3).length c204_3)) (ds := []) #[false, false, false, false, false, false, false, false, false, false, false, false, false, false, false] (by kernel_rfl) rfl rfl ⟨((HB.out.cell (World.block_lt_of_cell? w _ hw204_0)).trans hw204_0), ((HB.out.cell (World.block_lt_of_cell? w _ hw204_1)).trans hw204_1), ((HB.out.cell (World.block_lt_of_cell? w _ hw204_2)).trans hw204_2), ((HB.out.cell (World.block_lt_of_cell? w _ hw204_3)).trans hw204_3), ((HB.out.cell (World.block_lt_of_cell? w _ hw205_0)).trans hw205_0), ((HB.out.cell (World.block_lt_of_cell? w _ hw205_1)).trans hw205_1), ((HB.out.cell (World.block_lt_of_cell? w _ hw205_2)).trans hw205_2), ((HB.out.cell (World.block_lt_of_cell? w _ hw205_3)).trans hw205_3)⟩ (fun hHeld => ?_); refine with_tabW spec_l24Expr.tab19 spec_l24Expr.bits19 (fun HT_ HW_ => ?_)
           generalize wc.drew = w42 at HO_3 HB HR204_3 HR205_3 hx204_0 hx204_1 hx204_2 hx204_3 hx205_0 hx205_1 hx205_2 hx205_3 hHeld ⊢
           refine pure_ (i := 0) (N := some 99) (v := ?_) (a' := ?_) (bN 15 1) rfl rfl (any_of HT_.out (by kernel_rfl)) (fun _ _ _ h => h) (Or.inl ⟨by rfl, ?_⟩) ?_ ?_
           rotate_left
           ·intro w'
            go_simp
            with_reducible rfl
           rotate_left
           ·simp only [Act.put, List.setIfInBounds_toArray, List.set_cons_zero, List.set_cons_succ, i64_w, i32_w]
            rfl
           refine pure_ (i := 1) (N := some 100) (v := ?_) (a' := ?_) (bN 15 3) rfl rfl (any_of HT_.out (by kernel_rfl)) (fun _ _ _ h => h) (Or.inl ⟨by rfl, ?_⟩) ?_ ?_
           rotate_left
           ·intro w'
            go_simp
            with_reducible rfl
           rotate_left
           ·simp only [Act.put, List.setIfInBounds_toArray, List.set_cons_zero, List.set_cons_succ, i64_w, i32_w]
            rfl
           refine pure_ (i := 2) (N := some 101) (v := ?_) (a' := ?_) (bN 15 7) rfl rfl (any_of HT_.out (by kernel_rfl)) (fun _ _ _ h => h) (Or.inl ⟨by rfl, ?_⟩) ?_ ?_
           rotate_left
           ·intro w'
            go_simp
            with_reducible rfl
           rotate_left
           ·simp only [Act.put, List.setIfInBounds_toArray, List.set_cons_zero, List.set_cons_succ, i64_w, i32_w]
            rfl
           refine pure_ (i := 3) (N := some 102) (v := ?_) (a' := ?_) (bN 15 15) rfl rfl (any_of HT_.out (by kernel_rfl)) (fun _ _ _ h => h) (Or.inl ⟨by rfl, ?_⟩) ?_ ?_
           rotate_left
           ·intro w'
            go_simp
            with_reducible rfl
           rotate_left
           ·simp only [Act.put, List.setIfInBounds_toArray, List.set_cons_zero, List.set_cons_succ, i64_w, i32_w]
            rfl
           refine pure_ (i := 7) (N := some 106) (v := ?_) (a' := ?_) (bN 15 143) rfl rfl (any_of HT_.out (by kernel_rfl)) (fun _ _ _ h => h) (Or.inl ⟨by rfl, ?_⟩) ?_ ?_
           rotate_left
           ·intro w'
            go_simp
            with_reducible rfl
           rotate_left
           ·simp only [Act.put, List.setIfInBounds_toArray, List.set_cons_zero, List.set_cons_succ, i64_w, i32_w]
            rfl
           refine pure_ (i := 8) (N := some 107) (v := ?_) (a' := ?_) (bN 15 399) rfl rfl (any_of HT_.out (by kernel_rfl)) (fun _ _ _ h => h) (Or.inl ⟨by rfl, ?_⟩) ?_ ?_
           rotate_left
           ·intro w'
            go_simp
            with_reducible rfl
           rotate_left
           ·simp only [Act.put, List.setIfInBounds_toArray, List.set_cons_zero, List.set_cons_succ, i64_w, i32_w]
            rfl
           refine pure_ (i := 9) (N := some 108) (v := ?_) (a' := ?_) (bN 15 911) rfl rfl (any_of HT_.out (by kernel_rfl)) (fun _ _ _ h => h) (Or.inl ⟨by rfl, ?_⟩) ?_ ?_
           rotate_left
           ·intro w'
            go_simp
            with_reducible rfl
           rotate_left
           ·simp only [Act.put, List.setIfInBounds_toArray, List.set_cons_zero, List.set_cons_succ, i64_w, i32_w]
            rfl
           refine take_ (i := 4) (N := some 103) (v := ?_) (a' := ?_) (bN 15 927) rfl rfl (take_ofW HT_.out HW_.out (by kernel_rfl)) (fun _ _ _ h => h) (Or.inl ⟨by rfl, ?_⟩) hHeld ?_ ?_
           rotate_left
           ·rintro w' ⟨s0, s1, s2, s3, s4, s5, s6, s7⟩
            go_simp
            with_reducible rfl
           rotate_left
           ·simp only [Act.put, List.setIfInBounds_toArray, List.set_cons_zero, List.set_cons_succ, i64_w, i32_w]
            rfl
           refine pure_ (i := 5) (N := some 104) (v := ?_) (a' := ?_) (bN 15 959) rfl rfl (any_of HT_.out (by kernel_rfl)) (fun _ _ _ h => h) (Or.inl ⟨by rfl, ?_⟩) ?_ ?_
           rotate_left
           ·intro w'
            go_simp
            with_reducible rfl
           rotate_left
           ·simp only [Act.put, List.setIfInBounds_toArray, List.set_cons_zero, List.set_cons_succ, i64_w, i32_w]
            rfl
           refine pure_ (i := 6) (N := some 105) (v := ?_) (a' := ?_) (bN 15 1023) rfl rfl (any_of HT_.out (by kernel_rfl)) (fun _ _ _ h => h) (Or.inl ⟨by rfl, ?_⟩) ?_ ?_
           rotate_left
           ·intro w'
            go_simp
            with_reducible rfl
           rotate_left
           ·simp only [Act.put, List.setIfInBounds_toArray, List.set_cons_zero, List.set_cons_succ, i64_w, i32_w]
            rfl
           refine take_ (i := 10) (N := some 109) (v := ?_) (a' := ?_) (bN 15 2047) rfl rfl (take_ofW HT_.out HW_.out (by kernel_rfl)) (fun _ _ _ h => h) (Or.inl ⟨by rfl, ?_⟩) hHeld ?_ ?_
           rotate_left
           ·rintro w' ⟨s0, s1, s2, s3, s4, s5, s6, s7⟩
            go_simp
            with_reducible rfl
           rotate_left
           ·simp only [Act.put, List.setIfInBounds_toArray, List.set_cons_zero, List.set_cons_succ, i64_w, i32_w]
            rfl
           refine pure_ (i := 11) (N := some 110) (v := ?_) (a' := ?_) (bN 15 4095) rfl rfl (any_of HT_.out (by kernel_rfl)) (fun _ _ _ h => h) (Or.inl ⟨by rfl, ?_⟩) ?_ ?_
           rotate_left
           ·intro w'
            go_simp
            with_reducible rfl
           rotate_left
           ·simp only [Act.put, List.setIfInBounds_toArray, List.set_cons_zero, List.set_cons_succ, i64_w, i32_w]
            rfl
           refine one_ (i := 12) (N := some 111) (bN 15 8191) rfl rfl (one_of HT_.out (by kernel_rfl)) (by decide) (fun K hK => ?_)
           refine value_ (w1 := ?_) (v := ?_) (by rfl) rfl ?_ ?_
           rotate_left 2
           ·go_simp
            constructor
            ·rfl
            ·rfl
           refine hK.out _ _ ⟨(World.cell?_alloc_lt _ _ _ (World.block_lt_of_cell? _ _ (((HB.out.cell (World.block_lt_of_cell? w _ hw204_0)).trans hw204_0)))).trans (((HB.out.cell (World.block_lt_of_cell? w _ hw204_0)).trans hw204_0)), (World.cell?_alloc_lt _ _ _ (World.block_lt_of_cell? _ _ (((HB.out.cell (World.block_lt_of_cell? w _ hw204_1)).trans hw204_1)))).trans (((HB.out.cell (World.block_lt_of_cell? w _ hw204_1)).trans hw204_1)), (World.cell?_alloc_lt _ _ _ (World.block_lt_of_cell? _ _ (((HB.out.cell (World.block_lt_of_cell? w _ hw204_2)).trans hw204_2)))).trans (((HB.out.cell (World.block_lt_of_cell? w _ hw204_2)).trans hw204_2)), (World.cell?_alloc_lt _ _ _ (World.block_lt_of_cell? _ _ (((HB.out.cell (World.block_lt_of_cell? w _ hw204_3)).trans hw204_3)))).trans (((HB.out.cell (World.block_lt_of_cell? w _ hw204_3)).trans hw204_3)), (World.cell?_alloc_lt _ _ _ (World.block_lt_of_cell? _ _ (((HB.out.cell (World.block_lt_of_cell? w _ hw205_0)).trans hw205_0)))).trans (((HB.out.cell (World.block_lt_of_cell? w _ hw205_0)).trans hw205_0)), (World.cell?_alloc_lt _ _ _ (World.block_lt_of_cell? _ _ (((HB.out.cell (World.block_lt_of_cell? w _ hw205_1)).trans hw205_1)))).trans (((HB.out.cell (World.block_lt_of_cell? w _ hw205_1)).trans hw205_1)), (World.cell?_alloc_lt _ _ _ (World.block_lt_of_cell? _ _ (((HB.out.cell (World.block_lt_of_cell? w _ hw205_2)).trans hw205_2)))).trans (((HB.out.cell (World.block_lt_of_cell? w _ hw205_2)).trans hw205_2)), (World.cell?_alloc_lt _ _ _ (World.block_lt_of_cell? _ _ (((HB.out.cell (World.block_lt_of_cell? w _ hw205_3)).trans hw205_3)))).trans (((HB.out.cell (World.block_lt_of_cell? w _ hw205_3)).trans hw205_3))⟩ (fun hHeld => ?_)
           clear hK K
           refine norm_ (a' := ?_) ?_ ?_
           rotate_left
           ·show Act.put _ (some 111) _ = _
            simp only [Act.put, List.setIfInBounds_toArray, List.set_cons_zero, List.set_cons_succ, i64_w, i32_w]
            rfl
           refine one_ (i := 13) (N := some 112) (bN 15 16383) rfl rfl (one_of HT_.out (by kernel_rfl)) (by decide) (fun K hK => ?_)
           refine Kd.R_append_step k89 (w0 := w) w.heap.size (by rfl) (.tmp 99) (.tmp 111) 40 89 (.agg #[(.int .i64 0), (.int .i64 0), (.string ⟨#[]⟩)]) 32 rfl Try.underlying40 info89 rfl (by decide) (by omega) u3 x3_2 (⟨wrap64 ((wrap64 (5 + ((rd_T26 l0 0).f0))) - 16), 0, (rd_T26 l0 0).f2⟩ : S89) [.int .i64 (wrap64 ((wrap64 (5 + ((rd_T26 l0 0).f0))) - 16)), .int .i64 0, .string ((rd_T26 l0 0).f2)] (fun _ => True) (fun _ => False) rfl rfl ?aP (fun _ hk => hk.elim) ?aF ?aO ?aB ?aS ?aL ?_
           (case aP => exact k89_mkM _ _ _ (⟨wrap64 ((wrap64 (5 + ((rd_T26 l0 0).f0))) - 16), 0, (rd_T26 l0 0).f2⟩ : S89))
           (case aB => exact (sH HB.out))
           (case aF => exact (fun _ _ => trivial))
           (case aO => exact (sE HO_3.out))
           (case aS => exact (below_size (sH HB.out)))
           (case aL => have := LMc41.out; omega)
           intro v207 w43 ho hb hg hat
           rw [← Ny206.out] at ho
           have n0_ := Aside0.mk (hb)
           have n1_ := Aside0.mk (ho)
           clear HB
           clear HO_3
           have HB := n0_
           have HO208 := n1_
           clear n0_ n1_
           clear ho hb hg hat
           refine hK.out _ _ ⟨((HB.out.cell (World.block_lt_of_cell? w _ hw204_0)).trans hw204_0), ((HB.out.cell (World.block_lt_of_cell? w _ hw204_1)).trans hw204_1), ((HB.out.cell (World.block_lt_of_cell? w _ hw204_2)).trans hw204_2), ((HB.out.cell (World.block_lt_of_cell? w _ hw204_3)).trans hw204_3), ((HB.out.cell (World.block_lt_of_cell? w _ hw205_0)).trans hw205_0), ((HB.out.cell (World.block_lt_of_cell? w _ hw205_1)).trans hw205_1), ((HB.out.cell (World.block_lt_of_cell? w _ hw205_2)).trans hw205_2), ((HB.out.cell (World.block_lt_of_cell? w _ hw205_3)).trans hw205_3)⟩ (fun hHeld => ?_)
           clear hK K
           refine norm_ (a' := ?_) ?_ ?_
           rotate_left
           ·show Act.put _ (some 112) _ = _
            simp only [Act.put, List.setIfInBounds_toArray, List.set_cons_zero, List.set_cons_succ, i64_w, i32_w]
            rfl
           refine pure_ (i := 14) (N := some 2) (v := ?_) (a' := ?_) (bN 15 32767) rfl rfl (any_of HT_.out (by kernel_rfl)) (fun _ _ _ h => h) (Or.inl ⟨by rfl, ?_⟩) ?_ ?_
           rotate_left
           ·intro w'
            go_simp
            with_reducible rfl
           rotate_left
           ·simp only [Act.put, List.setIfInBounds_toArray, List.set_cons_zero, List.set_cons_succ, i64_w, i32_w]
            rfl
           refine done_ (done_of HT_.out (by kernel_rfl)) ?_
           try go_wp2
           go_ret
           exact ⟨_, sq, by exact sE HO208.out, sb⟩
          rw [if_neg c41] at H
          exact absurd H (by simp)
         rw [if_neg c40] at H
         exact absurd H (by simp)
        replace c39 := Bool.eq_false_iff.mpr c39
        subst c39
        rewrite [if_neg (show ¬ (false = true) by decide)] at H
        have HC44 := Aside0.mk H
        clear H
        go_upto_if 113 with (fail)
        go_cut [113] (fun v113 wc => ∃ (kq : Nat) (x113_43 : Bool), v113 = .bool x113_43 ∧ Aside0 (spec_l24Expr.j3 kq l0 x3_2 ((rd_T26 l0 0).f0) x113_43 = some r) ∧ Aside0 (kq ≤ kj35) ∧ Aside0 (Kd.R k89 89 wc w.heap.size (fun _ => True) u3 x3_2) ∧ Aside0 (Below w.heap.size w wc))
        case first =>
         have H := HC44.out
         clear HC44
         by_cases c45 : ((rd_T26 l0 0).f0) = 14
         ·rw [if_pos c45] at H
          have c45b0 : (((rd_T26 l0 0).f0) == 14) = true := beq_iff_eq.mpr c45
          have c45b1 : (((rd_T26 l0 0).f0) != 14) = false := bne_eq_false_iff_eq.mpr c45
          clear c45
          (first | rw [c45b0] | (simp only [i64_w, i32_w]; rw [c45b0]) | rw [c45b2] | skip)
          have H' := Aside0.mk H
          clear H
          go_wp2
          go_meet
          case rel => exact ⟨_, ((((rd_T26 l0 0).f0) == 14)), sr, H', ⟨by have := HJ1.out; have := HK2.out; have := HJ35.out; first | omega | exact Nat.le_refl _⟩, ⟨by exact sE HO_3.out⟩, ⟨sb⟩⟩
         rw [if_neg c45] at H
         have c45b0 : (((rd_T26 l0 0).f0) == 14) = false := beq_eq_false_iff_ne.mpr c45
         have c45b1 : (((rd_T26 l0 0).f0) != 14) = true := bne_iff_ne.mpr c45
         (first | rw [c45b0] | (simp only [i64_w, i32_w]; rw [c45b0]) | rw [c45b2] | skip)
         have H' := Aside0.mk H
         clear H
         go_wp2
         go_meet
         case rel => exact ⟨_, ((((rd_T26 l0 0).f0) == 15)), sr, H', ⟨by have := HJ1.out; have := HK2.out; have := HJ35.out; first | omega | exact Nat.le_refl _⟩, ⟨by exact sE HO_3.out⟩, ⟨sb⟩⟩
        case rest =>
         clear HC44
         try clear c1
         try clear p1
         try clear q1
         try clear hx1
         try clear qi1
         try clear c2
         try clear p2
         try clear q2
         try clear hx2
         try clear qi2
         try clear c3
         try clear c4
         try clear c5
         try clear p6
         try clear c16
         try clear p16
         try clear q16
         try clear hx16
         try clear qi16
         try clear c17
         try clear p17
         try clear q17
         try clear hx17
         try clear qi17
         try clear c18
         try clear p18
         try clear q18
         try clear hx18
         try clear qi18
         try clear c19
         try clear c19b0
         try clear c19b1
         try clear p19
         try clear q19
         try clear hx19
         try clear qi19
         try clear c20
         try clear c20b0
         try clear p20
         try clear q20
         try clear hx20
         try clear qi20
         try clear c21
         try clear c21b0
         try clear c23
         try clear c27
         try clear c27b0
         try clear c27b1
         try clear c28
         try clear c30
         try clear c30b0
         try clear c30b1
         try clear c31
         try clear c33
         try clear c33b0
         try clear c33b1
         try clear c34
         try clear c37
         try clear c37b0
         try clear c37b1
         try clear c37b2
         try clear c38
         try clear c38b0
         try clear c38b1
         try clear c39
         try clear c40
         try clear c40b0
         try clear c40b1
         try clear c41
         try clear c45
         try clear c45b0
         try clear c45b1
         try clear c45b2
         try clear hx166_0
         try clear hx166_1
         try clear hx166_2
         try clear hx166_3
         try clear hx167_0
         try clear hx167_1
         try clear hx167_2
         try clear hx167_3
         try clear hx168_0
         try clear hx168_1
         try clear hx168_2
         try clear hx168_3
         try clear hx169_0
         try clear hx169_1
         try clear hx169_2
         try clear hx169_3
         try clear hx176_0
         try clear hx176_1
         try clear hx176_2
         try clear hx176_3
         try clear hx177_0
         try clear hx177_1
         try clear hx177_2
         try clear hx177_3
         try clear hx178_0
         try clear hx178_1
         try clear hx178_2
         try clear hx178_3
         try clear hx182_0
         try clear hx182_1
         try clear hx182_2
         try clear hx182_3
         try clear hx183_0
         try clear hx183_1
         try clear hx183_2
         try clear hx183_3
         try clear hx184_0
         try clear hx184_1
         try clear hx184_2
         try clear hx184_3
         try clear hx191_0
         try clear hx191_1
         try clear hx191_2
         try clear hx191_3
         try clear hx192_0
         try clear hx192_1
         try clear hx192_2
         try clear hx192_3
         try clear hx196_0
         try clear hx196_1
         try clear hx196_2
         try clear hx196_3
         try clear hx200_0
         try clear hx200_1
         try clear hx200_2
         try clear hx200_3
         try clear hx204_0
         try clear hx204_1
         try clear hx204_2
         try clear hx204_3
         try clear hx205_0
         try clear hx205_1
         try clear hx205_2
         try clear hx205_3
         try clear p1
         try clear p16
         try clear p166
         try clear p167
         try clear p168
         try clear p169
         try clear p17
         try clear p176
         try clear p177
         try clear p178
         try clear p18
         try clear p182
         try clear p183
         try clear p184
         try clear p19
         try clear p191
         try clear p192
         try clear p196
         try clear p2
         try clear p20
         try clear p200
         try clear p204
         try clear p205
         try clear p6
         try clear q1
         try clear q16
         try clear q166
         try clear q167
         try clear q168
         try clear q169
         try clear q17
         try clear q176
         try clear q177
         try clear q178
         try clear q18
         try clear q182
         try clear q183
         try clear q184
         try clear q19
         try clear q191
         try clear q192
         try clear q196
         try clear q2
         try clear q20
         try clear q200
         try clear q204
         try clear q205
         obtain ⟨kq, x113_43, rfl, HA, HJ43, HO_3, HB⟩ := hcut
         cases kq with
         | zero => exact absurd HA.out (by simp [spec_l24Expr.j3])
         | succ kj43 =>
          have H := HA.out
          clear HA
          simp only [spec_l24Expr.j3] at H
          by_cases c46 : x113_43 = true
          ·subst c46
           rewrite [if_pos rfl] at H
           by_cases c47 : 0 < (l0.length : Int)
           ·rw [if_pos c47] at H
            have c47b0 := decide_eq_true c47
            have c47b1 : decide (0 < l0.length) = true := decide_eq_true (by omega)
            clear c47
            by_cases c48 : x3_2.length < 4398046511104
            ·rw [if_pos c48] at H
             have LMc48 := Aside0.mk c48
             clear c48
             obtain ⟨y210, hy210⟩ : ∃ y_ : List (S89), y_ = (x3_2 ++ [(⟨wrap64 ((wrap64 (9 + ((rd_T26 l0 0).f0))) - 14), 0, (⟨#[]⟩ : ByteArray)⟩ : S89)]) := ⟨_, rfl⟩
             replace H : (some y210) = some r := by first | (rw [hy210]; with_reducible exact H) | (have H2_ := (Option.bind_some _ _).symm.trans H; rw [hy210]; with_reducible exact H2_) | (have H2_ := (Option.bind_some _ _).symm.trans H; with_reducible exact H2_) | with_reducible exact H | (rw [hy210]; exact H) | exact H
             have Ny210 := Aside0.mk hy210
             clear hy210
             obtain rfl := Option.some.inj H
             have p209 : 0 ≤ (0 : Int) := (by omega)
             have q209 : 0 < (l0.length : Int) := of_decide_eq_true (by first | (with_reducible assumption) | assumption)
             obtain ⟨ad209, A209_3, c209_3, e209, hx209_0, hx209_1, hx209_2, hx209_3, hl209_3, hi209_3⟩ := at_T26 HR0.out 0 p209 q209
             obtain rfl : ad182 = ad209 := (by injection e209)
             have qi209 : (0 < l0.length) = True := eq_true (by omega)
             (try rw [sZ] at hx209_0)
             (try rw [sZ] at hx209_1)
             (try rw [sZ] at hx209_2)
             (try rw [sZ] at hx209_3)
             replace hx209_0 := sX HB hx209_0
             replace hx209_1 := sX HB hx209_1
             replace hx209_2 := sX HB hx209_2
             replace hx209_3 := sX HB hx209_3
             have HR209_3 := Aside0.mk hi209_3
             have HC209_3 := Aside0.mk hl209_3
             clear hi209_3 hl209_3
             replace p209 := eq_true p209
             replace q209 := eq_true q209
             go_wp2_with (first | ((with_reducible refine gate_builtin (b := .append) (xs := #[.tmp 116, .tmp 124]) rfl ?_); at_builtin; refine Kd.R_append k89 (w0 := w) w.heap.size rfl (.tmp 116) (.tmp 124) 40 89 (.agg #[(.int .i64 0), (.int .i64 0), (.string ⟨#[]⟩)]) 32 rfl Try.underlying40 info89 rfl (by decide) (by omega) u3 x3_2 (⟨wrap64 ((wrap64 (9 + ((rd_T26 l0 0).f0))) - 14), 0, (⟨#[]⟩ : ByteArray)⟩ : S89) [.int .i64 (wrap64 ((wrap64 (9 + ((rd_T26 l0 0).f0))) - 14)), .int .i64 0, .string (⟨#[]⟩ : ByteArray)] (fun _ => True) (fun _ => False) rfl rfl ?aP (fun _ hk => hk.elim) ?aF ?aO ?aB ?aS ?aL ?_; (case aP => exact k89_mkM _ _ _ (⟨wrap64 ((wrap64 (9 + ((rd_T26 l0 0).f0))) - 14), 0, (⟨#[]⟩ : ByteArray)⟩ : S89)); (case aB => exact (sH HB.out)); (case aF => exact (fun _ _ => trivial)); (case aO => exact (sE HO_3.out)); (case aS => exact (below_size (sH HB.out))); (case aL => have := LMc48.out; omega); intro v211 w49 ho hb hg hat; rw [← Ny210.out] at ho; have n0_ := Aside0.mk (hb); have n1_ := Aside0.mk (ho); clear HB; clear HO_3; have HB := n0_; have HO212 := n1_; clear n0_ n1_; clear ho hb hg hat))
             go_ret
             exact ⟨_, sq, by exact sE HO212.out, sb⟩
            rw [if_neg c48] at H
            exact absurd H (by simp)
           rw [if_neg c47] at H
           exact absurd H (by simp)
          replace c46 := Bool.eq_false_iff.mpr c46
          subst c46
          rewrite [if_neg (show ¬ (false = true) by decide)] at H
          by_cases c50 : ((rd_T26 l0 0).f0) = 5
          ·rw [if_pos c50] at H
           have c50b0 : (((rd_T26 l0 0).f0) == 5) = true := beq_iff_eq.mpr c50
           have c50b1 : (((rd_T26 l0 0).f0) != 5) = false := bne_eq_false_iff_eq.mpr c50
           clear c50
           by_cases c51 : x3_2.length < 4398046511104
           ·rw [if_pos c51] at H
            have LMc51 := Aside0.mk c51
            clear c51
            obtain ⟨y213, hy213⟩ : ∃ y_ : List (S89), y_ = (x3_2 ++ [(⟨12, 0, (⟨#[]⟩ : ByteArray)⟩ : S89)]) := ⟨_, rfl⟩
            replace H : (some y213) = some r := by first | (rw [hy213]; with_reducible exact H) | (have H2_ := (Option.bind_some _ _).symm.trans H; rw [hy213]; with_reducible exact H2_) | (have H2_ := (Option.bind_some _ _).symm.trans H; with_reducible exact H2_) | with_reducible exact H | (rw [hy213]; exact H) | exact H
            have Ny213 := Aside0.mk hy213
            clear hy213
            obtain rfl := Option.some.inj H
            go_wp2_with (first | ((with_reducible refine gate_builtin (b := .append) (xs := #[.tmp 128, .tmp 130]) rfl ?_); at_builtin; refine Kd.R_append k89 (w0 := w) w.heap.size rfl (.tmp 128) (.tmp 130) 40 89 (.agg #[(.int .i64 0), (.int .i64 0), (.string ⟨#[]⟩)]) 32 rfl Try.underlying40 info89 rfl (by decide) (by omega) u3 x3_2 (⟨12, 0, (⟨#[]⟩ : ByteArray)⟩ : S89) [.int .i64 12, .int .i64 0, .string (⟨#[]⟩ : ByteArray)] (fun _ => True) (fun _ => False) rfl rfl ?aP (fun _ hk => hk.elim) ?aF ?aO ?aB ?aS ?aL ?_; (case aP => exact k89_mkM _ _ _ (⟨12, 0, (⟨#[]⟩ : ByteArray)⟩ : S89)); (case aB => exact (sH HB.out)); (case aF => exact (fun _ _ => trivial)); (case aO => exact (sE HO_3.out)); (case aS => exact (below_size (sH HB.out))); (case aL => have := LMc51.out; omega); intro v214 w52 ho hb hg hat; rw [← Ny213.out] at ho; have n0_ := Aside0.mk (hb); have n1_ := Aside0.mk (ho); clear HB; clear HO_3; have HB := n0_; have HO215 := n1_; clear n0_ n1_; clear ho hb hg hat))
            go_ret
            exact ⟨_, sq, by exact sE HO215.out, sb⟩
           rw [if_neg c51] at H
           exact absurd H (by simp)
          rw [if_neg c50] at H
          have c50b0 : (((rd_T26 l0 0).f0) == 5) = false := beq_eq_false_iff_ne.mpr c50
          have c50b1 : (((rd_T26 l0 0).f0) != 5) = true := bne_iff_ne.mpr c50
          by_cases c53 : ((rd_T26 l0 0).f0) = 4
          ·rw [if_pos c53] at H
           have c53b0 : (((rd_T26 l0 0).f0) == 4) = true := beq_iff_eq.mpr c53
           have c53b1 : (((rd_T26 l0 0).f0) != 4) = false := bne_eq_false_iff_eq.mpr c53
           clear c53
           by_cases c54 : 0 < (l0.length : Int)
           ·rw [if_pos c54] at H
            have c54b0 := decide_eq_true c54
            have c54b1 : decide (0 < l0.length) = true := decide_eq_true (by omega)
            clear c54
            by_cases c55 : x3_2.length < 4398046511104
            ·rw [if_pos c55] at H
             have LMc55 := Aside0.mk c55
             clear c55
             obtain ⟨y218, hy218⟩ : ∃ y_ : List (S89), y_ = (x3_2 ++ [(⟨13, (((rd_T26 l0 0).f3).length : Int), (rd_T26 l0 0).f2⟩ : S89)]) := ⟨_, rfl⟩
             replace H : (some y218) = some r := by first | (rw [hy218]; with_reducible exact H) | (have H2_ := (Option.bind_some _ _).symm.trans H; rw [hy218]; with_reducible exact H2_) | (have H2_ := (Option.bind_some _ _).symm.trans H; with_reducible exact H2_) | with_reducible exact H | (rw [hy218]; exact H) | exact H
             have Ny218 := Aside0.mk hy218
             clear hy218
             obtain rfl := Option.some.inj H
             try go_wp2
             have n0_ := Aside0.mk (Kd.R_drew HO_3.out)
             have n1_ := Aside0.mk (below_drew1 HB.out)
             clear HO_3
             clear HB
             have HO_3 := n0_
             have HB := n1_
             clear n0_ n1_
             have p216 : 0 ≤ (0 : Int) := (by omega)
             have q216 : 0 < (l0.length : Int) := of_decide_eq_true (by first | (with_reducible assumption) | assumption)
             obtain ⟨ad216, A216_3, c216_3, e216, hx216_0, hx216_1, hx216_2, hx216_3, hl216_3, hi216_3⟩ := at_T26 HR0.out 0 p216 q216
             have hw216_3 := hx216_3
             (try rw [sZ] at hw216_3)
             have hw216_2 := hx216_2
             (try rw [sZ] at hw216_2)
             have hw216_1 := hx216_1
             (try rw [sZ] at hw216_1)
             have hw216_0 := hx216_0
             (try rw [sZ] at hw216_0)
             obtain rfl : ad182 = ad216 := (by injection e216)
             have qi216 : (0 < l0.length) = True := eq_true (by omega)
             (try rw [sZ] at hx216_0)
             (try rw [sZ] at hx216_1)
             (try rw [sZ] at hx216_2)
             (try rw [sZ] at hx216_3)
             replace hx216_0 := sX HB hx216_0
             replace hx216_1 := sX HB hx216_1
             replace hx216_2 := sX HB hx216_2
             replace hx216_3 := sX HB hx216_3
             have HR216_3 := Aside0.mk hi216_3
             have HC216_3 := Aside0.mk hl216_3
             clear hi216_3 hl216_3
             replace p216 := eq_true p216
             replace q216 := eq_true q216
             have p217 : 0 ≤ (0 : Int) := (by omega)
             have q217 : 0 < (l0.length : Int) := of_decide_eq_true (by first | (with_reducible assumption) | assumption)
             obtain ⟨ad217, A217_3, c217_3, e217, hx217_0, hx217_1, hx217_2, hx217_3, hl217_3, hi217_3⟩ := at_T26 HR0.out 0 p217 q217
             have hw217_3 := hx217_3
             (try rw [sZ] at hw217_3)
             have hw217_2 := hx217_2
             (try rw [sZ] at hw217_2)
             have hw217_1 := hx217_1
             (try rw [sZ] at hw217_1)
             have hw217_0 := hx217_0
             (try rw [sZ] at hw217_0)
             obtain rfl : ad182 = ad217 := (by injection e217)
             have qi217 : (0 < l0.length) = True := eq_true (by omega)
             (try rw [sZ] at hx217_0)
             (try rw [sZ] at hx217_1)
             (try rw [sZ] at hx217_2)
             (try rw [sZ] at hx217_3)
             replace hx217_0 := sX HB hx217_0
             replace hx217_1 := sX HB hx217_1
             replace hx217_2 := sX HB hx217_2
             replace hx217_3 := sX HB hx217_3
             have HR217_3 := Aside0.mk hi217_3
             have HC217_3 := Aside0.mk hl217_3
             clear hi217_3 hl217_3
             replace p217 := eq_true p217
             replace q217 := eq_true q217
             have ea_ := Option.some.inj (hx216_3.symm.trans hx217_3)
             injection ea_ with ea_ en_ ec_
             subst ea_
             subst ec_
             clear en_
             refine start_ (n := 14) (S := fun w' => w'.cell? ad182 = some (.int .i64 ((rd_T26 l0 0).f0)) ∧ w'.cell? ⟨ad182.block, ad182.off + 1, none⟩ = some (.int .i64 ((rd_T26 l0 0).f1)) ∧ w'.cell? ⟨ad182.block, ad182.off + 2, none⟩ = some (.string ((rd_T26 l0 0).f2)) ∧ w'.cell? ⟨ad182.block, ad182.off + 3, none⟩ = some (.slice A216_3 ((rd_T26 l0 0).f3).length c216_3) ∧ w'.cell? ad182 = some (.int .i64 ((rd_T26 l0 0).f0)) ∧ w'.cell? ⟨ad182.block, ad182.off + 1, none⟩ = some (.int .i64 ((rd_T26 l0 0).f1)) ∧ w'.cell? ⟨ad182.block, ad182.off + 2, none⟩ = some (.string ((rd_T26 l0 0).f2)) ∧ w'.cell? ⟨ad182.block, ad182.off + 3, none⟩ = some (.slice A216_3 ((rd_T26 l0 0).f3).length c216_3)) (ds := []) #[false, false, false, false, false, false, false, false, false, false, false, false, false, false] (by kernel_rfl) rfl rfl ⟨((HB.out.cell (World.block_lt_of_cell? w _ hw216_0)).trans hw216_0), ((HB.out.cell (World.block_lt_of_cell? w _ hw216_1)).trans hw216_1), ((HB.out.cell (World.block_lt_of_cell? w _ hw216_2)).trans hw216_2), ((HB.out.cell (World.block_lt_of_cell? w _ hw216_3)).trans hw216_3), ((HB.out.cell (World.block_lt_of_cell? w _ hw217_0)).trans hw217_0), ((HB.out.cell (World.block_lt_of_cell? w _ hw217_1)).trans hw217_1), ((HB.out.cell (World.block_lt_of_cell? w _ hw217_2)).trans hw217_2), ((HB.out.cell (World.block_lt_of_cell? w _ hw217_3)).trans hw217_3)⟩ (fun hHeld => ?_); refine with_tabW spec_l24Expr.tab26 spec_l24Expr.bits26 (fun HT_ HW_ => ?_)
             generalize wc.drew = w56 at HO_3 HB HR216_3 HR217_3 hx216_0 hx216_1 hx216_2 hx216_3 hx217_0 hx217_1 hx217_2 hx217_3 hHeld ⊢
             refine pure_ (i := 0) (N := some 134) (v := ?_) (a' := ?_) (bN 14 1) rfl rfl (any_of HT_.out (by kernel_rfl)) (fun _ _ _ h => h) (Or.inl ⟨by rfl, ?_⟩) ?_ ?_
             rotate_left
             ·intro w'
              go_simp
              with_reducible rfl
             rotate_left
             ·simp only [Act.put, List.setIfInBounds_toArray, List.set_cons_zero, List.set_cons_succ, i64_w, i32_w]
              rfl
             refine pure_ (i := 1) (N := some 135) (v := ?_) (a' := ?_) (bN 14 3) rfl rfl (any_of HT_.out (by kernel_rfl)) (fun _ _ _ h => h) (Or.inl ⟨by rfl, ?_⟩) ?_ ?_
             rotate_left
             ·intro w'
              go_simp
              with_reducible rfl
             rotate_left
             ·simp only [Act.put, List.setIfInBounds_toArray, List.set_cons_zero, List.set_cons_succ, i64_w, i32_w]
              rfl
             refine pure_ (i := 2) (N := some 136) (v := ?_) (a' := ?_) (bN 14 7) rfl rfl (any_of HT_.out (by kernel_rfl)) (fun _ _ _ h => h) (Or.inl ⟨by rfl, ?_⟩) ?_ ?_
             rotate_left
             ·intro w'
              go_simp
              with_reducible rfl
             rotate_left
             ·simp only [Act.put, List.setIfInBounds_toArray, List.set_cons_zero, List.set_cons_succ, i64_w, i32_w]
              rfl
             refine pure_ (i := 3) (N := some 137) (v := ?_) (a' := ?_) (bN 14 15) rfl rfl (any_of HT_.out (by kernel_rfl)) (fun _ _ _ h => h) (Or.inl ⟨by rfl, ?_⟩) ?_ ?_
             rotate_left
             ·intro w'
              go_simp
              with_reducible rfl
             rotate_left
             ·simp only [Act.put, List.setIfInBounds_toArray, List.set_cons_zero, List.set_cons_succ, i64_w, i32_w]
              rfl
             refine pure_ (i := 6) (N := some 140) (v := ?_) (a' := ?_) (bN 14 79) rfl rfl (any_of HT_.out (by kernel_rfl)) (fun _ _ _ h => h) (Or.inl ⟨by rfl, ?_⟩) ?_ ?_
             rotate_left
             ·intro w'
              go_simp
              with_reducible rfl
             rotate_left
             ·simp only [Act.put, List.setIfInBounds_toArray, List.set_cons_zero, List.set_cons_succ, i64_w, i32_w]
              rfl
             refine pure_ (i := 7) (N := some 141) (v := ?_) (a' := ?_) (bN 14 207) rfl rfl (any_of HT_.out (by kernel_rfl)) (fun _ _ _ h => h) (Or.inl ⟨by rfl, ?_⟩) ?_ ?_
             rotate_left
             ·intro w'
              go_simp
              with_reducible rfl
             rotate_left
             ·simp only [Act.put, List.setIfInBounds_toArray, List.set_cons_zero, List.set_cons_succ, i64_w, i32_w]
              rfl
             refine pure_ (i := 8) (N := some 142) (v := ?_) (a' := ?_) (bN 14 463) rfl rfl (any_of HT_.out (by kernel_rfl)) (fun _ _ _ h => h) (Or.inl ⟨by rfl, ?_⟩) ?_ ?_
             rotate_left
             ·intro w'
              go_simp
              with_reducible rfl
             rotate_left
             ·simp only [Act.put, List.setIfInBounds_toArray, List.set_cons_zero, List.set_cons_succ, i64_w, i32_w]
              rfl
             refine take_ (i := 4) (N := some 138) (v := ?_) (a' := ?_) (bN 14 479) rfl rfl (take_ofW HT_.out HW_.out (by kernel_rfl)) (fun _ _ _ h => h) (Or.inl ⟨by rfl, ?_⟩) hHeld ?_ ?_
             rotate_left
             ·rintro w' ⟨s0, s1, s2, s3, s4, s5, s6, s7⟩
              go_simp
              with_reducible rfl
             rotate_left
             ·simp only [Act.put, List.setIfInBounds_toArray, List.set_cons_zero, List.set_cons_succ, i64_w, i32_w]
              rfl
             refine pure_ (i := 5) (N := some 139) (v := ?_) (a' := ?_) (bN 14 511) rfl rfl (any_of HT_.out (by kernel_rfl)) (fun _ _ _ h => h) (Or.inl ⟨by rfl, ?_⟩) ?_ ?_
             rotate_left
             ·intro w'
              go_simp
              with_reducible rfl
             rotate_left
             ·simp only [Act.put, List.setIfInBounds_toArray, List.set_cons_zero, List.set_cons_succ, i64_w, i32_w]
              rfl
             refine take_ (i := 9) (N := some 143) (v := ?_) (a' := ?_) (bN 14 1023) rfl rfl (take_ofW HT_.out HW_.out (by kernel_rfl)) (fun _ _ _ h => h) (Or.inl ⟨by rfl, ?_⟩) hHeld ?_ ?_
             rotate_left
             ·rintro w' ⟨s0, s1, s2, s3, s4, s5, s6, s7⟩
              go_simp
              with_reducible rfl
             rotate_left
             ·simp only [Act.put, List.setIfInBounds_toArray, List.set_cons_zero, List.set_cons_succ, i64_w, i32_w]
              rfl
             refine pure_ (i := 10) (N := some 144) (v := ?_) (a' := ?_) (bN 14 2047) rfl rfl (any_of HT_.out (by kernel_rfl)) (fun _ _ _ h => h) (Or.inl ⟨by rfl, ?_⟩) ?_ ?_
             rotate_left
             ·intro w'
              go_simp
              with_reducible rfl
             rotate_left
             ·simp only [Act.put, List.setIfInBounds_toArray, List.set_cons_zero, List.set_cons_succ, i64_w, i32_w]
              rfl
             refine one_ (i := 11) (N := some 145) (bN 14 4095) rfl rfl (one_of HT_.out (by kernel_rfl)) (by decide) (fun K hK => ?_)
             refine value_ (w1 := ?_) (v := ?_) (by rfl) rfl ?_ ?_
             rotate_left 2
             ·go_simp
              constructor
              ·rfl
              ·rfl
             refine hK.out _ _ ⟨(World.cell?_alloc_lt _ _ _ (World.block_lt_of_cell? _ _ (((HB.out.cell (World.block_lt_of_cell? w _ hw216_0)).trans hw216_0)))).trans (((HB.out.cell (World.block_lt_of_cell? w _ hw216_0)).trans hw216_0)), (World.cell?_alloc_lt _ _ _ (World.block_lt_of_cell? _ _ (((HB.out.cell (World.block_lt_of_cell? w _ hw216_1)).trans hw216_1)))).trans (((HB.out.cell (World.block_lt_of_cell? w _ hw216_1)).trans hw216_1)), (World.cell?_alloc_lt _ _ _ (World.block_lt_of_cell? _ _ (((HB.out.cell (World.block_lt_of_cell? w _ hw216_2)).trans hw216_2)))).trans (((HB.out.cell (World.block_lt_of_cell? w _ hw216_2)).trans hw216_2)), (World.cell?_alloc_lt _ _ _ (World.block_lt_of_cell? _ _ (((HB.out.cell (World.block_lt_of_cell? w _ hw216_3)).trans hw216_3)))).trans (((HB.out.cell (World.block_lt_of_cell? w _ hw216_3)).trans hw216_3)), (World.cell?_alloc_lt _ _ _ (World.block_lt_of_cell? _ _ (((HB.out.cell (World.block_lt_of_cell? w _ hw217_0)).trans hw217_0)))).trans (((HB.out.cell (World.block_lt_of_cell? w _ hw217_0)).trans hw217_0)), (World.cell?_alloc_lt _ _ _ (World.block_lt_of_cell? _ _ (((HB.out.cell (World.block_lt_of_cell? w _ hw217_1)).trans hw217_1)))).trans (((HB.out.cell (World.block_lt_of_cell? w _ hw217_1)).trans hw217_1)), (World.cell?_alloc_lt _ _ _ (World.block_lt_of_cell? _ _ (((HB.out.cell (World.block_lt_of_cell? w _ hw217_2)).trans hw217_2)))).trans (((HB.out.cell (World.block_lt_of_cell? w _ hw217_2)).trans hw217_2)), (World.cell?_alloc_lt _ _ _ (World.block_lt_of_cell? _ _ (((HB.out.cell (World.block_lt_of_cell? w _ hw217_3)).trans hw217_3)))).trans (((HB.out.cell (World.block_lt_of_cell? w _ hw217_3)).trans hw217_3))⟩ (fun hHeld => ?_)
             clear hK K
             refine norm_ (a' := ?_) ?_ ?_
             rotate_left
             ·show Act.put _ (some 145) _ = _
              simp only [Act.put, List.setIfInBounds_toArray, List.set_cons_zero, List.set_cons_succ, i64_w, i32_w]
              rfl
             refine one_ (i := 12) (N := some 146) (bN 14 8191) rfl rfl (one_of HT_.out (by kernel_rfl)) (by decide) (fun K hK => ?_)
             refine Kd.R_append_step k89 (w0 := w) w.heap.size (by rfl) (.tmp 134) (.tmp 145) 40 89 (.agg #[(.int .i64 0), (.int .i64 0), (.string ⟨#[]⟩)]) 32 rfl Try.underlying40 info89 rfl (by decide) (by omega) u3 x3_2 (⟨13, (((rd_T26 l0 0).f3).length : Int), (rd_T26 l0 0).f2⟩ : S89) [.int .i64 13, .int .i64 (((rd_T26 l0 0).f3).length : Int), .string ((rd_T26 l0 0).f2)] (fun _ => True) (fun _ => False) rfl rfl ?aP (fun _ hk => hk.elim) ?aF ?aO ?aB ?aS ?aL ?_
             (case aP => exact k89_mkM _ _ _ (⟨13, (((rd_T26 l0 0).f3).length : Int), (rd_T26 l0 0).f2⟩ : S89))
             (case aB => exact (sH HB.out))
             (case aF => exact (fun _ _ => trivial))
             (case aO => exact (sE HO_3.out))
             (case aS => exact (below_size (sH HB.out)))
             (case aL => have := LMc55.out; omega)
             intro v219 w57 ho hb hg hat
             rw [← Ny218.out] at ho
             have n0_ := Aside0.mk (hb)
             have n1_ := Aside0.mk (ho)
             clear HB
             clear HO_3
             have HB := n0_
             have HO220 := n1_
             clear n0_ n1_
             clear ho hb hg hat
             refine hK.out _ _ ⟨((HB.out.cell (World.block_lt_of_cell? w _ hw216_0)).trans hw216_0), ((HB.out.cell (World.block_lt_of_cell? w _ hw216_1)).trans hw216_1), ((HB.out.cell (World.block_lt_of_cell? w _ hw216_2)).trans hw216_2), ((HB.out.cell (World.block_lt_of_cell? w _ hw216_3)).trans hw216_3), ((HB.out.cell (World.block_lt_of_cell? w _ hw217_0)).trans hw217_0), ((HB.out.cell (World.block_lt_of_cell? w _ hw217_1)).trans hw217_1), ((HB.out.cell (World.block_lt_of_cell? w _ hw217_2)).trans hw217_2), ((HB.out.cell (World.block_lt_of_cell? w _ hw217_3)).trans hw217_3)⟩ (fun hHeld => ?_)
             clear hK K
             refine norm_ (a' := ?_) ?_ ?_
             rotate_left
             ·show Act.put _ (some 146) _ = _
              simp only [Act.put, List.setIfInBounds_toArray, List.set_cons_zero, List.set_cons_succ, i64_w, i32_w]
              rfl
             refine pure_ (i := 13) (N := some 2) (v := ?_) (a' := ?_) (bN 14 16383) rfl rfl (any_of HT_.out (by kernel_rfl)) (fun _ _ _ h => h) (Or.inl ⟨by rfl, ?_⟩) ?_ ?_
             rotate_left
             ·intro w'
              go_simp
              with_reducible rfl
             rotate_left
             ·simp only [Act.put, List.setIfInBounds_toArray, List.set_cons_zero, List.set_cons_succ, i64_w, i32_w]
              rfl
             refine done_ (done_of HT_.out (by kernel_rfl)) ?_
             try go_wp2
             go_ret
             exact ⟨_, sq, by exact sE HO220.out, sb⟩
            rw [if_neg c55] at H
            exact absurd H (by simp)
           rw [if_neg c54] at H
           exact absurd H (by simp)
          rw [if_neg c53] at H
          have c53b0 : (((rd_T26 l0 0).f0) == 4) = false := beq_eq_false_iff_ne.mpr c53
          have c53b1 : (((rd_T26 l0 0).f0) != 4) = true := bne_iff_ne.mpr c53
          by_cases c58 : 0 < (l0.length : Int)
          ·rw [if_pos c58] at H
           have c58b0 := decide_eq_true c58
           have c58b1 : decide (0 < l0.length) = true := decide_eq_true (by omega)
           clear c58
           by_cases c59 : x3_2.length < 4398046511104
           ·rw [if_pos c59] at H
            have LMc59 := Aside0.mk c59
            clear c59
            obtain ⟨y222, hy222⟩ : ∃ y_ : List (S89), y_ = (x3_2 ++ [(⟨8, (rd_T26 l0 0).f0, (⟨#[]⟩ : ByteArray)⟩ : S89)]) := ⟨_, rfl⟩
            replace H : (some y222) = some r := by first | (rw [hy222]; with_reducible exact H) | (have H2_ := (Option.bind_some _ _).symm.trans H; rw [hy222]; with_reducible exact H2_) | (have H2_ := (Option.bind_some _ _).symm.trans H; with_reducible exact H2_) | with_reducible exact H | (rw [hy222]; exact H) | exact H
            have Ny222 := Aside0.mk hy222
            clear hy222
            obtain rfl := Option.some.inj H
            have p221 : 0 ≤ (0 : Int) := (by omega)
            have q221 : 0 < (l0.length : Int) := of_decide_eq_true (by first | (with_reducible assumption) | assumption)
            obtain ⟨ad221, A221_3, c221_3, e221, hx221_0, hx221_1, hx221_2, hx221_3, hl221_3, hi221_3⟩ := at_T26 HR0.out 0 p221 q221
            obtain rfl : ad182 = ad221 := (by injection e221)
            have qi221 : (0 < l0.length) = True := eq_true (by omega)
            (try rw [sZ] at hx221_0)
            (try rw [sZ] at hx221_1)
            (try rw [sZ] at hx221_2)
            (try rw [sZ] at hx221_3)
            replace hx221_0 := sX HB hx221_0
            replace hx221_1 := sX HB hx221_1
            replace hx221_2 := sX HB hx221_2
            replace hx221_3 := sX HB hx221_3
            have HR221_3 := Aside0.mk hi221_3
            have HC221_3 := Aside0.mk hl221_3
            clear hi221_3 hl221_3
            replace p221 := eq_true p221
            replace q221 := eq_true q221
            go_wp2_with (first | ((with_reducible refine gate_builtin (b := .append) (xs := #[.tmp 147, .tmp 153]) rfl ?_); at_builtin; refine Kd.R_append k89 (w0 := w) w.heap.size rfl (.tmp 147) (.tmp 153) 40 89 (.agg #[(.int .i64 0), (.int .i64 0), (.string ⟨#[]⟩)]) 32 rfl Try.underlying40 info89 rfl (by decide) (by omega) u3 x3_2 (⟨8, (rd_T26 l0 0).f0, (⟨#[]⟩ : ByteArray)⟩ : S89) [.int .i64 8, .int .i64 ((rd_T26 l0 0).f0), .string (⟨#[]⟩ : ByteArray)] (fun _ => True) (fun _ => False) rfl rfl ?aP (fun _ hk => hk.elim) ?aF ?aO ?aB ?aS ?aL ?_; (case aP => exact k89_mkM _ _ _ (⟨8, (rd_T26 l0 0).f0, (⟨#[]⟩ : ByteArray)⟩ : S89)); (case aB => exact (sH HB.out)); (case aF => exact (fun _ _ => trivial)); (case aO => exact (sE HO_3.out)); (case aS => exact (below_size (sH HB.out))); (case aL => have := LMc59.out; omega); intro v223 w60 ho hb hg hat; rw [← Ny222.out] at ho; have n0_ := Aside0.mk (hb); have n1_ := Aside0.mk (ho); clear HB; clear HO_3; have HB := n0_; have HO224 := n1_; clear n0_ n1_; clear ho hb hg hat))
            go_ret
            exact ⟨_, sq, by exact sE HO224.out, sb⟩
           rw [if_neg c59] at H
           exact absurd H (by simp)
          rw [if_neg c58] at H
          exact absurd H (by simp)
     rw [if_neg c19] at H
     exact absurd H (by simp)
end Go.Proofs.Ytmebimamjgnlpaa.PFnExactCompileExpr
