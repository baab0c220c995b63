/- Printed functions: impl_Expr_lastInstr. -/
import Derived.Test.YtmebimamjgnlpaaYCeP0
namespace Go.Proofs.Ytmebimamjgnlpaa.PFnExactCompileExpr
open Go.RowKit Go.Proofs.YtmebimamjgnlpaaG Go.Proofs.YtmebimamjgnlpaaW.PrintWords Go.Proofs.YtmebimamjgnlpaaW.PrintLast Go.Proofs.YtmebimamjgnlpaaW.PrintMore
attribute [local go_sem] max2_int min2_int max_two min_two max_three min_three max_four min_four   -- for this text's walks alone
set_option linter.unusedVariables false
set_option linter.unusedSimpArgs false
/-! ### impl_Expr_lastInstr: function 81 -/
def impl_Expr_lastInstr.j0 : Nat → Int → Bool → Int → Int → ByteArray → List (S26) → Option (Int × Int × ByteArray)
 | 0, _, _, _, _, _, _ => none
 | k + 1, x4, x20, x269000, x269001, x269002, x269003 => if x20 = true then (some (wrap64 ((wrap64 (x269000 - 16)) + 5), 0, x269002)) else (if x4 = 4 then (some (13, (x269003.length : Int), x269002)) else (if x4 = 5 then (some (12, 0, (⟨#[]⟩ : ByteArray))) else (if x4 = 14 then (some (9, 0, (⟨#[]⟩ : ByteArray))) else (if x4 = 15 then (some (10, 0, (⟨#[]⟩ : ByteArray))) else (if x4 = 12 then (if 1 < (x269003.length : Int) then (some (11, wrap64 ((wrap64 (x269000 - 12)) + 21), (rd_T26 x269003 1).f2)) else (none)) else (if x4 = 13 then (if 1 < (x269003.length : Int) then (some (11, wrap64 ((wrap64 (x269000 - 12)) + 21), (rd_T26 x269003 1).f2)) else (none)) else (some (8, x269000, (⟨#[]⟩ : ByteArray)))))))))
def impl_Expr_lastInstr.f (k : Nat) (a0_0 : Int) (a0_1 : Int) (a0_2 : ByteArray) (l0_3 : List (S26)) : Option (Int × Int × ByteArray) := if a0_0 = 1 then (some (2, 0, a0_2)) else (if a0_0 = 2 then (some (3, a0_1, (⟨#[]⟩ : ByteArray))) else (if a0_0 = 3 then (some (4, 0, a0_2)) else (if a0_0 = 16 then (impl_Expr_lastInstr.j0 k a0_0 (a0_0 == 16) a0_0 a0_1 a0_2 l0_3) else (if a0_0 = 17 then (impl_Expr_lastInstr.j0 k a0_0 (a0_0 == 17) a0_0 a0_1 a0_2 l0_3) else (impl_Expr_lastInstr.j0 k a0_0 (a0_0 == 18) a0_0 a0_1 a0_2 l0_3)))))
theorem impl_Expr_lastInstr.mono_l : ∀ k, (∀ y0 y1 y2 y3 y4 y5, LeO (impl_Expr_lastInstr.j0 k y0 y1 y2 y3 y4 y5) (impl_Expr_lastInstr.j0 (k + 1) y0 y1 y2 y3 y4 y5))
 | 0 => fun _ _ _ _ _ _ r h => by simp [impl_Expr_lastInstr.j0] at h
 | k + 1 => by
  have ih0 := impl_Expr_lastInstr.mono_l k
  ·intro y0 y1 y2 y3 y4 y5
   unfold impl_Expr_lastInstr.j0
   repeat' first
   | (with_reducible exact ih0 _ _ _ _ _ _)
   | (with_reducible exact LeO.refl _)
   | (with_reducible exact LeO.none _)
   | (with_reducible refine LeO.ite ?_ ?_)
   | (with_reducible refine LeO.bind ?_ (fun _ => ?_))
   | exact ih0 _ _ _ _ _ _
   | exact LeO.none _
   | refine LeO.ite ?_ ?_
   | refine LeO.bind ?_ (fun _ => ?_)
theorem impl_Expr_lastInstr.mono : ∀ a0 a1 a2 a3 k, LeO (impl_Expr_lastInstr.f k a0 a1 a2 a3) (impl_Expr_lastInstr.f (k + 1) a0 a1 a2 a3) := by
 intro a0 a1 a2 a3 k
 have ih0 := impl_Expr_lastInstr.mono_l k
 unfold impl_Expr_lastInstr.f
 repeat' first
   | (with_reducible exact ih0 _ _ _ _ _ _)
   | (with_reducible exact LeO.refl _)
   | (with_reducible exact LeO.none _)
   | (with_reducible refine LeO.ite ?_ ?_)
   | (with_reducible refine LeO.bind ?_ (fun _ => ?_))
   | exact ih0 _ _ _ _ _ _
   | exact LeO.none _
   | refine LeO.ite ?_ ?_
   | refine LeO.bind ?_ (fun _ => ?_)
def impl_Expr_lastInstr.T22 : Bool × List (List Nat × List Nat) := (true, [([], []), ([0], [0]), ([1], [1]), ([2], [2]), ([], []), ([4], [4]), ([5], [5]), ([6], [6]), ([7], [7]), ([3, 8], [3, 8]), ([9, 0, 1, 2, 3, 4, 5, 6, 7, 8, 9], [9])])
def impl_Expr_lastInstr.B22 : List Nat := [0, 1, 3, 7, 0, 16, 48, 112, 240, 511, 1023]
theorem impl_Expr_lastInstr.tab22 : rtab .any (opsOf Try.f81 22) = impl_Expr_lastInstr.T22 := by kernel_rfl
theorem impl_Expr_lastInstr.bits22 : waitsOk impl_Expr_lastInstr.T22.2 impl_Expr_lastInstr.B22 = true := by kernel_rfl
set_option maxHeartbeats 8000000 in
set_option maxRecDepth 100000 in
theorem impl_Expr_lastInstr.calls (k : Nat) (a0_0 : Int) (a0_1 : Int) (a0_2 : ByteArray) (A0_3 : Option Addr) (c0_3 : Nat) (l0_3 : List (S26)) (r1 : Int) (r2 : Int) (r3 : ByteArray) (w : World) (hr0_3 : Kd.C k26 w A0_3 l0_3.length l0_3) (hc0_3 : l0_3.length ≤ c0_3) (h : impl_Expr_lastInstr.f k a0_0 a0_1 a0_2 l0_3 = some (r1, r2, r3)) :
  Calls Try.prog 81 #[.agg #[.int .i64 a0_0, .int .i64 a0_1, .string a0_2, .slice A0_3 l0_3.length c0_3]] w fun e w' => e = .returned (.agg #[.int .i64 r1, .int .i64 r2, .string r3]) ∧ Below w.heap.size w w' := by
 have hu26 := Try.underlying26
 have hu89 := Try.underlying89
 have HR0_3 := Aside0.mk hr0_3
 have HC0_3 := Aside0.mk hc0_3
 clear hr0_3 hc0_3
 have HB := Aside0.mk (Below.refl w.heap.size w)
 have H : (if a0_0 = 1 then (some (2, 0, a0_2)) else (if a0_0 = 2 then (some (3, a0_1, (⟨#[]⟩ : ByteArray))) else (if a0_0 = 3 then (some (4, 0, a0_2)) else (if a0_0 = 16 then (impl_Expr_lastInstr.j0 k a0_0 (a0_0 == 16) a0_0 a0_1 a0_2 l0_3) else (if a0_0 = 17 then (impl_Expr_lastInstr.j0 k a0_0 (a0_0 == 17) a0_0 a0_1 a0_2 l0_3) else (impl_Expr_lastInstr.j0 k a0_0 (a0_0 == 18) a0_0 a0_1 a0_2 l0_3)))))) = some (r1, r2, r3) := h
 clear h
 by_cases c2 : a0_0 = 1
 ·rw [if_pos c2] at H
  have c2b0 : (a0_0 == 1) = true := beq_iff_eq.mpr c2
  have c2b1 : (a0_0 != 1) = false := bne_eq_false_iff_eq.mpr c2
  clear c2
  simp only [Option.some.injEq, Prod.mk.injEq] at H
  obtain ⟨rfl, rfl, rfl⟩ := H
  go_enter Try.func81, Try.ntmps81
  go_wp2_with (first | ((with_reducible refine gate_dst (N := 1) rfl ?_); refine sV (N := 1) (cs := #[.int .i64 a0_0, .int .i64 a0_1, .string a0_2, .slice A0_3 l0_3.length c0_3]) (t := 26) ?_; intro gb268 hg w3 hbox hb; have n0_ := sB HB hb; have n1_ := Aside0.mk (hbox); have n2_ := sG HB hg; have n3_ := sG HB hg; clear HB; have HB := n0_; have BK268 := n1_; have GW268 := n2_; have GE268 := n3_; clear n0_ n1_ n2_ n3_; clear hb hbox hg) | ((with_reducible refine gate_dst (N := 2) rfl ?_); refine sV (N := 2) (cs := #[.int .i64 0, .int .i64 0, .string (⟨#[]⟩ : ByteArray)]) (t := 89) ?_; intro gb269 hg w4 hbox hb; have n0_ := sK BK268 hb; have n1_ := sB HB hb; have n2_ := Aside0.mk (hbox); have n3_ := sG HB hg; have n4_ := sG HB hg; have n5_ := sN BK268 hg; have n6_ := sM BK268 hg; clear BK268; clear HB; have BK268 := n0_; have HB := n1_; have BK269 := n2_; have GW269 := n3_; have GE269 := n4_; have NB268_269 := n5_; have NB269_268 := n6_; clear n0_ n1_ n2_ n3_ n4_ n5_ n6_; clear hb hbox hg; have hnb5 := NB268_269.out; have hnc5 := NB269_268.out; obtain ⟨hcz6_0, hcz6_1, hcz6_2, hcz6_3, hfz6_0, hfz6_1, hfz6_2, hfz6_3⟩ := cells4 BK268.out; obtain ⟨hcz7_0, hcz7_1, hcz7_2, hfz7_0, hfz7_1, hfz7_2⟩ := cells3 BK269.out))
  refine bodyPost_ret (results_cell_row rfl _ _ gb269 89 #[.int .i64 2, .int .i64 0, .string a0_2] (0, 0) _ rfl (by exact sP3 (sT BK269.out)) Try.underlying89 rfl (by kernel_rfl)) rfl ?_
  exact ⟨sq, sb⟩
 rw [if_neg c2] at H
 have c2b0 : (a0_0 == 1) = false := beq_eq_false_iff_ne.mpr c2
 have c2b1 : (a0_0 != 1) = true := bne_iff_ne.mpr c2
 by_cases c8 : a0_0 = 2
 ·rw [if_pos c8] at H
  have c8b0 : (a0_0 == 2) = true := beq_iff_eq.mpr c8
  have c8b1 : (a0_0 != 2) = false := bne_eq_false_iff_eq.mpr c8
  clear c8
  simp only [Option.some.injEq, Prod.mk.injEq] at H
  obtain ⟨rfl, rfl, rfl⟩ := H
  go_enter Try.func81, Try.ntmps81
  go_wp2_with (first | ((with_reducible refine gate_dst (N := 1) rfl ?_); refine sV (N := 1) (cs := #[.int .i64 a0_0, .int .i64 a0_1, .string a0_2, .slice A0_3 l0_3.length c0_3]) (t := 26) ?_; intro gb268 hg w9 hbox hb; have n0_ := sB HB hb; have n1_ := Aside0.mk (hbox); have n2_ := sG HB hg; have n3_ := sG HB hg; clear HB; have HB := n0_; have BK268 := n1_; have GW268 := n2_; have GE268 := n3_; clear n0_ n1_ n2_ n3_; clear hb hbox hg) | ((with_reducible refine gate_dst (N := 2) rfl ?_); refine sV (N := 2) (cs := #[.int .i64 0, .int .i64 0, .string (⟨#[]⟩ : ByteArray)]) (t := 89) ?_; intro gb269 hg w10 hbox hb; have n0_ := sK BK268 hb; have n1_ := sB HB hb; have n2_ := Aside0.mk (hbox); have n3_ := sG HB hg; have n4_ := sG HB hg; have n5_ := sN BK268 hg; have n6_ := sM BK268 hg; clear BK268; clear HB; have BK268 := n0_; have HB := n1_; have BK269 := n2_; have GW269 := n3_; have GE269 := n4_; have NB268_269 := n5_; have NB269_268 := n6_; clear n0_ n1_ n2_ n3_ n4_ n5_ n6_; clear hb hbox hg; have hnb11 := NB268_269.out; have hnc11 := NB269_268.out; obtain ⟨hcz12_0, hcz12_1, hcz12_2, hcz12_3, hfz12_0, hfz12_1, hfz12_2, hfz12_3⟩ := cells4 BK268.out; obtain ⟨hcz13_0, hcz13_1, hcz13_2, hfz13_0, hfz13_1, hfz13_2⟩ := cells3 BK269.out))
  refine bodyPost_ret (results_cell_row rfl _ _ gb269 89 #[.int .i64 3, .int .i64 a0_1, .string (⟨#[]⟩ : ByteArray)] (0, 0) _ rfl (by exact sP3 (sT BK269.out)) Try.underlying89 rfl (by kernel_rfl)) rfl ?_
  exact ⟨sq, sb⟩
 rw [if_neg c8] at H
 have c8b0 : (a0_0 == 2) = false := beq_eq_false_iff_ne.mpr c8
 have c8b1 : (a0_0 != 2) = true := bne_iff_ne.mpr c8
 by_cases c14 : a0_0 = 3
 ·rw [if_pos c14] at H
  have c14b0 : (a0_0 == 3) = true := beq_iff_eq.mpr c14
  have c14b1 : (a0_0 != 3) = false := bne_eq_false_iff_eq.mpr c14
  clear c14
  simp only [Option.some.injEq, Prod.mk.injEq] at H
  obtain ⟨rfl, rfl, rfl⟩ := H
  go_enter Try.func81, Try.ntmps81
  go_wp2_with (first | ((with_reducible refine gate_dst (N := 1) rfl ?_); refine sV (N := 1) (cs := #[.int .i64 a0_0, .int .i64 a0_1, .string a0_2, .slice A0_3 l0_3.length c0_3]) (t := 26) ?_; intro gb268 hg w15 hbox hb; have n0_ := sB HB hb; have n1_ := Aside0.mk (hbox); have n2_ := sG HB hg; have n3_ := sG HB hg; clear HB; have HB := n0_; have BK268 := n1_; have GW268 := n2_; have GE268 := n3_; clear n0_ n1_ n2_ n3_; clear hb hbox hg) | ((with_reducible refine gate_dst (N := 2) rfl ?_); refine sV (N := 2) (cs := #[.int .i64 0, .int .i64 0, .string (⟨#[]⟩ : ByteArray)]) (t := 89) ?_; intro gb269 hg w16 hbox hb; have n0_ := sK BK268 hb; have n1_ := sB HB hb; have n2_ := Aside0.mk (hbox); have n3_ := sG HB hg; have n4_ := sG HB hg; have n5_ := sN BK268 hg; have n6_ := sM BK268 hg; clear BK268; clear HB; have BK268 := n0_; have HB := n1_; have BK269 := n2_; have GW269 := n3_; have GE269 := n4_; have NB268_269 := n5_; have NB269_268 := n6_; clear n0_ n1_ n2_ n3_ n4_ n5_ n6_; clear hb hbox hg; have hnb17 := NB268_269.out; have hnc17 := NB269_268.out; obtain ⟨hcz18_0, hcz18_1, hcz18_2, hcz18_3, hfz18_0, hfz18_1, hfz18_2, hfz18_3⟩ := cells4 BK268.out; obtain ⟨hcz19_0, hcz19_1, hcz19_2, hfz19_0, hfz19_1, hfz19_2⟩ := cells3 BK269.out))
  refine bodyPost_ret (results_cell_row rfl _ _ gb269 89 #[.int .i64 4, .int .i64 0, .string a0_2] (0, 0) _ rfl (by exact sP3 (sT BK269.out)) Try.underlying89 rfl (by kernel_rfl)) rfl ?_
  exact ⟨sq, sb⟩
 rw [if_neg c14] at H
 have c14b0 : (a0_0 == 3) = false := beq_eq_false_iff_ne.mpr c14
 have c14b1 : (a0_0 != 3) = true := bne_iff_ne.mpr c14
 have HC20 := Aside0.mk H
 clear H
 go_enter Try.func81, Try.ntmps81
 go_upto_if 20 with (first | ((with_reducible refine gate_dst (N := 1) rfl ?_); refine sV (N := 1) (cs := #[.int .i64 a0_0, .int .i64 a0_1, .string a0_2, .slice A0_3 l0_3.length c0_3]) (t := 26) ?_; intro gb268 hg w21 hbox hb; have n0_ := sB HB hb; have n1_ := Aside0.mk (hbox); have n2_ := sG HB hg; have n3_ := sG HB hg; clear HB; have HB := n0_; have BK268 := n1_; have GW268 := n2_; have GE268 := n3_; clear n0_ n1_ n2_ n3_; clear hb hbox hg) | ((with_reducible refine gate_dst (N := 2) rfl ?_); refine sV (N := 2) (cs := #[.int .i64 0, .int .i64 0, .string (⟨#[]⟩ : ByteArray)]) (t := 89) ?_; intro gb269 hg w22 hbox hb; have n0_ := sK BK268 hb; have n1_ := sB HB hb; have n2_ := Aside0.mk (hbox); have n3_ := sG HB hg; have n4_ := sG HB hg; have n5_ := sN BK268 hg; have n6_ := sM BK268 hg; clear BK268; clear HB; have BK268 := n0_; have HB := n1_; have BK269 := n2_; have GW269 := n3_; have GE269 := n4_; have NB268_269 := n5_; have NB269_268 := n6_; clear n0_ n1_ n2_ n3_ n4_ n5_ n6_; clear hb hbox hg; have hnb23 := NB268_269.out; have hnc23 := NB269_268.out; obtain ⟨hcz24_0, hcz24_1, hcz24_2, hcz24_3, hfz24_0, hfz24_1, hfz24_2, hfz24_3⟩ := cells4 BK268.out))
 (try simp only [Act.put, List.setIfInBounds_toArray, List.set_cons_zero, List.set_cons_succ])
 go_cut [20] (fun v20 wc => ∃ (kq : Nat) (x20_19 : Bool), v20 = .bool x20_19 ∧ Aside0 (impl_Expr_lastInstr.j0 kq a0_0 x20_19 a0_0 a0_1 a0_2 l0_3 = some (r1, r2, r3)) ∧ Aside0 (kq ≤ k) ∧ Aside0 (wc.heap[gb268]? = some (.cells #[.int .i64 a0_0, .int .i64 a0_1, .string a0_2, (.slice A0_3 l0_3.length c0_3)] 26 (0, 0))) ∧ Aside0 (wc.heap[gb269]? = some (.cells #[.int .i64 0, .int .i64 0, .string (⟨#[]⟩ : ByteArray)] 89 (0, 0))) ∧ Aside0 (Below w.heap.size w wc))
 case first =>
  have H := HC20.out
  clear HC20
  by_cases c25 : a0_0 = 16
  ·rw [if_pos c25] at H
   have c25b0 : (a0_0 == 16) = true := beq_iff_eq.mpr c25
   have c25b1 : (a0_0 != 16) = false := bne_eq_false_iff_eq.mpr c25
   clear c25
   (first | rw [c25b0] | (simp only [i64_w, i32_w]; rw [c25b0]) | rw [c25b2] | skip)
   have H' := Aside0.mk H
   clear H
   go_wp2
   go_meet
   case rel => exact ⟨_, ((a0_0 == 16)), sr, H', ⟨by first | omega | exact Nat.le_refl _⟩, ⟨by exact sT BK268.out⟩, ⟨by exact sT BK269.out⟩, ⟨sb⟩⟩
  rw [if_neg c25] at H
  have c25b0 : (a0_0 == 16) = false := beq_eq_false_iff_ne.mpr c25
  have c25b1 : (a0_0 != 16) = true := bne_iff_ne.mpr c25
  (first | rw [c25b0] | (simp only [i64_w, i32_w]; rw [c25b0]) | rw [c25b2] | skip)
  by_cases c26 : a0_0 = 17
  ·rw [if_pos c26] at H
   have c26b0 : (a0_0 == 17) = true := beq_iff_eq.mpr c26
   have c26b1 : (a0_0 != 17) = false := bne_eq_false_iff_eq.mpr c26
   clear c26
   have H' := Aside0.mk H
   clear H
   go_wp2
   go_meet
   case rel => exact ⟨_, ((a0_0 == 17)), sr, H', ⟨by first | omega | exact Nat.le_refl _⟩, ⟨by exact sT BK268.out⟩, ⟨by exact sT BK269.out⟩, ⟨sb⟩⟩
  rw [if_neg c26] at H
  have c26b0 : (a0_0 == 17) = false := beq_eq_false_iff_ne.mpr c26
  have c26b1 : (a0_0 != 17) = true := bne_iff_ne.mpr c26
  have H' := Aside0.mk H
  clear H
  go_wp2
  go_meet
  case rel => exact ⟨_, ((a0_0 == 18)), sr, H', ⟨by first | omega | exact Nat.le_refl _⟩, ⟨by exact sT BK268.out⟩, ⟨by exact sT BK269.out⟩, ⟨sb⟩⟩
 case rest =>
  clear HC20
  try clear c1
  try clear c2
  try clear c2b0
  try clear c2b1
  try clear p2
  try clear c5
  try clear c8
  try clear c8b0
  try clear c8b1
  try clear c11
  try clear c14
  try clear c14b0
  try clear c14b1
  try clear c17
  try clear c23
  try clear c25
  try clear c25b0
  try clear c25b1
  try clear c25b2
  try clear c26
  try clear c26b0
  try clear c26b1
  try clear hcz12_0
  try clear hcz12_1
  try clear hcz12_2
  try clear hcz12_3
  try clear hcz13_0
  try clear hcz13_1
  try clear hcz13_2
  try clear hcz18_0
  try clear hcz18_1
  try clear hcz18_2
  try clear hcz18_3
  try clear hcz19_0
  try clear hcz19_1
  try clear hcz19_2
  try clear hcz24_0
  try clear hcz24_1
  try clear hcz24_2
  try clear hcz24_3
  try clear hcz6_0
  try clear hcz6_1
  try clear hcz6_2
  try clear hcz6_3
  try clear hcz7_0
  try clear hcz7_1
  try clear hcz7_2
  try clear hfz12_0
  try clear hfz12_1
  try clear hfz12_2
  try clear hfz12_3
  try clear hfz13_0
  try clear hfz13_1
  try clear hfz13_2
  try clear hfz18_0
  try clear hfz18_1
  try clear hfz18_2
  try clear hfz18_3
  try clear hfz19_0
  try clear hfz19_1
  try clear hfz19_2
  try clear hfz24_0
  try clear hfz24_1
  try clear hfz24_2
  try clear hfz24_3
  try clear hfz6_0
  try clear hfz6_1
  try clear hfz6_2
  try clear hfz6_3
  try clear hfz7_0
  try clear hfz7_1
  try clear hfz7_2
  obtain ⟨kq, x20_19, rfl, HA, HJ19, BK268, BK269, HB⟩ := hcut
  cases kq with
  | zero => exact absurd HA.out (by simp [impl_Expr_lastInstr.j0])
  | succ kj19 =>
   have H := HA.out
   clear HA
   simp only [impl_Expr_lastInstr.j0] at H
   by_cases c27 : x20_19 = true
   ·subst c27
    rewrite [if_pos rfl] at H
    simp only [Option.some.injEq, Prod.mk.injEq] at H
    obtain ⟨rfl, rfl, rfl⟩ := H
    have hnb28 := NB268_269.out
    have hnc28 := NB269_268.out
    obtain ⟨hcz29_0, hcz29_1, hcz29_2, hcz29_3, hfz29_0, hfz29_1, hfz29_2, hfz29_3⟩ := cells4 BK268.out
    obtain ⟨hcz30_0, hcz30_1, hcz30_2, hfz30_0, hfz30_1, hfz30_2⟩ := cells3 BK269.out
    go_wp2
    refine bodyPost_ret (results_cell_row rfl _ _ gb269 89 #[.int .i64 (wrap64 ((wrap64 (a0_0 - 16)) + 5)), .int .i64 0, .string a0_2] (0, 0) _ rfl (by exact sP3 (sT BK269.out)) Try.underlying89 rfl (by kernel_rfl)) rfl ?_
    exact ⟨sq, sb⟩
   replace c27 := Bool.eq_false_iff.mpr c27
   subst c27
   rewrite [if_neg (show ¬ (false = true) by decide)] at H
   by_cases c31 : a0_0 = 4
   ·rw [if_pos c31] at H
    have c31b0 : (a0_0 == 4) = true := beq_iff_eq.mpr c31
    have c31b1 : (a0_0 != 4) = false := bne_eq_false_iff_eq.mpr c31
    clear c31
    simp only [Option.some.injEq, Prod.mk.injEq] at H
    obtain ⟨rfl, rfl, rfl⟩ := H
    have hnb32 := NB268_269.out
    have hnc32 := NB269_268.out
    obtain ⟨hcz33_0, hcz33_1, hcz33_2, hcz33_3, hfz33_0, hfz33_1, hfz33_2, hfz33_3⟩ := cells4 BK268.out
    obtain ⟨hcz34_0, hcz34_1, hcz34_2, hfz34_0, hfz34_1, hfz34_2⟩ := cells3 BK269.out
    go_wp2
    refine bodyPost_ret (results_cell_row rfl _ _ gb269 89 #[.int .i64 13, .int .i64 (l0_3.length : Int), .string a0_2] (0, 0) _ rfl (by exact sP3 (sT BK269.out)) Try.underlying89 rfl (by kernel_rfl)) rfl ?_
    exact ⟨sq, sb⟩
   rw [if_neg c31] at H
   have c31b0 : (a0_0 == 4) = false := beq_eq_false_iff_ne.mpr c31
   have c31b1 : (a0_0 != 4) = true := bne_iff_ne.mpr c31
   by_cases c35 : a0_0 = 5
   ·rw [if_pos c35] at H
    have c35b0 : (a0_0 == 5) = true := beq_iff_eq.mpr c35
    have c35b1 : (a0_0 != 5) = false := bne_eq_false_iff_eq.mpr c35
    clear c35
    simp only [Option.some.injEq, Prod.mk.injEq] at H
    obtain ⟨rfl, rfl, rfl⟩ := H
    have hnb36 := NB269_268.out
    have hnc36 := NB268_269.out
    obtain ⟨hcz37_0, hcz37_1, hcz37_2, hfz37_0, hfz37_1, hfz37_2⟩ := cells3 BK269.out
    go_wp2
    refine bodyPost_ret (results_cell_row rfl _ _ gb269 89 #[.int .i64 12, .int .i64 0, .string (⟨#[]⟩ : ByteArray)] (0, 0) _ rfl (by exact sP3 (sT BK269.out)) Try.underlying89 rfl (by kernel_rfl)) rfl ?_
    exact ⟨sq, sb⟩
   rw [if_neg c35] at H
   have c35b0 : (a0_0 == 5) = false := beq_eq_false_iff_ne.mpr c35
   have c35b1 : (a0_0 != 5) = true := bne_iff_ne.mpr c35
   by_cases c38 : a0_0 = 14
   ·rw [if_pos c38] at H
    have c38b0 : (a0_0 == 14) = true := beq_iff_eq.mpr c38
    have c38b1 : (a0_0 != 14) = false := bne_eq_false_iff_eq.mpr c38
    clear c38
    simp only [Option.some.injEq, Prod.mk.injEq] at H
    obtain ⟨rfl, rfl, rfl⟩ := H
    have hnb39 := NB269_268.out
    have hnc39 := NB268_269.out
    obtain ⟨hcz40_0, hcz40_1, hcz40_2, hfz40_0, hfz40_1, hfz40_2⟩ := cells3 BK269.out
    go_wp2
    refine bodyPost_ret (results_cell_row rfl _ _ gb269 89 #[.int .i64 9, .int .i64 0, .string (⟨#[]⟩ : ByteArray)] (0, 0) _ rfl (by exact sP3 (sT BK269.out)) Try.underlying89 rfl (by kernel_rfl)) rfl ?_
    exact ⟨sq, sb⟩
   rw [if_neg c38] at H
   have c38b0 : (a0_0 == 14) = false := beq_eq_false_iff_ne.mpr c38
   have c38b1 : (a0_0 != 14) = true := bne_iff_ne.mpr c38
   by_cases c41 : a0_0 = 15
   ·rw [if_pos c41] at H
    have c41b0 : (a0_0 == 15) = true := beq_iff_eq.mpr c41
    have c41b1 : (a0_0 != 15) = false := bne_eq_false_iff_eq.mpr c41
    clear c41
    simp only [Option.some.injEq, Prod.mk.injEq] at H
    obtain ⟨rfl, rfl, rfl⟩ := H
    have hnb42 := NB269_268.out
    have hnc42 := NB268_269.out
    obtain ⟨hcz43_0, hcz43_1, hcz43_2, hfz43_0, hfz43_1, hfz43_2⟩ := cells3 BK269.out
    go_wp2
    refine bodyPost_ret (results_cell_row rfl _ _ gb269 89 #[.int .i64 10, .int .i64 0, .string (⟨#[]⟩ : ByteArray)] (0, 0) _ rfl (by exact sP3 (sT BK269.out)) Try.underlying89 rfl (by kernel_rfl)) rfl ?_
    exact ⟨sq, sb⟩
   rw [if_neg c41] at H
   have c41b0 : (a0_0 == 15) = false := beq_eq_false_iff_ne.mpr c41
   have c41b1 : (a0_0 != 15) = true := bne_iff_ne.mpr c41
   by_cases c44 : a0_0 = 12
   ·rw [if_pos c44] at H
    have c44b0 : (a0_0 == 12) = true := beq_iff_eq.mpr c44
    have c44b1 : (a0_0 != 12) = false := bne_eq_false_iff_eq.mpr c44
    clear c44
    by_cases c45 : 1 < (l0_3.length : Int)
    ·rw [if_pos c45] at H
     have c45b0 := decide_eq_true c45
     have c45b1 : decide (1 < l0_3.length) = true := decide_eq_true (by omega)
     clear c45
     simp only [Option.some.injEq, Prod.mk.injEq] at H
     obtain ⟨rfl, rfl, rfl⟩ := H
     try go_wp2
     have n0_ := Aside0.mk (blk_drew BK268.out)
     have n1_ := Aside0.mk (blk_drew BK269.out)
     have n2_ := Aside0.mk (below_drew1 HB.out)
     clear BK268
     clear BK269
     clear HB
     have BK268 := n0_
     have BK269 := n1_
     have HB := n2_
     clear n0_ n1_ n2_
     have p270 : 0 ≤ (1 : Int) := (by omega)
     have q270 : 1 < (l0_3.length : Int) := of_decide_eq_true (by first | (with_reducible assumption) | assumption)
     obtain ⟨ad270, A270_3, c270_3, e270, hx270_0, hx270_1, hx270_2, hx270_3, hl270_3, hi270_3⟩ := at_T26 HR0_3.out 1 p270 q270
     have hw270_3 := hx270_3
     (try rw [show ((1 : Int)).toNat = 1 from rfl] at hw270_3)
     (try rw [show 1 * 4 = 4 from rfl] at hw270_3)
     (try simp only [Nat.reduceMul, Nat.reduceEqDiff, Go.Addr.add, ↓reduceIte] at hw270_3)
     have hw270_2 := hx270_2
     (try rw [show ((1 : Int)).toNat = 1 from rfl] at hw270_2)
     (try rw [show 1 * 4 = 4 from rfl] at hw270_2)
     (try simp only [Nat.reduceMul, Nat.reduceEqDiff, Go.Addr.add, ↓reduceIte] at hw270_2)
     have hw270_1 := hx270_1
     (try rw [show ((1 : Int)).toNat = 1 from rfl] at hw270_1)
     (try rw [show 1 * 4 = 4 from rfl] at hw270_1)
     (try simp only [Nat.reduceMul, Nat.reduceEqDiff, Go.Addr.add, ↓reduceIte] at hw270_1)
     have hw270_0 := hx270_0
     (try rw [show ((1 : Int)).toNat = 1 from rfl] at hw270_0)
     (try rw [show 1 * 4 = 4 from rfl] at hw270_0)
     (try simp only [Nat.reduceMul, Nat.reduceEqDiff, Go.Addr.add, ↓reduceIte] at hw270_0)
     cases e270
     (try simp only [show (1 : Int).toNat = 1 from rfl, Nat.reduceMul, Nat.reduceEqDiff, Go.Addr.add, ↓reduceIte] at hx270_0)
     (try simp only [show (1 : Int).toNat = 1 from rfl, Nat.reduceMul, Nat.reduceEqDiff, Go.Addr.add, ↓reduceIte] at hx270_1)
     (try simp only [show (1 : Int).toNat = 1 from rfl, Nat.reduceMul, Nat.reduceEqDiff, Go.Addr.add, ↓reduceIte] at hx270_2)
     (try simp only [show (1 : Int).toNat = 1 from rfl, Nat.reduceMul, Nat.reduceEqDiff, Go.Addr.add, ↓reduceIte] at hx270_3)
     have qi270 : (1 < l0_3.length) = True := eq_true (by omega)
     (try rw [show ((1 : Int)).toNat = 1 from rfl] at hx270_0)
     (try rw [show 1 * 4 = 4 from rfl] at hx270_0)
     (try rw [show ((1 : Int)).toNat = 1 from rfl] at hx270_1)
     (try rw [show 1 * 4 = 4 from rfl] at hx270_1)
     (try rw [show ((1 : Int)).toNat = 1 from rfl] at hx270_2)
     (try rw [show 1 * 4 = 4 from rfl] at hx270_2)
     (try rw [show ((1 : Int)).toNat = 1 from rfl] at hx270_3)
     (try rw [show 1 * 4 = 4 from rfl] at hx270_3)
     replace hx270_0 := sX HB hx270_0
     replace hx270_1 := sX HB hx270_1
     replace hx270_2 := sX HB hx270_2
     replace hx270_3 := sX HB hx270_3
     have HR270_3 := Aside0.mk hi270_3
     have HC270_3 := Aside0.mk hl270_3
     clear hi270_3 hl270_3
     replace p270 := eq_true p270
     replace q270 := eq_true q270
     refine start_ (n := 11) (S := fun w' => w'.cell? ⟨gb268, 0, none⟩ = some (.int .i64 a0_0) ∧ w'.cell? ⟨gb268, 1, none⟩ = some (.int .i64 a0_1) ∧ w'.cell? ⟨gb268, 2, none⟩ = some (.string a0_2) ∧ w'.cell? ⟨gb268, 3, none⟩ = some (.slice (some ad270) l0_3.length c0_3) ∧ w'.cell? ⟨ad270.block, ad270.off + 4, none⟩ = some (.int .i64 ((rd_T26 l0_3 1).f0)) ∧ w'.cell? ⟨ad270.block, ad270.off + 4 + 1, none⟩ = some (.int .i64 ((rd_T26 l0_3 1).f1)) ∧ w'.cell? ⟨ad270.block, ad270.off + 4 + 2, none⟩ = some (.string ((rd_T26 l0_3 1).f2)) ∧ w'.cell? ⟨ad270.block, ad270.off + 4 + 3, none⟩ = some (.slice A270_3 ((rd_T26 l0_3 1).f3).length c270_3)) (ds := []) #[false, false, false, false, false, false, false, false, false, false, false] (by kernel_rfl) rfl rfl ⟨(blk_cell BK268.out 0).trans rfl, (blk_cell BK268.out 1).trans rfl, (blk_cell BK268.out 2).trans rfl, (blk_cell BK268.out 3).trans rfl, ((HB.out.cell (World.block_lt_of_cell? w _ hw270_0)).trans hw270_0), ((HB.out.cell (World.block_lt_of_cell? w _ hw270_1)).trans hw270_1), ((HB.out.cell (World.block_lt_of_cell? w _ hw270_2)).trans hw270_2), ((HB.out.cell (World.block_lt_of_cell? w _ hw270_3)).trans hw270_3)⟩ (fun hHeld => ?_); refine with_tabW impl_Expr_lastInstr.tab22 impl_Expr_lastInstr.bits22 (fun HT_ HW_ => ?_)
     generalize wc.drew = w46 at BK268 BK269 HB HR270_3 hx270_0 hx270_1 hx270_2 hx270_3 hHeld ⊢
     refine pure_ (i := 0) (N := some 51) (v := ?_) (a' := ?_) (bN 11 1) rfl rfl (any_of HT_.out (by kernel_rfl)) (fun _ _ _ h => h) (Or.inl ⟨by rfl, ?_⟩) ?_ ?_
     rotate_left
     ·intro w'
      go_simp
      with_reducible rfl
     rotate_left
     ·simp only [Act.put, List.setIfInBounds_toArray, List.set_cons_zero, List.set_cons_succ, i64_w, i32_w]
      rfl
     refine pure_ (i := 4) (N := some 55) (v := ?_) (a' := ?_) (bN 11 17) rfl rfl (any_of HT_.out (by kernel_rfl)) (fun _ _ _ h => h) (Or.inl ⟨by rfl, ?_⟩) ?_ ?_
     rotate_left
     ·intro w'
      go_simp
      with_reducible rfl
     rotate_left
     ·simp only [Act.put, List.setIfInBounds_toArray, List.set_cons_zero, List.set_cons_succ, i64_w, i32_w]
      rfl
     refine take_ (i := 1) (N := some 52) (v := ?_) (a' := ?_) (bN 11 19) rfl rfl (take_ofW HT_.out HW_.out (by kernel_rfl)) (fun _ _ _ h => h) (Or.inl ⟨by rfl, ?_⟩) hHeld ?_ ?_
     rotate_left
     ·rintro w' ⟨s0, s1, s2, s3, s4, s5, s6, s7⟩
      go_simp
      with_reducible rfl
     rotate_left
     ·simp only [Act.put, List.setIfInBounds_toArray, List.set_cons_zero, List.set_cons_succ, i64_w, i32_w]
      rfl
     refine pure_ (i := 2) (N := some 53) (v := ?_) (a' := ?_) (bN 11 23) rfl rfl (any_of HT_.out (by kernel_rfl)) (fun _ _ _ h => h) (Or.inl ⟨by rfl, ?_⟩) ?_ ?_
     rotate_left
     ·intro w'
      go_simp
      with_reducible rfl
     rotate_left
     ·simp only [Act.put, List.setIfInBounds_toArray, List.set_cons_zero, List.set_cons_succ, i64_w, i32_w]
      rfl
     refine pure_ (i := 3) (N := some 54) (v := ?_) (a' := ?_) (bN 11 31) rfl rfl (any_of HT_.out (by kernel_rfl)) (fun _ _ _ h => h) (Or.inl ⟨by rfl, ?_⟩) ?_ ?_
     rotate_left
     ·intro w'
      go_simp
      with_reducible rfl
     rotate_left
     ·simp only [Act.put, List.setIfInBounds_toArray, List.set_cons_zero, List.set_cons_succ, i64_w, i32_w]
      rfl
     refine take_ (i := 5) (N := some 56) (v := ?_) (a' := ?_) (bN 11 63) rfl rfl (take_ofW HT_.out HW_.out (by kernel_rfl)) (fun _ _ _ h => h) (Or.inl ⟨by rfl, ?_⟩) hHeld ?_ ?_
     rotate_left
     ·rintro w' ⟨s0, s1, s2, s3, s4, s5, s6, s7⟩
      go_simp
      with_reducible rfl
     rotate_left
     ·simp only [Act.put, List.setIfInBounds_toArray, List.set_cons_zero, List.set_cons_succ, i64_w, i32_w]
      rfl
     refine pure_ (i := 6) (N := some 57) (v := ?_) (a' := ?_) (bN 11 127) rfl rfl (any_of HT_.out (by kernel_rfl)) (fun _ _ _ h => h) (Or.inl ⟨by rfl, ?_⟩) ?_ ?_
     rotate_left
     ·intro w'
      go_simp
      with_reducible rfl
     rotate_left
     ·simp only [Act.put, List.setIfInBounds_toArray, List.set_cons_zero, List.set_cons_succ, i64_w, i32_w]
      rfl
     refine pure_ (i := 7) (N := some 58) (v := ?_) (a' := ?_) (bN 11 255) rfl rfl (any_of HT_.out (by kernel_rfl)) (fun _ _ _ h => h) (Or.inl ⟨by rfl, ?_⟩) ?_ ?_
     rotate_left
     ·intro w'
      go_simp
      with_reducible rfl
     rotate_left
     ·simp only [Act.put, List.setIfInBounds_toArray, List.set_cons_zero, List.set_cons_succ, i64_w, i32_w]
      rfl
     refine take_ (i := 8) (N := some 59) (v := ?_) (a' := ?_) (bN 11 511) rfl rfl (take_ofW HT_.out HW_.out (by kernel_rfl)) (fun _ _ _ h => h) (Or.inl ⟨by rfl, ?_⟩) hHeld ?_ ?_
     rotate_left
     ·rintro w' ⟨s0, s1, s2, s3, s4, s5, s6, s7⟩
      go_simp
      with_reducible rfl
     rotate_left
     ·simp only [Act.put, List.setIfInBounds_toArray, List.set_cons_zero, List.set_cons_succ, i64_w, i32_w]
      rfl
     refine pure_ (i := 9) (N := some 60) (v := ?_) (a' := ?_) (bN 11 1023) rfl rfl (any_of HT_.out (by kernel_rfl)) (fun _ _ _ h => h) (Or.inl ⟨by rfl, ?_⟩) ?_ ?_
     rotate_left
     ·intro w'
      go_simp
      with_reducible rfl
     rotate_left
     ·simp only [Act.put, List.setIfInBounds_toArray, List.set_cons_zero, List.set_cons_succ, i64_w, i32_w]
      rfl
     refine one_ (i := 10) (N := none) (bN 11 2047) rfl rfl (one_of HT_.out (by kernel_rfl)) (by decide) (fun K hK => ?_)
     have hs47 : w46.cell? ⟨gb269, 0, none⟩ = some (.int .i64 0) := (blk_cell BK269.out 0).trans rfl
     have hfs47 := blk_frozen BK269.out 0
     have hns47_0 := NB268_269.out
     have hms47_0 := NB269_268.out
     have hs48 : w46.cell? ⟨gb269, 1, none⟩ = some (.int .i64 0) := (blk_cell BK269.out 1).trans rfl
     have hfs48 := blk_frozen BK269.out 1
     have hns48_0 := NB268_269.out
     have hms48_0 := NB269_268.out
     have hs49 : w46.cell? ⟨gb269, 2, none⟩ = some (.string (⟨#[]⟩ : ByteArray)) := (blk_cell BK269.out 2).trans rfl
     have hfs49 := blk_frozen BK269.out 2
     have hns49_0 := NB268_269.out
     have hms49_0 := NB269_268.out
     refine skip_ (w1 := ?_) (by rfl) rfl ?_ ?_
     rotate_left
     ·go_simp
      rfl
     refine hK.out _ _ ⟨(sQ3 (g := gb269) NB268_269.out (hHeld.1)), (sQ3 (g := gb269) NB268_269.out (hHeld.2.1)), (sQ3 (g := gb269) NB268_269.out (hHeld.2.2.1)), (sQ3 (g := gb269) NB268_269.out (hHeld.2.2.2.1)), (sQ3 (g := gb269) (by first | exact Nat.ne_of_lt (Nat.lt_of_lt_of_le (by have := World.block_lt_of_cell? _ _ hw270_0; first | rwa [add_block] at this | exact this) GW269.out) | (rw [add_block]; exact Nat.ne_of_lt (Nat.lt_of_lt_of_le (by have := World.block_lt_of_cell? _ _ hw270_0; first | rwa [add_block] at this | exact this) GW269.out)) | (show (Addr.add _ _).block ≠ _; rw [add_block]; exact Nat.ne_of_lt (Nat.lt_of_lt_of_le (by have := World.block_lt_of_cell? _ _ hw270_0; first | rwa [add_block] at this | exact this) GW269.out)) | (dsimp only; exact Nat.ne_of_lt (Nat.lt_of_lt_of_le (by have := World.block_lt_of_cell? _ _ hw270_0; first | rwa [add_block] at this | exact this) GW269.out))) (hHeld.2.2.2.2.1)), (sQ3 (g := gb269) (by first | exact Nat.ne_of_lt (Nat.lt_of_lt_of_le (by have := World.block_lt_of_cell? _ _ hw270_1; first | rwa [add_block] at this | exact this) GW269.out) | (rw [add_block]; exact Nat.ne_of_lt (Nat.lt_of_lt_of_le (by have := World.block_lt_of_cell? _ _ hw270_1; first | rwa [add_block] at this | exact this) GW269.out)) | (show (Addr.add _ _).block ≠ _; rw [add_block]; exact Nat.ne_of_lt (Nat.lt_of_lt_of_le (by have := World.block_lt_of_cell? _ _ hw270_1; first | rwa [add_block] at this | exact this) GW269.out)) | (dsimp only; exact Nat.ne_of_lt (Nat.lt_of_lt_of_le (by have := World.block_lt_of_cell? _ _ hw270_1; first | rwa [add_block] at this | exact this) GW269.out))) (hHeld.2.2.2.2.2.1)), (sQ3 (g := gb269) (by first | exact Nat.ne_of_lt (Nat.lt_of_lt_of_le (by have := World.block_lt_of_cell? _ _ hw270_2; first | rwa [add_block] at this | exact this) GW269.out) | (rw [add_block]; exact Nat.ne_of_lt (Nat.lt_of_lt_of_le (by have := World.block_lt_of_cell? _ _ hw270_2; first | rwa [add_block] at this | exact this) GW269.out)) | (show (Addr.add _ _).block ≠ _; rw [add_block]; exact Nat.ne_of_lt (Nat.lt_of_lt_of_le (by have := World.block_lt_of_cell? _ _ hw270_2; first | rwa [add_block] at this | exact this) GW269.out)) | (dsimp only; exact Nat.ne_of_lt (Nat.lt_of_lt_of_le (by have := World.block_lt_of_cell? _ _ hw270_2; first | rwa [add_block] at this | exact this) GW269.out))) (hHeld.2.2.2.2.2.2.1)), (sQ3 (g := gb269) (by first | exact Nat.ne_of_lt (Nat.lt_of_lt_of_le (by have := World.block_lt_of_cell? _ _ hw270_3; first | rwa [add_block] at this | exact this) GW269.out) | (rw [add_block]; exact Nat.ne_of_lt (Nat.lt_of_lt_of_le (by have := World.block_lt_of_cell? _ _ hw270_3; first | rwa [add_block] at this | exact this) GW269.out)) | (show (Addr.add _ _).block ≠ _; rw [add_block]; exact Nat.ne_of_lt (Nat.lt_of_lt_of_le (by have := World.block_lt_of_cell? _ _ hw270_3; first | rwa [add_block] at this | exact this) GW269.out)) | (dsimp only; exact Nat.ne_of_lt (Nat.lt_of_lt_of_le (by have := World.block_lt_of_cell? _ _ hw270_3; first | rwa [add_block] at this | exact this) GW269.out))) (hHeld.2.2.2.2.2.2.2))⟩ (fun hHeld => ?_)
     clear hK K
     refine done_ (done_of HT_.out (by kernel_rfl)) ?_
     try go_wp2
     refine bodyPost_ret (results_cell_row rfl _ _ gb269 89 #[.int .i64 11, .int .i64 (wrap64 ((wrap64 (a0_0 - 12)) + 21)), .string ((rd_T26 l0_3 1).f2)] (0, 0) _ rfl (by exact sP3 (sT BK269.out)) Try.underlying89 rfl (by kernel_rfl)) rfl ?_
     exact ⟨sq, sb⟩
    rw [if_neg c45] at H
    exact absurd H (by simp)
   rw [if_neg c44] at H
   have c44b0 : (a0_0 == 12) = false := beq_eq_false_iff_ne.mpr c44
   have c44b1 : (a0_0 != 12) = true := bne_iff_ne.mpr c44
   by_cases c50 : a0_0 = 13
   ·rw [if_pos c50] at H
    have c50b0 : (a0_0 == 13) = true := beq_iff_eq.mpr c50
    have c50b1 : (a0_0 != 13) = false := bne_eq_false_iff_eq.mpr c50
    clear c50
    by_cases c51 : 1 < (l0_3.length : Int)
    ·rw [if_pos c51] at H
     have c51b0 := decide_eq_true c51
     have c51b1 : decide (1 < l0_3.length) = true := decide_eq_true (by omega)
     clear c51
     simp only [Option.some.injEq, Prod.mk.injEq] at H
     obtain ⟨rfl, rfl, rfl⟩ := H
     try go_wp2
     have n0_ := Aside0.mk (blk_drew BK268.out)
     have n1_ := Aside0.mk (blk_drew BK269.out)
     have n2_ := Aside0.mk (below_drew1 HB.out)
     clear BK268
     clear BK269
     clear HB
     have BK268 := n0_
     have BK269 := n1_
     have HB := n2_
     clear n0_ n1_ n2_
     have p271 : 0 ≤ (1 : Int) := (by omega)
     have q271 : 1 < (l0_3.length : Int) := of_decide_eq_true (by first | (with_reducible assumption) | assumption)
     obtain ⟨ad271, A271_3, c271_3, e271, hx271_0, hx271_1, hx271_2, hx271_3, hl271_3, hi271_3⟩ := at_T26 HR0_3.out 1 p271 q271
     have hw271_3 := hx271_3
     (try rw [show ((1 : Int)).toNat = 1 from rfl] at hw271_3)
     (try rw [show 1 * 4 = 4 from rfl] at hw271_3)
     (try simp only [Nat.reduceMul, Nat.reduceEqDiff, Go.Addr.add, ↓reduceIte] at hw271_3)
     have hw271_2 := hx271_2
     (try rw [show ((1 : Int)).toNat = 1 from rfl] at hw271_2)
     (try rw [show 1 * 4 = 4 from rfl] at hw271_2)
     (try simp only [Nat.reduceMul, Nat.reduceEqDiff, Go.Addr.add, ↓reduceIte] at hw271_2)
     have hw271_1 := hx271_1
     (try rw [show ((1 : Int)).toNat = 1 from rfl] at hw271_1)
     (try rw [show 1 * 4 = 4 from rfl] at hw271_1)
     (try simp only [Nat.reduceMul, Nat.reduceEqDiff, Go.Addr.add, ↓reduceIte] at hw271_1)
     have hw271_0 := hx271_0
     (try rw [show ((1 : Int)).toNat = 1 from rfl] at hw271_0)
     (try rw [show 1 * 4 = 4 from rfl] at hw271_0)
     (try simp only [Nat.reduceMul, Nat.reduceEqDiff, Go.Addr.add, ↓reduceIte] at hw271_0)
     cases e271
     (try simp only [show (1 : Int).toNat = 1 from rfl, Nat.reduceMul, Nat.reduceEqDiff, Go.Addr.add, ↓reduceIte] at hx271_0)
     (try simp only [show (1 : Int).toNat = 1 from rfl, Nat.reduceMul, Nat.reduceEqDiff, Go.Addr.add, ↓reduceIte] at hx271_1)
     (try simp only [show (1 : Int).toNat = 1 from rfl, Nat.reduceMul, Nat.reduceEqDiff, Go.Addr.add, ↓reduceIte] at hx271_2)
     (try simp only [show (1 : Int).toNat = 1 from rfl, Nat.reduceMul, Nat.reduceEqDiff, Go.Addr.add, ↓reduceIte] at hx271_3)
     have qi271 : (1 < l0_3.length) = True := eq_true (by omega)
     (try rw [show ((1 : Int)).toNat = 1 from rfl] at hx271_0)
     (try rw [show 1 * 4 = 4 from rfl] at hx271_0)
     (try rw [show ((1 : Int)).toNat = 1 from rfl] at hx271_1)
     (try rw [show 1 * 4 = 4 from rfl] at hx271_1)
     (try rw [show ((1 : Int)).toNat = 1 from rfl] at hx271_2)
     (try rw [show 1 * 4 = 4 from rfl] at hx271_2)
     (try rw [show ((1 : Int)).toNat = 1 from rfl] at hx271_3)
     (try rw [show 1 * 4 = 4 from rfl] at hx271_3)
     replace hx271_0 := sX HB hx271_0
     replace hx271_1 := sX HB hx271_1
     replace hx271_2 := sX HB hx271_2
     replace hx271_3 := sX HB hx271_3
     have HR271_3 := Aside0.mk hi271_3
     have HC271_3 := Aside0.mk hl271_3
     clear hi271_3 hl271_3
     replace p271 := eq_true p271
     replace q271 := eq_true q271
     refine start_ (n := 11) (S := fun w' => w'.cell? ⟨gb268, 0, none⟩ = some (.int .i64 a0_0) ∧ w'.cell? ⟨gb268, 1, none⟩ = some (.int .i64 a0_1) ∧ w'.cell? ⟨gb268, 2, none⟩ = some (.string a0_2) ∧ w'.cell? ⟨gb268, 3, none⟩ = some (.slice (some ad271) l0_3.length c0_3) ∧ w'.cell? ⟨ad271.block, ad271.off + 4, none⟩ = some (.int .i64 ((rd_T26 l0_3 1).f0)) ∧ w'.cell? ⟨ad271.block, ad271.off + 4 + 1, none⟩ = some (.int .i64 ((rd_T26 l0_3 1).f1)) ∧ w'.cell? ⟨ad271.block, ad271.off + 4 + 2, none⟩ = some (.string ((rd_T26 l0_3 1).f2)) ∧ w'.cell? ⟨ad271.block, ad271.off + 4 + 3, none⟩ = some (.slice A271_3 ((rd_T26 l0_3 1).f3).length c271_3)) (ds := []) #[false, false, false, false, false, false, false, false, false, false, false] (by kernel_rfl) rfl rfl ⟨(blk_cell BK268.out 0).trans rfl, (blk_cell BK268.out 1).trans rfl, (blk_cell BK268.out 2).trans rfl, (blk_cell BK268.out 3).trans rfl, ((HB.out.cell (World.block_lt_of_cell? w _ hw271_0)).trans hw271_0), ((HB.out.cell (World.block_lt_of_cell? w _ hw271_1)).trans hw271_1), ((HB.out.cell (World.block_lt_of_cell? w _ hw271_2)).trans hw271_2), ((HB.out.cell (World.block_lt_of_cell? w _ hw271_3)).trans hw271_3)⟩ (fun hHeld => ?_); refine with_tabW impl_Expr_lastInstr.tab22 impl_Expr_lastInstr.bits22 (fun HT_ HW_ => ?_)
     generalize wc.drew = w52 at BK268 BK269 HB HR271_3 hx271_0 hx271_1 hx271_2 hx271_3 hHeld ⊢
     refine pure_ (i := 0) (N := some 51) (v := ?_) (a' := ?_) (bN 11 1) rfl rfl (any_of HT_.out (by kernel_rfl)) (fun _ _ _ h => h) (Or.inl ⟨by rfl, ?_⟩) ?_ ?_
     rotate_left
     ·intro w'
      go_simp
      with_reducible rfl
     rotate_left
     ·simp only [Act.put, List.setIfInBounds_toArray, List.set_cons_zero, List.set_cons_succ, i64_w, i32_w]
      rfl
     refine pure_ (i := 4) (N := some 55) (v := ?_) (a' := ?_) (bN 11 17) rfl rfl (any_of HT_.out (by kernel_rfl)) (fun _ _ _ h => h) (Or.inl ⟨by rfl, ?_⟩) ?_ ?_
     rotate_left
     ·intro w'
      go_simp
      with_reducible rfl
     rotate_left
     ·simp only [Act.put, List.setIfInBounds_toArray, List.set_cons_zero, List.set_cons_succ, i64_w, i32_w]
      rfl
     refine take_ (i := 1) (N := some 52) (v := ?_) (a' := ?_) (bN 11 19) rfl rfl (take_ofW HT_.out HW_.out (by kernel_rfl)) (fun _ _ _ h => h) (Or.inl ⟨by rfl, ?_⟩) hHeld ?_ ?_
     rotate_left
     ·rintro w' ⟨s0, s1, s2, s3, s4, s5, s6, s7⟩
      go_simp
      with_reducible rfl
     rotate_left
     ·simp only [Act.put, List.setIfInBounds_toArray, List.set_cons_zero, List.set_cons_succ, i64_w, i32_w]
      rfl
     refine pure_ (i := 2) (N := some 53) (v := ?_) (a' := ?_) (bN 11 23) rfl rfl (any_of HT_.out (by kernel_rfl)) (fun _ _ _ h => h) (Or.inl ⟨by rfl, ?_⟩) ?_ ?_
     rotate_left
     ·intro w'
      go_simp
      with_reducible rfl
     rotate_left
     ·simp only [Act.put, List.setIfInBounds_toArray, List.set_cons_zero, List.set_cons_succ, i64_w, i32_w]
      rfl
     refine pure_ (i := 3) (N := some 54) (v := ?_) (a' := ?_) (bN 11 31) rfl rfl (any_of HT_.out (by kernel_rfl)) (fun _ _ _ h => h) (Or.inl ⟨by rfl, ?_⟩) ?_ ?_
     rotate_left
     ·intro w'
      go_simp
      with_reducible rfl
     rotate_left
     ·simp only [Act.put, List.setIfInBounds_toArray, List.set_cons_zero, List.set_cons_succ, i64_w, i32_w]
      rfl
     refine take_ (i := 5) (N := some 56) (v := ?_) (a' := ?_) (bN 11 63) rfl rfl (take_ofW HT_.out HW_.out (by kernel_rfl)) (fun _ _ _ h => h) (Or.inl ⟨by rfl, ?_⟩) hHeld ?_ ?_
     rotate_left
     ·rintro w' ⟨s0, s1, s2, s3, s4, s5, s6, s7⟩
      go_simp
      with_reducible rfl
     rotate_left
     ·simp only [Act.put, List.setIfInBounds_toArray, List.set_cons_zero, List.set_cons_succ, i64_w, i32_w]
      rfl
     refine pure_ (i := 6) (N := some 57) (v := ?_) (a' := ?_) (bN 11 127) rfl rfl (any_of HT_.out (by kernel_rfl)) (fun _ _ _ h => h) (Or.inl ⟨by rfl, ?_⟩) ?_ ?_
     rotate_left
     ·intro w'
      go_simp
      with_reducible rfl
     rotate_left
     ·simp only [Act.put, List.setIfInBounds_toArray, List.set_cons_zero, List.set_cons_succ, i64_w, i32_w]
      rfl
     refine pure_ (i := 7) (N := some 58) (v := ?_) (a' := ?_) (bN 11 255) rfl rfl (any_of HT_.out (by kernel_rfl)) (fun _ _ _ h => h) (Or.inl ⟨by rfl, ?_⟩) ?_ ?_
     rotate_left
     ·intro w'
      go_simp
      with_reducible rfl
     rotate_left
     ·simp only [Act.put, List.setIfInBounds_toArray, List.set_cons_zero, List.set_cons_succ, i64_w, i32_w]
      rfl
     refine take_ (i := 8) (N := some 59) (v := ?_) (a' := ?_) (bN 11 511) rfl rfl (take_ofW HT_.out HW_.out (by kernel_rfl)) (fun _ _ _ h => h) (Or.inl ⟨by rfl, ?_⟩) hHeld ?_ ?_
     rotate_left
     ·rintro w' ⟨s0, s1, s2, s3, s4, s5, s6, s7⟩
      go_simp
      with_reducible rfl
     rotate_left
     ·simp only [Act.put, List.setIfInBounds_toArray, List.set_cons_zero, List.set_cons_succ, i64_w, i32_w]
      rfl
     refine pure_ (i := 9) (N := some 60) (v := ?_) (a' := ?_) (bN 11 1023) rfl rfl (any_of HT_.out (by kernel_rfl)) (fun _ _ _ h => h) (Or.inl ⟨by rfl, ?_⟩) ?_ ?_
     rotate_left
     ·intro w'
      go_simp
      with_reducible rfl
     rotate_left
     ·simp only [Act.put, List.setIfInBounds_toArray, List.set_cons_zero, List.set_cons_succ, i64_w, i32_w]
      rfl
     refine one_ (i := 10) (N := none) (bN 11 2047) rfl rfl (one_of HT_.out (by kernel_rfl)) (by decide) (fun K hK => ?_)
     have hs53 : w52.cell? ⟨gb269, 0, none⟩ = some (.int .i64 0) := (blk_cell BK269.out 0).trans rfl
     have hfs53 := blk_frozen BK269.out 0
     have hns53_0 := NB268_269.out
     have hms53_0 := NB269_268.out
     have hs54 : w52.cell? ⟨gb269, 1, none⟩ = some (.int .i64 0) := (blk_cell BK269.out 1).trans rfl
     have hfs54 := blk_frozen BK269.out 1
     have hns54_0 := NB268_269.out
     have hms54_0 := NB269_268.out
     have hs55 : w52.cell? ⟨gb269, 2, none⟩ = some (.string (⟨#[]⟩ : ByteArray)) := (blk_cell BK269.out 2).trans rfl
     have hfs55 := blk_frozen BK269.out 2
     have hns55_0 := NB268_269.out
     have hms55_0 := NB269_268.out
     refine skip_ (w1 := ?_) (by rfl) rfl ?_ ?_
     rotate_left
     ·go_simp
      rfl
     refine hK.out _ _ ⟨(sQ3 (g := gb269) NB268_269.out (hHeld.1)), (sQ3 (g := gb269) NB268_269.out (hHeld.2.1)), (sQ3 (g := gb269) NB268_269.out (hHeld.2.2.1)), (sQ3 (g := gb269) NB268_269.out (hHeld.2.2.2.1)), (sQ3 (g := gb269) (by first | exact Nat.ne_of_lt (Nat.lt_of_lt_of_le (by have := World.block_lt_of_cell? _ _ hw271_0; first | rwa [add_block] at this | exact this) GW269.out) | (rw [add_block]; exact Nat.ne_of_lt (Nat.lt_of_lt_of_le (by have := World.block_lt_of_cell? _ _ hw271_0; first | rwa [add_block] at this | exact this) GW269.out)) | (show (Addr.add _ _).block ≠ _; rw [add_block]; exact Nat.ne_of_lt (Nat.lt_of_lt_of_le (by have := World.block_lt_of_cell? _ _ hw271_0; first | rwa [add_block] at this | exact this) GW269.out)) | (dsimp only; exact Nat.ne_of_lt (Nat.lt_of_lt_of_le (by have := World.block_lt_of_cell? _ _ hw271_0; first | rwa [add_block] at this | exact this) GW269.out))) (hHeld.2.2.2.2.1)), (sQ3 (g := gb269) (by first | exact Nat.ne_of_lt (Nat.lt_of_lt_of_le (by have := World.block_lt_of_cell? _ _ hw271_1; first | rwa [add_block] at this | exact this) GW269.out) | (rw [add_block]; exact Nat.ne_of_lt (Nat.lt_of_lt_of_le (by have := World.block_lt_of_cell? _ _ hw271_1; first | rwa [add_block] at this | exact this) GW269.out)) | (show (Addr.add _ _).block ≠ _; rw [add_block]; exact Nat.ne_of_lt (Nat.lt_of_lt_of_le (by have := World.block_lt_of_cell? _ _ hw271_1; first | rwa [add_block] at this | exact this) GW269.out)) | (dsimp only; exact Nat.ne_of_lt (Nat.lt_of_lt_of_le (by have := World.block_lt_of_cell? _ _ hw271_1; first | rwa [add_block] at this | exact this) GW269.out))) (hHeld.2.2.2.2.2.1)), (sQ3 (g := gb269) (by first | exact Nat.ne_of_lt (Nat.lt_of_lt_of_le (by have := World.block_lt_of_cell? _ _ hw271_2; first | rwa [add_block] at this | exact this) GW269.out) | (rw [add_block]; exact Nat.ne_of_lt (Nat.lt_of_lt_of_le (by have := World.block_lt_of_cell? _ _ hw271_2; first | rwa [add_block] at this | exact this) GW269.out)) | (show (Addr.add _ _).block ≠ _; rw [add_block]; exact Nat.ne_of_lt (Nat.lt_of_lt_of_le (by have := World.block_lt_of_cell? _ _ hw271_2; first | rwa [add_block] at this | exact this) GW269.out)) | (dsimp only; exact Nat.ne_of_lt (Nat.lt_of_lt_of_le (by have := World.block_lt_of_cell? _ _ hw271_2; first | rwa [add_block] at this | exact this) GW269.out))) (hHeld.2.2.2.2.2.2.1)), (sQ3 (g := gb269) (by first | exact Nat.ne_of_lt (Nat.lt_of_lt_of_le (by have := World.block_lt_of_cell? _ _ hw271_3; first | rwa [add_block] at this | exact this) GW269.out) | (rw [add_block]; exact Nat.ne_of_lt (Nat.lt_of_lt_of_le (by have := World.block_lt_of_cell? _ _ hw271_3; first | rwa [add_block] at this | exact this) GW269.out)) | (show (Addr.add _ _).block ≠ _; rw [add_block]; exact Nat.ne_of_lt (Nat.lt_of_lt_of_le (by have := World.block_lt_of_cell? _ _ hw271_3; first | rwa [add_block] at this | exact this) GW269.out)) | (dsimp only; exact Nat.ne_of_lt (Nat.lt_of_lt_of_le (by have := World.block_lt_of_cell? _ _ hw271_3; first | rwa [add_block] at this | exact this) GW269.out))) (hHeld.2.2.2.2.2.2.2))⟩ (fun hHeld => ?_)
     clear hK K
     refine done_ (done_of HT_.out (by kernel_rfl)) ?_
     try go_wp2
     refine bodyPost_ret (results_cell_row rfl _ _ gb269 89 #[.int .i64 11, .int .i64 (wrap64 ((wrap64 (a0_0 - 12)) + 21)), .string ((rd_T26 l0_3 1).f2)] (0, 0) _ rfl (by exact sP3 (sT BK269.out)) Try.underlying89 rfl (by kernel_rfl)) rfl ?_
     exact ⟨sq, sb⟩
    rw [if_neg c51] at H
    exact absurd H (by simp)
   rw [if_neg c50] at H
   have c50b0 : (a0_0 == 13) = false := beq_eq_false_iff_ne.mpr c50
   have c50b1 : (a0_0 != 13) = true := bne_iff_ne.mpr c50
   simp only [Option.some.injEq, Prod.mk.injEq] at H
   obtain ⟨rfl, rfl, rfl⟩ := H
   have hnb56 := NB268_269.out
   have hnc56 := NB269_268.out
   obtain ⟨hcz57_0, hcz57_1, hcz57_2, hcz57_3, hfz57_0, hfz57_1, hfz57_2, hfz57_3⟩ := cells4 BK268.out
   obtain ⟨hcz58_0, hcz58_1, hcz58_2, hfz58_0, hfz58_1, hfz58_2⟩ := cells3 BK269.out
   go_wp2
   refine bodyPost_ret (results_cell_row rfl _ _ gb269 89 #[.int .i64 8, .int .i64 a0_0, .string (⟨#[]⟩ : ByteArray)] (0, 0) _ rfl (by exact sP3 (sT BK269.out)) Try.underlying89 rfl (by kernel_rfl)) rfl ?_
   exact ⟨sq, sb⟩
end Go.Proofs.Ytmebimamjgnlpaa.PFnExactCompileExpr
