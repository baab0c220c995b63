/- Printed functions: spec_GetField. -/
import Derived.Test.YtnjkhdhaiicefaaYGfP0
import Derived.Test.YtnjkhdhaiicefaaYGfPE
import Derived.Test.YtnjkhdhaiicefaaYGfP9
import Derived.Test.YtnjkhdhaiicefaaYGfP12
import Derived.Test.YtnjkhdhaiicefaaYGfP13
namespace Go.Proofs.Ytnjkhdhaiicefaa.PFnExactGetField
open Go.RowKit Go.Proofs.YtnjkhdhaiicefaaG Go.Proofs.YtnjkhdhaiicefaaW.PrintWords Go.Proofs.YtnjkhdhaiicefaaW.PrintLast Go.Proofs.YtnjkhdhaiicefaaW.PrintMore
attribute [local go_sem] max2_int min2_int max_two min_two max_three min_three max_four min_four   -- for this text's walks alone
set_option linter.unusedVariables false
set_option linter.unusedSimpArgs false
section
attribute [local go_sem high] eqA29
/-! ### spec_GetField: function 16 -/
mutual
def spec_GetField.j0 : Nat → ByteArray → Bool → Int → List (S56) → Int → Int → ByteArray → Int → Option (Int × Int × ByteArray × Int × Int)
 | 0, _, _, _, _, _, _, _, _ => none
 | k + 1, x2, x13, x241000, x241001, x242000, x242001, x242002, x242003 => if x13 = true then (some (0, 0, (⟨#[]⟩ : ByteArray), 0, 1)) else (if x242000 = 6 then ((spec_l07Find.f k [(⟨x241000, x241001⟩ : S34)] x242003).bind fun t247 => (if 0 ≤ t247 then (if t247 < (x241001.length : Int) then ((spec_l09Field.f k [(⟨(rd_T56 x241001 t247).f0, (rd_T56 x241001 t247).f1, (rd_T56 x241001 t247).f2, (rd_T56 x241001 t247).f3, (rd_T56 x241001 t247).f4, (rd_T56 x241001 t247).f5, (⟨(rd_T56 x241001 t247).f6.f0, (rd_T56 x241001 t247).f6.f1, (rd_T56 x241001 t247).f6.f2, (rd_T56 x241001 t247).f6.f3⟩ : S29)⟩ : S56)] x2).bind fun t250 => (spec_GetField.j1 k t250 ((rd_T56 x241001 t247).f0) ((rd_T56 x241001 t247).f1) ((rd_T56 x241001 t247).f2) ((rd_T56 x241001 t247).f3) ((rd_T56 x241001 t247).f4) ((rd_T56 x241001 t247).f5) ((rd_T56 x241001 t247).f6.f0) ((rd_T56 x241001 t247).f6.f1) ((rd_T56 x241001 t247).f6.f2) ((rd_T56 x241001 t247).f6.f3))) else (none)) else (none))) else (some (0, 0, (⟨#[]⟩ : ByteArray), 0, 4)))
def spec_GetField.j1 : Nat → Int → Int → Int → ByteArray → Int → List (S29) → List (S29) → Int → Int → ByteArray → Int → Option (Int × Int × ByteArray × Int × Int)
 | 0, _, _, _, _, _, _, _, _, _, _, _ => none
 | k + 1, x9, x250000, x250001, x250002, x250003, x250004, x250005, x250006, x250007, x250008, x250009 => if x9 < 0 then (some (0, 0, (⟨#[]⟩ : ByteArray), 0, 11)) else (if 0 ≤ x9 then (if x9 < (x250005.length : Int) then (some ((rd_T29 x250005 x9).f0, (rd_T29 x250005 x9).f1, (rd_T29 x250005 x9).f2, (rd_T29 x250005 x9).f3, 0)) else (none)) else (none))
end
def spec_GetField.f (k : Nat) (a0_0 : Int) (l0_1 : List (S56)) (a1_0 : Int) (a1_1 : Int) (a1_2 : ByteArray) (a1_3 : Int) (a2 : ByteArray) : Option (Int × Int × ByteArray × Int × Int) := (spec_l09Fit.f k [(⟨a0_0, l0_1⟩ : S34)] (([(⟨a1_0, a1_1, a1_2, a1_3⟩ : S29)] : List (S29)))).bind fun t246 => (spec_GetField.j0 k a2 (!t246) a0_0 l0_1 a1_0 a1_1 a1_2 a1_3)
def spec_GetField.T5 : Bool × List (List Nat × List Nat) := (true, [([], []), ([0], [0]), ([], []), ([2], [2]), ([3], [3]), ([1, 4], [1, 4]), ([5], [5]), ([], []), ([7, 6, 4, 0, 1, 2, 3, 4, 5, 6, 7], [6, 7])])
def spec_GetField.B5 : List Nat := [0, 1, 0, 4, 12, 31, 63, 0, 255]
theorem spec_GetField.tab5 : rtab .any (opsOf Try.f16 5) = spec_GetField.T5 := by kernel_rfl
theorem spec_GetField.bits5 : waitsOk spec_GetField.T5.2 spec_GetField.B5 = true := by kernel_rfl
set_option maxHeartbeats 8000000 in
set_option maxRecDepth 100000 in
theorem spec_GetField.calls (k : Nat) (a0_0 : Int) (A0_1 : Option Addr) (c0_1 : Nat) (l0_1 : List (S56)) (a1_0 : Int) (a1_1 : Int) (a1_2 : ByteArray) (a1_3 : Int) (a2 : ByteArray) (r1 : Int) (r2 : Int) (r3 : ByteArray) (r4 : Int) (r5 : Int) (w : World) (hr0_1 : Kd.C k56 w A0_1 l0_1.length l0_1) (hc0_1 : l0_1.length ≤ c0_1) (h : spec_GetField.f k a0_0 l0_1 a1_0 a1_1 a1_2 a1_3 a2 = some (r1, r2, r3, r4, r5)) :
  Calls Try.prog 16 #[.agg #[.int .i64 a0_0, .slice A0_1 l0_1.length c0_1], .agg #[.int .i64 a1_0, .int .i64 a1_1, .string a1_2, .int .i64 a1_3], .string a2] w fun e w' => e = .returned (.tuple #[.agg #[.int .i64 r1, .int .i64 r2, .string r3, .int .i64 r4], .int .i64 r5]) ∧ Below w.heap.size w w' := by
 have hu34 := Try.underlying34
 have hu29 := Try.underlying29
 have hu56 := Try.underlying56
 have HR0_1 := Aside0.mk hr0_1
 have HC0_1 := Aside0.mk hc0_1
 clear hr0_1 hc0_1
 have HB := Aside0.mk (Below.refl w.heap.size w)
 have H : ((spec_l09Fit.f k [(⟨a0_0, l0_1⟩ : S34)] (([(⟨a1_0, a1_1, a1_2, a1_3⟩ : S29)] : List (S29)))).bind fun t246 => (spec_GetField.j0 k a2 (!t246) a0_0 l0_1 a1_0 a1_1 a1_2 a1_3)) = some (r1, r2, r3, r4, r5) := h
 clear h
 have HC4 := Aside0.mk H
 clear H
 go_enter Try.func16, Try.ntmps16
 go_upto_region 1 with (first | ((with_reducible refine gate_dst (N := 3) rfl ?_); refine sV (N := 3) (cs := #[.int .i64 a0_0, .slice A0_1 l0_1.length c0_1]) (t := 34) ?_; intro gb240 hg w5 hbox hb; have n0_ := sB HB hb; have n1_ := Aside0.mk (hbox); have n2_ := sG HB hg; have n3_ := sG HB hg; clear HB; have HB := n0_; have BK240 := n1_; have GW240 := n2_; have GE240 := n3_; clear n0_ n1_ n2_ n3_; clear hb hbox hg) | ((with_reducible refine gate_dst (N := 4) rfl ?_); refine sV (N := 4) (cs := #[.int .i64 a1_0, .int .i64 a1_1, .string a1_2, .int .i64 a1_3]) (t := 29) ?_; intro gb241 hg w6 hbox hb; have n0_ := sK BK240 hb; have n1_ := sB HB hb; have n2_ := Aside0.mk (hbox); have n3_ := sG HB hg; have n4_ := sG HB hg; have n5_ := sN BK240 hg; have n6_ := sM BK240 hg; clear BK240; clear HB; have BK240 := n0_; have HB := n1_; have BK241 := n2_; have GW241 := n3_; have GE241 := n4_; have NB240_241 := n5_; have NB241_240 := n6_; clear n0_ n1_ n2_ n3_ n4_ n5_ n6_; clear hb hbox hg) | ((with_reducible refine gate_dst (N := 6) rfl ?_); refine sV (N := 6) (cs := #[.int .i64 0, .int .i64 0, .string (⟨#[]⟩ : ByteArray), .int .i64 0]) (t := 29) ?_; intro gb242 hg w7 hbox hb; have n0_ := sK BK240 hb; have n1_ := sK BK241 hb; have n2_ := sB HB hb; have n3_ := Aside0.mk (hbox); have n4_ := sG HB hg; have n5_ := sG HB hg; have n6_ := sN BK240 hg; have n7_ := sM BK240 hg; have n8_ := sN BK241 hg; have n9_ := sM BK241 hg; clear BK240; clear BK241; clear HB; have BK240 := n0_; have BK241 := n1_; have HB := n2_; have BK242 := n3_; have GW242 := n4_; have GE242 := n5_; have NB240_242 := n6_; have NB242_240 := n7_; have NB241_242 := n8_; have NB242_241 := n9_; clear n0_ n1_ n2_ n3_ n4_ n5_ n6_ n7_ n8_ n9_; clear hb hbox hg))
 (try simp only [Act.put, List.setIfInBounds_toArray, List.set_cons_zero, List.set_cons_succ])
 go_cut [13] (fun v13 wc => ∃ (kq : Nat) (x13_3 : Bool) (x241000_3 : Int), v13 = .bool x13_3 ∧ Aside0 (spec_GetField.j0 kq a2 x13_3 x241000_3 l0_1 a1_0 a1_1 a1_2 a1_3 = some (r1, r2, r3, r4, r5)) ∧ Aside0 (kq ≤ k) ∧ Aside0 (wc.heap[gb240]? = some (.cells #[.int .i64 x241000_3, (.slice A0_1 l0_1.length c0_1)] 34 (0, 0))) ∧ Aside0 (wc.heap[gb241]? = some (.cells #[.int .i64 a1_0, .int .i64 a1_1, .string a1_2, .int .i64 a1_3] 29 (0, 0))) ∧ Aside0 (wc.heap[gb242]? = some (.cells #[.int .i64 0, .int .i64 0, .string (⟨#[]⟩ : ByteArray), .int .i64 0] 29 (0, 0))) ∧ Aside0 (Below w.heap.size w wc))
 case first =>
  have H := HC4.out
  clear HC4
  obtain ⟨y243, hy243⟩ : ∃ y_ : List (S29), y_ = (([(⟨a1_0, a1_1, a1_2, a1_3⟩ : S29)] : List (S29))) := ⟨_, rfl⟩
  replace H : ((spec_l09Fit.f k [(⟨a0_0, l0_1⟩ : S34)] y243).bind fun t246 => (spec_GetField.j0 k a2 (!t246) a0_0 l0_1 a1_0 a1_1 a1_2 a1_3)) = some (r1, r2, r3, r4, r5) := by first | (rw [hy243]; with_reducible exact H) | (have H2_ := (Option.bind_some _ _).symm.trans H; rw [hy243]; with_reducible exact H2_) | (have H2_ := (Option.bind_some _ _).symm.trans H; with_reducible exact H2_) | with_reducible exact H | (rw [hy243]; exact H) | exact H
  have Ny243 := Aside0.mk hy243
  clear hy243
  obtain ⟨t246, A8, H⟩ := sO H
  have H' := Aside0.mk H
  clear H
  have hnb9 := NB241_240.out
  have hnc9 := NB240_241.out
  have hnb10 := NB241_242.out
  have hnc10 := NB242_241.out
  obtain ⟨hcz11_0, hcz11_1, hcz11_2, hcz11_3, hfz11_0, hfz11_1, hfz11_2, hfz11_3⟩ := cells4 BK241.out
  go_wp2_with (first | ((with_reducible refine gate_dst (N := 11) rfl ?_); refine Kd.R_lit k29 _ 29 ?hg (N := 11) ?hd (xs := ([(⟨a1_0, a1_1, a1_2, a1_3⟩ : S29)] : List (S29))) (inner := [.int .i64 a1_0, .int .i64 a1_1, .string a1_2, .int .i64 a1_3]) (ok := fun _ => True) (okp := fun _ => True) ?hr ?hp (fun _ hk => hk) trivial (Below.refl _ _) (Nat.le_refl _) (by simp) ?_; (case hd => rfl); (case hg => rfl); (case hr => first | (go_simp; done) | (go_simp; rfl)); (case hp => exact (Reps.c4 (show Kd.M k29 _ _ _ (⟨a1_0, a1_1, a1_2, a1_3⟩ : S29) [.int .i64 a1_0, .int .i64 a1_1, .string a1_2, .int .i64 a1_3] from (k29_mkM _ _ _ (⟨a1_0, a1_1, a1_2, a1_3⟩ : S29) )) (Reps.none _ _))); intro v244 w12 ho13 hb hg_ hnew_; clear hg_ hnew_; (first | rw [← Ny243.out] at ho13 | (simp only [Int.reduceToNat] at ho13; rw [← Ny243.out] at ho13)); have n0_ := Aside0.mk (Kd.R_lower (Kd.R_newB (Kd.R_newB ho13 (g := gb241) (o := .cells #[.int .i64 a1_0, .int .i64 a1_1, .string a1_2, .int .i64 a1_3] 29 (0, 0)) (sT BK241.out)) (g := gb242) (o := .cells #[.int .i64 0, .int .i64 0, .string (⟨#[]⟩ : ByteArray), .int .i64 0] 29 (0, 0)) (sT BK242.out)) (below_size (by repeat (first | (with_reducible first | exact HB.out | apply below_alloc | apply pw_below_drewN | apply below_drew1 | refine below_set ?_ GE240.out | refine below_set ?_ GE241.out | refine below_set ?_ GE242.out) | exact HB.out)))); have n1_ := sK BK240 hb; have n2_ := sK BK241 hb; have n3_ := sK BK242 hb; have n4_ := sB HB hb; clear BK240; clear BK241; clear BK242; clear HB; have HO245 := n0_; have BK240 := n1_; have BK241 := n2_; have BK242 := n3_; have HB := n4_; clear n0_ n1_ n2_ n3_ n4_; clear hb ho13; obtain ⟨Ao14, co14, eo14⟩ := Kd.R_slice HO245.out; subst eo14) | ((with_reducible refine gate_callee (f := 61) rfl ?_); refine sC (some 12) Try.func61 #[.pointer (some ⟨gb240, 0, none⟩), .slice Ao14 y243.length co14] (spec_l09Fit.calls k _ [(⟨a0_0, l0_1⟩ : S34)] _ _ y243 t246 _ ?side1 ?side2 ?side3 A8.out) ?_; (case side1 => exact C_box (t := 34) (sT BK240.out) (k34_mk _ (⟨a0_0, l0_1⟩ : S34) (by exact HC0_1.out) (by exact sD (Kd.C_below HR0_1.out HB.out)))); (case side2 => exact sD ((Kd.R_reads' HO245.out).2.2)); (case side3 => exact (Kd.R_reads' HO245.out).2.1); rintro e w15 ⟨rfl, hb⟩; refine ⟨_, rfl, ?_⟩; have n0_ := Aside0.mk (Kd.R_below (sE HO245.out) hb); have n1_ := sK BK240 hb; have n2_ := sK BK241 hb; have n3_ := sK BK242 hb; have n4_ := sB HB hb; clear HO245; clear BK240; clear BK241; clear BK242; clear HB; have HO245 := n0_; have BK240 := n1_; have BK241 := n2_; have BK242 := n3_; have HB := n4_; clear n0_ n1_ n2_ n3_ n4_; (try clear hb); (try clear hb2); (try clear hk); (try clear hi)))
  go_meet
  case rel => exact ⟨_, (!t246), (a0_0), sr, H', ⟨by first | omega | exact Nat.le_refl _⟩, ⟨by exact sT BK240.out⟩, ⟨by exact sT BK241.out⟩, ⟨by exact sT BK242.out⟩, ⟨sb⟩⟩
 case rest =>
  clear HC4
  try clear c1
  try clear p2
  try clear c4
  try clear c6
  try clear c9
  try clear c10
  try clear hcz11_0
  try clear hcz11_1
  try clear hcz11_2
  try clear hcz11_3
  try clear hfz11_0
  try clear hfz11_1
  try clear hfz11_2
  try clear hfz11_3
  obtain ⟨kq, x13_3, x241000_3, rfl, HA, HJ3, BK240, BK241, BK242, HB⟩ := hcut
  cases kq with
  | zero => exact absurd HA.out (by simp [spec_GetField.j0])
  | succ kj3 =>
   have H := HA.out
   clear HA
   simp only [spec_GetField.j0] at H
   by_cases c16 : x13_3 = true
   ·subst c16
    rewrite [if_pos rfl] at H
    simp only [Option.some.injEq, Prod.mk.injEq] at H
    obtain ⟨rfl, rfl, rfl, rfl, rfl⟩ := H
    have hnb17 := NB242_240.out
    have hnc17 := NB240_242.out
    have hnb18 := NB242_241.out
    have hnc18 := NB241_242.out
    obtain ⟨hcz19_0, hcz19_1, hcz19_2, hcz19_3, hfz19_0, hfz19_1, hfz19_2, hfz19_3⟩ := cells4 BK242.out
    go_wp2
    refine bodyPost_ret (results_ct rfl _ _ gb242 29 #[.int .i64 0, .int .i64 0, .string (⟨#[]⟩ : ByteArray), .int .i64 0] (0, 0) _ rfl (by exact sP4 (sT BK242.out)) Try.underlying29 rfl (by kernel_rfl)) rfl ?_
    exact ⟨sq, sb⟩
   replace c16 := Bool.eq_false_iff.mpr c16
   subst c16
   rewrite [if_neg (show ¬ (false = true) by decide)] at H
   by_cases c20 : a1_0 = 6
   ·rw [if_pos c20] at H
    have c20b0 : (a1_0 == 6) = true := beq_iff_eq.mpr c20
    have c20b1 : (a1_0 != 6) = false := bne_eq_false_iff_eq.mpr c20
    clear c20
    obtain ⟨t247, A21, H⟩ := sO H
    by_cases c22 : 0 ≤ t247
    ·rw [if_pos c22] at H
     have c22b0 := decide_eq_true c22
     clear c22
     by_cases c23 : t247 < (l0_1.length : Int)
     ·rw [if_pos c23] at H
      have c23b0 := decide_eq_true c23
      clear c23
      have HC24 := Aside0.mk H
      clear H
      have hnb25 := NB241_240.out
      have hnc25 := NB240_241.out
      have hnb26 := NB241_242.out
      have hnc26 := NB242_241.out
      obtain ⟨hcz27_0, hcz27_1, hcz27_2, hcz27_3, hfz27_0, hfz27_1, hfz27_2, hfz27_3⟩ := cells4 BK241.out
      try go_wp2
      have n0_ := Aside0.mk (blk_drew BK240.out)
      have n1_ := Aside0.mk (blk_drew BK241.out)
      have n2_ := Aside0.mk (blk_drew BK242.out)
      have n3_ := Aside0.mk (below_drew1 HB.out)
      clear BK240
      clear BK241
      clear BK242
      clear HB
      have BK240 := n0_
      have BK241 := n1_
      have BK242 := n2_
      have HB := n3_
      clear n0_ n1_ n2_ n3_
      have p248 : 0 ≤ (t247 : Int) := of_decide_eq_true (by first | (with_reducible assumption) | assumption)
      have q248 : t247 < (l0_1.length : Int) := of_decide_eq_true (by first | (with_reducible assumption) | assumption)
      obtain ⟨ad248, A248_4, c248_4, A248_5, c248_5, e248, hx248_0, hx248_1, hx248_2, hx248_3, hx248_4, hx248_5, hx248_6, hx248_7, hx248_8, hx248_9, hl248_4, hi248_4, hl248_5, hi248_5⟩ := at_T56 HR0_1.out t247 p248 q248
      have hw248_9 := hx248_9
      have hw248_8 := hx248_8
      have hw248_7 := hx248_7
      have hw248_6 := hx248_6
      have hw248_5 := hx248_5
      have hw248_4 := hx248_4
      have hw248_3 := hx248_3
      have hw248_2 := hx248_2
      have hw248_1 := hx248_1
      have hw248_0 := hx248_0
      cases e248
      replace hx248_0 := sX HB hx248_0
      replace hx248_1 := sX HB hx248_1
      replace hx248_2 := sX HB hx248_2
      replace hx248_3 := sX HB hx248_3
      replace hx248_4 := sX HB hx248_4
      replace hx248_5 := sX HB hx248_5
      replace hx248_6 := sX HB hx248_6
      replace hx248_7 := sX HB hx248_7
      replace hx248_8 := sX HB hx248_8
      replace hx248_9 := sX HB hx248_9
      have HR248_4 := Aside0.mk hi248_4
      have HC248_4 := Aside0.mk hl248_4
      clear hi248_4 hl248_4
      have HR248_5 := Aside0.mk hi248_5
      have HC248_5 := Aside0.mk hl248_5
      clear hi248_5 hl248_5
      replace p248 := eq_true p248
      replace q248 := eq_true q248
      refine start_ (n := 9) (S := fun w' => w'.cell? ⟨gb240, 0, none⟩ = some (.int .i64 x241000_3) ∧ w'.cell? ⟨gb240, 1, none⟩ = some (.slice (some ad248) l0_1.length c0_1) ∧ w'.cell? ⟨gb241, 0, none⟩ = some (.int .i64 a1_0) ∧ w'.cell? ⟨gb241, 1, none⟩ = some (.int .i64 a1_1) ∧ w'.cell? ⟨gb241, 2, none⟩ = some (.string a1_2) ∧ w'.cell? ⟨gb241, 3, none⟩ = some (.int .i64 a1_3) ∧ w'.cell? (ad248.add ((t247).toNat * 10)) = some (.int .i64 ((rd_T56 l0_1 t247).f0)) ∧ w'.cell? ⟨(ad248.add ((t247).toNat * 10)).block, (ad248.add ((t247).toNat * 10)).off + 1, none⟩ = some (.int .i64 ((rd_T56 l0_1 t247).f1)) ∧ w'.cell? ⟨(ad248.add ((t247).toNat * 10)).block, (ad248.add ((t247).toNat * 10)).off + 2, none⟩ = some (.string ((rd_T56 l0_1 t247).f2)) ∧ w'.cell? ⟨(ad248.add ((t247).toNat * 10)).block, (ad248.add ((t247).toNat * 10)).off + 3, none⟩ = some (.int .i64 ((rd_T56 l0_1 t247).f3)) ∧ w'.cell? ⟨(ad248.add ((t247).toNat * 10)).block, (ad248.add ((t247).toNat * 10)).off + 4, none⟩ = some (.slice A248_4 ((rd_T56 l0_1 t247).f4).length c248_4) ∧ w'.cell? ⟨(ad248.add ((t247).toNat * 10)).block, (ad248.add ((t247).toNat * 10)).off + 5, none⟩ = some (.slice A248_5 ((rd_T56 l0_1 t247).f5).length c248_5) ∧ w'.cell? ⟨(ad248.add ((t247).toNat * 10)).block, (ad248.add ((t247).toNat * 10)).off + 6, none⟩ = some (.int .i64 ((rd_T56 l0_1 t247).f6.f0)) ∧ w'.cell? ⟨(ad248.add ((t247).toNat * 10)).block, (ad248.add ((t247).toNat * 10)).off + 7, none⟩ = some (.int .i64 ((rd_T56 l0_1 t247).f6.f1)) ∧ w'.cell? ⟨(ad248.add ((t247).toNat * 10)).block, (ad248.add ((t247).toNat * 10)).off + 8, none⟩ = some (.string ((rd_T56 l0_1 t247).f6.f2)) ∧ w'.cell? ⟨(ad248.add ((t247).toNat * 10)).block, (ad248.add ((t247).toNat * 10)).off + 9, none⟩ = some (.int .i64 ((rd_T56 l0_1 t247).f6.f3))) (ds := []) #[false, false, false, false, false, false, false, false, false] (by kernel_rfl) rfl rfl ⟨(blk_cell BK240.out 0).trans rfl, (blk_cell BK240.out 1).trans rfl, (blk_cell BK241.out 0).trans rfl, (blk_cell BK241.out 1).trans rfl, (blk_cell BK241.out 2).trans rfl, (blk_cell BK241.out 3).trans rfl, ((HB.out.cell (World.block_lt_of_cell? w _ hw248_0)).trans hw248_0), ((HB.out.cell (World.block_lt_of_cell? w _ hw248_1)).trans hw248_1), ((HB.out.cell (World.block_lt_of_cell? w _ hw248_2)).trans hw248_2), ((HB.out.cell (World.block_lt_of_cell? w _ hw248_3)).trans hw248_3), ((HB.out.cell (World.block_lt_of_cell? w _ hw248_4)).trans hw248_4), ((HB.out.cell (World.block_lt_of_cell? w _ hw248_5)).trans hw248_5), ((HB.out.cell (World.block_lt_of_cell? w _ hw248_6)).trans hw248_6), ((HB.out.cell (World.block_lt_of_cell? w _ hw248_7)).trans hw248_7), ((HB.out.cell (World.block_lt_of_cell? w _ hw248_8)).trans hw248_8), ((HB.out.cell (World.block_lt_of_cell? w _ hw248_9)).trans hw248_9)⟩ (fun hHeld => ?_); refine with_tabW spec_GetField.tab5 spec_GetField.bits5 (fun HT_ HW_ => ?_)
      generalize wc.drew = w28 at BK240 BK241 BK242 HB HR248_4 HR248_5 hx248_0 hx248_1 hx248_2 hx248_3 hx248_4 hx248_5 hx248_6 hx248_7 hx248_8 hx248_9 hHeld ⊢
      refine pure_ (i := 0) (N := some 19) (v := ?_) (a' := ?_) (bN 9 1) rfl rfl (any_of HT_.out (by kernel_rfl)) (fun _ _ _ h => h) (Or.inl ⟨by rfl, ?_⟩) ?_ ?_
      rotate_left
      ·intro w'
       go_simp
       with_reducible rfl
      rotate_left
      ·simp only [Act.put, List.setIfInBounds_toArray, List.set_cons_zero, List.set_cons_succ, i64_w, i32_w]
       rfl
      refine pure_ (i := 2) (N := some 21) (v := ?_) (a' := ?_) (bN 9 5) rfl rfl (any_of HT_.out (by kernel_rfl)) (fun _ _ _ h => h) (Or.inl ⟨by rfl, ?_⟩) ?_ ?_
      rotate_left
      ·intro w'
       go_simp
       with_reducible rfl
      rotate_left
      ·simp only [Act.put, List.setIfInBounds_toArray, List.set_cons_zero, List.set_cons_succ, i64_w, i32_w]
       rfl
      refine take_ (i := 1) (N := some 20) (v := ?_) (a' := ?_) (bN 9 7) rfl rfl (take_ofW HT_.out HW_.out (by kernel_rfl)) (fun _ _ _ h => h) (Or.inl ⟨by rfl, ?_⟩) hHeld ?_ ?_
      rotate_left
      ·rintro w' ⟨s0, s1, s2, s3, s4, s5, s6, s7, s8, s9, s10, s11, s12, s13, s14, s15⟩
       go_simp
       with_reducible rfl
      rotate_left
      ·simp only [Act.put, List.setIfInBounds_toArray, List.set_cons_zero, List.set_cons_succ, i64_w, i32_w]
       rfl
      refine take_ (i := 3) (N := some 22) (v := ?_) (a' := ?_) (bN 9 15) rfl rfl (take_ofW HT_.out HW_.out (by kernel_rfl)) (fun _ _ _ h => h) (Or.inl ⟨by rfl, ?_⟩) hHeld ?_ ?_
      rotate_left
      ·rintro w' ⟨s0, s1, s2, s3, s4, s5, s6, s7, s8, s9, s10, s11, s12, s13, s14, s15⟩
       go_simp
       with_reducible rfl
      rotate_left
      ·simp only [Act.put, List.setIfInBounds_toArray, List.set_cons_zero, List.set_cons_succ, i64_w, i32_w]
       rfl
      refine join_ (σ := Nat) 1 (bN 9 255) (fun s_ => [(23, .int .i64 t247), (8, .pointer (some ⟨s_, 0, none⟩)), (24, .pointer (some (ad248.add ((t247).toNat * 10)))), (25, .agg #[.int .i64 ((rd_T56 l0_1 t247).f0), .int .i64 ((rd_T56 l0_1 t247).f1), .string ((rd_T56 l0_1 t247).f2), .int .i64 ((rd_T56 l0_1 t247).f3), .slice A248_4 ((rd_T56 l0_1 t247).f4).length c248_4, .slice A248_5 ((rd_T56 l0_1 t247).f5).length c248_5, .int .i64 ((rd_T56 l0_1 t247).f6.f0), .int .i64 ((rd_T56 l0_1 t247).f6.f1), .string ((rd_T56 l0_1 t247).f6.f2), .int .i64 ((rd_T56 l0_1 t247).f6.f3)])]) (fun s_ w' => (w'.cell? ⟨gb240, 0, none⟩ = some (.int .i64 x241000_3) ∧ w'.cell? ⟨gb240, 1, none⟩ = some (.slice (some ad248) l0_1.length c0_1) ∧ w'.cell? ⟨gb241, 0, none⟩ = some (.int .i64 a1_0) ∧ w'.cell? ⟨gb241, 1, none⟩ = some (.int .i64 a1_1) ∧ w'.cell? ⟨gb241, 2, none⟩ = some (.string a1_2) ∧ w'.cell? ⟨gb241, 3, none⟩ = some (.int .i64 a1_3) ∧ w'.cell? (ad248.add ((t247).toNat * 10)) = some (.int .i64 ((rd_T56 l0_1 t247).f0)) ∧ w'.cell? ⟨(ad248.add ((t247).toNat * 10)).block, (ad248.add ((t247).toNat * 10)).off + 1, none⟩ = some (.int .i64 ((rd_T56 l0_1 t247).f1)) ∧ w'.cell? ⟨(ad248.add ((t247).toNat * 10)).block, (ad248.add ((t247).toNat * 10)).off + 2, none⟩ = some (.string ((rd_T56 l0_1 t247).f2)) ∧ w'.cell? ⟨(ad248.add ((t247).toNat * 10)).block, (ad248.add ((t247).toNat * 10)).off + 3, none⟩ = some (.int .i64 ((rd_T56 l0_1 t247).f3)) ∧ w'.cell? ⟨(ad248.add ((t247).toNat * 10)).block, (ad248.add ((t247).toNat * 10)).off + 4, none⟩ = some (.slice A248_4 ((rd_T56 l0_1 t247).f4).length c248_4) ∧ w'.cell? ⟨(ad248.add ((t247).toNat * 10)).block, (ad248.add ((t247).toNat * 10)).off + 5, none⟩ = some (.slice A248_5 ((rd_T56 l0_1 t247).f5).length c248_5) ∧ w'.cell? ⟨(ad248.add ((t247).toNat * 10)).block, (ad248.add ((t247).toNat * 10)).off + 6, none⟩ = some (.int .i64 ((rd_T56 l0_1 t247).f6.f0)) ∧ w'.cell? ⟨(ad248.add ((t247).toNat * 10)).block, (ad248.add ((t247).toNat * 10)).off + 7, none⟩ = some (.int .i64 ((rd_T56 l0_1 t247).f6.f1)) ∧ w'.cell? ⟨(ad248.add ((t247).toNat * 10)).block, (ad248.add ((t247).toNat * 10)).off + 8, none⟩ = some (.string ((rd_T56 l0_1 t247).f6.f2)) ∧ w'.cell? ⟨(ad248.add ((t247).toNat * 10)).block, (ad248.add ((t247).toNat * 10)).off + 9, none⟩ = some (.int .i64 ((rd_T56 l0_1 t247).f6.f3))) ∧ (w'.heap[gb240]? = some (.cells #[.int .i64 x241000_3, .slice (some ad248) l0_1.length c0_1] 34 (0, 0))) ∧ (w'.heap[gb241]? = some (.cells #[.int .i64 a1_0, .int .i64 a1_1, .string a1_2, .int .i64 a1_3] 29 (0, 0))) ∧ (w'.heap[gb242]? = some (.cells #[.int .i64 0, .int .i64 0, .string (⟨#[]⟩ : ByteArray), .int .i64 0] 29 (0, 0))) ∧ (w'.heap[s_]? = some (.cells #[.int .i64 0, .int .i64 0, .string (⟨#[]⟩ : ByteArray), .int .i64 0, .slice none 0 0, .slice none 0 0, .int .i64 0, .int .i64 0, .string (⟨#[]⟩ : ByteArray), .int .i64 0] 56 (0, 0))) ∧ (w.heap.size ≤ s_) ∧ (w.heap.size ≤ s_) ∧ (gb240 ≠ s_) ∧ (s_ ≠ gb240) ∧ (gb241 ≠ s_) ∧ (s_ ≠ gb241) ∧ (gb242 ≠ s_) ∧ (s_ ≠ gb242) ∧ (Below w.heap.size w w')) ?_ ?_
      rotate_left
      ·intro hCont
       refine two_ (i := 4) (j := 7) (Ni := some 23) (Nj := some 8) (bN 9 31) (bN 9 143) rfl rfl rfl rfl (two_of HT_.out (by kernel_rfl)) (by decide) (by decide) (fun K hK => ?_) (fun K hK => ?_)
       ·skip
        refine goes_ Try.func62 (by kernel_rfl) rfl #[.pointer (some ⟨gb240, 0, none⟩), .int .i64 a1_3] (by rfl) rfl rfl (by (try simp only [List.map_toArray, List.map_cons, List.map_nil]); first | done | rfl | (simp only [List.length_drop, List.length_take]; rfl)) ?_
        with_reducible refine (spec_l07Find.calls kj3 _ [(⟨x241000_3, l0_1⟩ : S34)] a1_3 t247 _ ?side1 A21.out).mono ?_
        (case side1 => exact C_box (t := 34) (sT BK240.out) (k34_mk _ (⟨x241000_3, l0_1⟩ : S34) (by exact HC0_1.out) (by exact sD (Kd.C_below HR0_1.out HB.out))))
        rintro e w' ⟨rfl, ⟨nd, rfl⟩⟩
        refine ⟨_, rfl, ?_⟩
        refine hK.out _ _ ⟨(blk_cell BK240.out 0).trans rfl, (blk_cell BK240.out 1).trans rfl, (blk_cell BK241.out 0).trans rfl, (blk_cell BK241.out 1).trans rfl, (blk_cell BK241.out 2).trans rfl, (blk_cell BK241.out 3).trans rfl, ((HB.out.cell (World.block_lt_of_cell? w _ hw248_0)).trans hw248_0), ((HB.out.cell (World.block_lt_of_cell? w _ hw248_1)).trans hw248_1), ((HB.out.cell (World.block_lt_of_cell? w _ hw248_2)).trans hw248_2), ((HB.out.cell (World.block_lt_of_cell? w _ hw248_3)).trans hw248_3), ((HB.out.cell (World.block_lt_of_cell? w _ hw248_4)).trans hw248_4), ((HB.out.cell (World.block_lt_of_cell? w _ hw248_5)).trans hw248_5), ((HB.out.cell (World.block_lt_of_cell? w _ hw248_6)).trans hw248_6), ((HB.out.cell (World.block_lt_of_cell? w _ hw248_7)).trans hw248_7), ((HB.out.cell (World.block_lt_of_cell? w _ hw248_8)).trans hw248_8), ((HB.out.cell (World.block_lt_of_cell? w _ hw248_9)).trans hw248_9)⟩ (fun hHeld => ?_)
        clear hK K
        refine norm_ (a' := ?_) ?_ ?_
        rotate_left
        ·show Act.put _ (some 23) _ = _
         simp only [Act.put, List.setIfInBounds_toArray, List.set_cons_zero, List.set_cons_succ, i64_w, i32_w]
         rfl
        refine pure_ (i := 5) (N := some 24) (v := ?_) (a' := ?_) (bN 9 63) rfl rfl (any_of HT_.out (by kernel_rfl)) (fun _ _ _ h => h) (Or.inl ⟨by rfl, ?_⟩) ?_ ?_
        rotate_left
        ·intro w'
         go_simp
         with_reducible rfl
        rotate_left
        ·simp only [Act.put, List.setIfInBounds_toArray, List.set_cons_zero, List.set_cons_succ, i64_w, i32_w]
         rfl
        refine take_ (i := 6) (N := some 25) (v := ?_) (a' := ?_) (bN 9 127) rfl rfl (take_ofW HT_.out HW_.out (by kernel_rfl)) (fun _ _ _ h => h) (Or.inl ⟨by rfl, ?_⟩) hHeld ?_ ?_
        rotate_left
        ·rintro w' ⟨s0, s1, s2, s3, s4, s5, s6, s7, s8, s9, s10, s11, s12, s13, s14, s15⟩
         go_simp
         with_reducible rfl
        rotate_left
        ·simp only [Act.put, List.setIfInBounds_toArray, List.set_cons_zero, List.set_cons_succ, i64_w, i32_w]
         rfl
        refine one_ (i := 7) (N := some 8) (bN 9 255) rfl rfl (one_of HT_.out (by kernel_rfl)) (by decide) (fun K hK => ?_)
        refine box_step ?hg (N := 8) ?hd (cs := #[.int .i64 0, .int .i64 0, .string (⟨#[]⟩ : ByteArray), .int .i64 0, .slice none 0 0, .slice none 0 0, .int .i64 0, .int .i64 0, .string (⟨#[]⟩ : ByteArray), .int .i64 0]) (t := 56) ?hr ?_; (case hd => rfl); (case hg => rfl); (case hr => first | (go_simp; done) | (go_simp; rfl))
        intro gb249 hg w29 hbox hb
        have n0_ := sK BK240 hb
        have n1_ := sK BK241 hb
        have n2_ := sK BK242 hb
        have n3_ := sB HB hb
        have n4_ := Aside0.mk (hbox)
        have n5_ := sG HB hg
        have n6_ := sG HB hg
        have n7_ := sN BK240 hg
        have n8_ := sM BK240 hg
        have n9_ := sN BK241 hg
        have n10_ := sM BK241 hg
        have n11_ := sN BK242 hg
        have n12_ := sM BK242 hg
        clear BK240
        clear BK241
        clear BK242
        clear HB
        have BK240 := n0_
        have BK241 := n1_
        have BK242 := n2_
        have HB := n3_
        have BK249 := n4_
        have GW249 := n5_
        have GE249 := n6_
        have NB240_249 := n7_
        have NB249_240 := n8_
        have NB241_249 := n9_
        have NB249_241 := n10_
        have NB242_249 := n11_
        have NB249_242 := n12_
        clear n0_ n1_ n2_ n3_ n4_ n5_ n6_ n7_ n8_ n9_ n10_ n11_ n12_
        clear hb hbox hg
        refine hK.out _ _ ⟨(blk_cell BK240.out 0).trans rfl, (blk_cell BK240.out 1).trans rfl, (blk_cell BK241.out 0).trans rfl, (blk_cell BK241.out 1).trans rfl, (blk_cell BK241.out 2).trans rfl, (blk_cell BK241.out 3).trans rfl, ((HB.out.cell (World.block_lt_of_cell? w _ hw248_0)).trans hw248_0), ((HB.out.cell (World.block_lt_of_cell? w _ hw248_1)).trans hw248_1), ((HB.out.cell (World.block_lt_of_cell? w _ hw248_2)).trans hw248_2), ((HB.out.cell (World.block_lt_of_cell? w _ hw248_3)).trans hw248_3), ((HB.out.cell (World.block_lt_of_cell? w _ hw248_4)).trans hw248_4), ((HB.out.cell (World.block_lt_of_cell? w _ hw248_5)).trans hw248_5), ((HB.out.cell (World.block_lt_of_cell? w _ hw248_6)).trans hw248_6), ((HB.out.cell (World.block_lt_of_cell? w _ hw248_7)).trans hw248_7), ((HB.out.cell (World.block_lt_of_cell? w _ hw248_8)).trans hw248_8), ((HB.out.cell (World.block_lt_of_cell? w _ hw248_9)).trans hw248_9)⟩ (fun hHeld => ?_)
        clear hK K
        refine norm_ (a' := ?_) ?_ ?_
        rotate_left
        ·show Act.put _ (some 8) _ = _
         simp only [Act.put, List.setIfInBounds_toArray, List.set_cons_zero, List.set_cons_succ, i64_w, i32_w]
         rfl
        exact norm_ (by simp only [putAll, Act.put, List.setIfInBounds_toArray, List.set_cons_zero, List.set_cons_succ]) (hCont (gb249) _ ⟨hHeld, (sT BK240.out), (sT BK241.out), (sT BK242.out), (sT BK249.out), GW249.out, GE249.out, NB240_249.out, NB249_240.out, NB241_249.out, NB249_241.out, NB242_249.out, NB249_242.out, (by repeat (first | (with_reducible first | exact HB.out | apply below_alloc | apply pw_below_drewN | apply below_drew1 | refine below_set ?_ GE240.out | refine below_set ?_ GE241.out | refine below_set ?_ GE242.out | refine below_set ?_ GE249.out) | exact HB.out))⟩)
       ·skip
        refine box_step ?hg (N := 8) ?hd (cs := #[.int .i64 0, .int .i64 0, .string (⟨#[]⟩ : ByteArray), .int .i64 0, .slice none 0 0, .slice none 0 0, .int .i64 0, .int .i64 0, .string (⟨#[]⟩ : ByteArray), .int .i64 0]) (t := 56) ?hr ?_; (case hd => rfl); (case hg => rfl); (case hr => first | (go_simp; done) | (go_simp; rfl))
        intro gb249 hg w29 hbox hb
        have n0_ := sK BK240 hb
        have n1_ := sK BK241 hb
        have n2_ := sK BK242 hb
        have n3_ := sB HB hb
        have n4_ := Aside0.mk (hbox)
        have n5_ := sG HB hg
        have n6_ := sG HB hg
        have n7_ := sN BK240 hg
        have n8_ := sM BK240 hg
        have n9_ := sN BK241 hg
        have n10_ := sM BK241 hg
        have n11_ := sN BK242 hg
        have n12_ := sM BK242 hg
        clear BK240
        clear BK241
        clear BK242
        clear HB
        have BK240 := n0_
        have BK241 := n1_
        have BK242 := n2_
        have HB := n3_
        have BK249 := n4_
        have GW249 := n5_
        have GE249 := n6_
        have NB240_249 := n7_
        have NB249_240 := n8_
        have NB241_249 := n9_
        have NB249_241 := n10_
        have NB242_249 := n11_
        have NB249_242 := n12_
        clear n0_ n1_ n2_ n3_ n4_ n5_ n6_ n7_ n8_ n9_ n10_ n11_ n12_
        clear hb hbox hg
        refine hK.out _ _ ⟨(blk_cell BK240.out 0).trans rfl, (blk_cell BK240.out 1).trans rfl, (blk_cell BK241.out 0).trans rfl, (blk_cell BK241.out 1).trans rfl, (blk_cell BK241.out 2).trans rfl, (blk_cell BK241.out 3).trans rfl, ((HB.out.cell (World.block_lt_of_cell? w _ hw248_0)).trans hw248_0), ((HB.out.cell (World.block_lt_of_cell? w _ hw248_1)).trans hw248_1), ((HB.out.cell (World.block_lt_of_cell? w _ hw248_2)).trans hw248_2), ((HB.out.cell (World.block_lt_of_cell? w _ hw248_3)).trans hw248_3), ((HB.out.cell (World.block_lt_of_cell? w _ hw248_4)).trans hw248_4), ((HB.out.cell (World.block_lt_of_cell? w _ hw248_5)).trans hw248_5), ((HB.out.cell (World.block_lt_of_cell? w _ hw248_6)).trans hw248_6), ((HB.out.cell (World.block_lt_of_cell? w _ hw248_7)).trans hw248_7), ((HB.out.cell (World.block_lt_of_cell? w _ hw248_8)).trans hw248_8), ((HB.out.cell (World.block_lt_of_cell? w _ hw248_9)).trans hw248_9)⟩ (fun hHeld => ?_)
        clear hK K
        refine norm_ (a' := ?_) ?_ ?_
        rotate_left
        ·show Act.put _ (some 8) _ = _
         simp only [Act.put, List.setIfInBounds_toArray, List.set_cons_zero, List.set_cons_succ, i64_w, i32_w]
         rfl
        refine one_ (i := 4) (N := some 23) (bN 9 159) rfl rfl (one_of HT_.out (by kernel_rfl)) (by decide) (fun K hK => ?_)
        refine goes_ Try.func62 (by kernel_rfl) rfl #[.pointer (some ⟨gb240, 0, none⟩), .int .i64 a1_3] (by rfl) rfl rfl (by (try simp only [List.map_toArray, List.map_cons, List.map_nil]); first | done | rfl | (simp only [List.length_drop, List.length_take]; rfl)) ?_
        with_reducible refine (spec_l07Find.calls kj3 _ [(⟨x241000_3, l0_1⟩ : S34)] a1_3 t247 _ ?side1 A21.out).mono ?_
        (case side1 => exact C_box (t := 34) (sT BK240.out) (k34_mk _ (⟨x241000_3, l0_1⟩ : S34) (by exact HC0_1.out) (by exact sD (Kd.C_below HR0_1.out HB.out))))
        rintro e w' ⟨rfl, ⟨nd, rfl⟩⟩
        refine ⟨_, rfl, ?_⟩
        refine hK.out _ _ ⟨(blk_cell BK240.out 0).trans rfl, (blk_cell BK240.out 1).trans rfl, (blk_cell BK241.out 0).trans rfl, (blk_cell BK241.out 1).trans rfl, (blk_cell BK241.out 2).trans rfl, (blk_cell BK241.out 3).trans rfl, ((HB.out.cell (World.block_lt_of_cell? w _ hw248_0)).trans hw248_0), ((HB.out.cell (World.block_lt_of_cell? w _ hw248_1)).trans hw248_1), ((HB.out.cell (World.block_lt_of_cell? w _ hw248_2)).trans hw248_2), ((HB.out.cell (World.block_lt_of_cell? w _ hw248_3)).trans hw248_3), ((HB.out.cell (World.block_lt_of_cell? w _ hw248_4)).trans hw248_4), ((HB.out.cell (World.block_lt_of_cell? w _ hw248_5)).trans hw248_5), ((HB.out.cell (World.block_lt_of_cell? w _ hw248_6)).trans hw248_6), ((HB.out.cell (World.block_lt_of_cell? w _ hw248_7)).trans hw248_7), ((HB.out.cell (World.block_lt_of_cell? w _ hw248_8)).trans hw248_8), ((HB.out.cell (World.block_lt_of_cell? w _ hw248_9)).trans hw248_9)⟩ (fun hHeld => ?_)
        clear hK K
        refine norm_ (a' := ?_) ?_ ?_
        rotate_left
        ·show Act.put _ (some 23) _ = _
         simp only [Act.put, List.setIfInBounds_toArray, List.set_cons_zero, List.set_cons_succ, i64_w, i32_w]
         rfl
        refine pure_ (i := 5) (N := some 24) (v := ?_) (a' := ?_) (bN 9 191) rfl rfl (any_of HT_.out (by kernel_rfl)) (fun _ _ _ h => h) (Or.inl ⟨by rfl, ?_⟩) ?_ ?_
        rotate_left
        ·intro w'
         go_simp
         with_reducible rfl
        rotate_left
        ·simp only [Act.put, List.setIfInBounds_toArray, List.set_cons_zero, List.set_cons_succ, i64_w, i32_w]
         rfl
        refine take_ (i := 6) (N := some 25) (v := ?_) (a' := ?_) (bN 9 255) rfl rfl (take_ofW HT_.out HW_.out (by kernel_rfl)) (fun _ _ _ h => h) (Or.inl ⟨by rfl, ?_⟩) hHeld ?_ ?_
        rotate_left
        ·rintro w' ⟨s0, s1, s2, s3, s4, s5, s6, s7, s8, s9, s10, s11, s12, s13, s14, s15⟩
         go_simp
         with_reducible rfl
        rotate_left
        ·simp only [Act.put, List.setIfInBounds_toArray, List.set_cons_zero, List.set_cons_succ, i64_w, i32_w]
         rfl
        exact norm_ (by simp only [putAll, Act.put, List.setIfInBounds_toArray, List.set_cons_zero, List.set_cons_succ]) (hCont (gb249) _ ⟨hHeld, (sT BK240.out), (sT BK241.out), (sT BK242.out), (sT BK249.out), GW249.out, GE249.out, NB240_249.out, NB249_240.out, NB241_249.out, NB249_241.out, NB242_249.out, NB249_242.out, (by repeat (first | (with_reducible first | exact HB.out | apply below_alloc | apply pw_below_drewN | apply below_drew1 | refine below_set ?_ GE240.out | refine below_set ?_ GE241.out | refine below_set ?_ GE242.out | refine below_set ?_ GE249.out) | exact HB.out))⟩)
      rintro gb249 w30 ⟨hS_, h0_, h1_, h2_, h3_, h4_, h5_, h6_, h7_, h8_, h9_, h10_, h11_, h12_⟩
      have n0_ : Aside0 (w30.heap[gb240]? = some (.cells #[.int .i64 x241000_3, .slice (some ad248) l0_1.length c0_1] 34 (0, 0))) := ⟨h0_⟩
      have n1_ : Aside0 (w30.heap[gb241]? = some (.cells #[.int .i64 a1_0, .int .i64 a1_1, .string a1_2, .int .i64 a1_3] 29 (0, 0))) := ⟨h1_⟩
      have n2_ : Aside0 (w30.heap[gb242]? = some (.cells #[.int .i64 0, .int .i64 0, .string (⟨#[]⟩ : ByteArray), .int .i64 0] 29 (0, 0))) := ⟨h2_⟩
      have n3_ : Aside0 (w30.heap[gb249]? = some (.cells #[.int .i64 0, .int .i64 0, .string (⟨#[]⟩ : ByteArray), .int .i64 0, .slice none 0 0, .slice none 0 0, .int .i64 0, .int .i64 0, .string (⟨#[]⟩ : ByteArray), .int .i64 0] 56 (0, 0))) := ⟨h3_⟩
      have n4_ : Aside0 (w.heap.size ≤ gb249) := ⟨h4_⟩
      have n5_ : Aside0 (w.heap.size ≤ gb249) := ⟨h5_⟩
      have n6_ : Aside0 (gb240 ≠ gb249) := ⟨h6_⟩
      have n7_ : Aside0 (gb249 ≠ gb240) := ⟨h7_⟩
      have n8_ : Aside0 (gb241 ≠ gb249) := ⟨h8_⟩
      have n9_ : Aside0 (gb249 ≠ gb241) := ⟨h9_⟩
      have n10_ : Aside0 (gb242 ≠ gb249) := ⟨h10_⟩
      have n11_ : Aside0 (gb249 ≠ gb242) := ⟨h11_⟩
      have n12_ : Aside0 (Below w.heap.size w w30) := ⟨h12_⟩
      clear BK240
      clear BK241
      clear BK242
      clear HB
      clear h0_ h1_ h2_ h3_ h4_ h5_ h6_ h7_ h8_ h9_ h10_ h11_ h12_
      have BK240 := n0_
      have BK241 := n1_
      have BK242 := n2_
      have BK249 := n3_
      have GW249 := n4_
      have GE249 := n5_
      have NB240_249 := n6_
      have NB249_240 := n7_
      have NB241_249 := n8_
      have NB249_241 := n9_
      have NB242_249 := n10_
      have NB249_242 := n11_
      have HB := n12_
      clear n0_ n1_ n2_ n3_ n4_ n5_ n6_ n7_ n8_ n9_ n10_ n11_ n12_
      have hHeld : w30.cell? ⟨gb240, 0, none⟩ = some (.int .i64 x241000_3) ∧ w30.cell? ⟨gb240, 1, none⟩ = some (.slice (some ad248) l0_1.length c0_1) ∧ w30.cell? ⟨gb241, 0, none⟩ = some (.int .i64 a1_0) ∧ w30.cell? ⟨gb241, 1, none⟩ = some (.int .i64 a1_1) ∧ w30.cell? ⟨gb241, 2, none⟩ = some (.string a1_2) ∧ w30.cell? ⟨gb241, 3, none⟩ = some (.int .i64 a1_3) ∧ w30.cell? (ad248.add ((t247).toNat * 10)) = some (.int .i64 ((rd_T56 l0_1 t247).f0)) ∧ w30.cell? ⟨(ad248.add ((t247).toNat * 10)).block, (ad248.add ((t247).toNat * 10)).off + 1, none⟩ = some (.int .i64 ((rd_T56 l0_1 t247).f1)) ∧ w30.cell? ⟨(ad248.add ((t247).toNat * 10)).block, (ad248.add ((t247).toNat * 10)).off + 2, none⟩ = some (.string ((rd_T56 l0_1 t247).f2)) ∧ w30.cell? ⟨(ad248.add ((t247).toNat * 10)).block, (ad248.add ((t247).toNat * 10)).off + 3, none⟩ = some (.int .i64 ((rd_T56 l0_1 t247).f3)) ∧ w30.cell? ⟨(ad248.add ((t247).toNat * 10)).block, (ad248.add ((t247).toNat * 10)).off + 4, none⟩ = some (.slice A248_4 ((rd_T56 l0_1 t247).f4).length c248_4) ∧ w30.cell? ⟨(ad248.add ((t247).toNat * 10)).block, (ad248.add ((t247).toNat * 10)).off + 5, none⟩ = some (.slice A248_5 ((rd_T56 l0_1 t247).f5).length c248_5) ∧ w30.cell? ⟨(ad248.add ((t247).toNat * 10)).block, (ad248.add ((t247).toNat * 10)).off + 6, none⟩ = some (.int .i64 ((rd_T56 l0_1 t247).f6.f0)) ∧ w30.cell? ⟨(ad248.add ((t247).toNat * 10)).block, (ad248.add ((t247).toNat * 10)).off + 7, none⟩ = some (.int .i64 ((rd_T56 l0_1 t247).f6.f1)) ∧ w30.cell? ⟨(ad248.add ((t247).toNat * 10)).block, (ad248.add ((t247).toNat * 10)).off + 8, none⟩ = some (.string ((rd_T56 l0_1 t247).f6.f2)) ∧ w30.cell? ⟨(ad248.add ((t247).toNat * 10)).block, (ad248.add ((t247).toNat * 10)).off + 9, none⟩ = some (.int .i64 ((rd_T56 l0_1 t247).f6.f3)) := hS_
      refine norm_ (a' := ?_) ?_ ?_
      rotate_left
      ·simp only [putAll, Act.put, List.setIfInBounds_toArray, List.set_cons_zero, List.set_cons_succ]
       rfl
      refine one_ (i := 8) (N := none) (bN 9 511) rfl rfl (one_of HT_.out (by kernel_rfl)) (by decide) (fun K hK => ?_)
      have hs31 : w30.cell? ⟨gb249, 0, none⟩ = some (.int .i64 0) := (blk_cell BK249.out 0).trans rfl
      have hfs31 := blk_frozen BK249.out 0
      have hns31_0 := NB240_249.out
      have hns31_1 := NB241_249.out
      have hns31_2 := NB242_249.out
      have hms31_0 := NB249_240.out
      have hms31_1 := NB249_241.out
      have hms31_2 := NB249_242.out
      have hs32 : w30.cell? ⟨gb249, 1, none⟩ = some (.int .i64 0) := (blk_cell BK249.out 1).trans rfl
      have hfs32 := blk_frozen BK249.out 1
      have hns32_0 := NB240_249.out
      have hns32_1 := NB241_249.out
      have hns32_2 := NB242_249.out
      have hms32_0 := NB249_240.out
      have hms32_1 := NB249_241.out
      have hms32_2 := NB249_242.out
      have hs33 : w30.cell? ⟨gb249, 2, none⟩ = some (.string (⟨#[]⟩ : ByteArray)) := (blk_cell BK249.out 2).trans rfl
      have hfs33 := blk_frozen BK249.out 2
      have hns33_0 := NB240_249.out
      have hns33_1 := NB241_249.out
      have hns33_2 := NB242_249.out
      have hms33_0 := NB249_240.out
      have hms33_1 := NB249_241.out
      have hms33_2 := NB249_242.out
      have hs34 : w30.cell? ⟨gb249, 3, none⟩ = some (.int .i64 0) := (blk_cell BK249.out 3).trans rfl
      have hfs34 := blk_frozen BK249.out 3
      have hns34_0 := NB240_249.out
      have hns34_1 := NB241_249.out
      have hns34_2 := NB242_249.out
      have hms34_0 := NB249_240.out
      have hms34_1 := NB249_241.out
      have hms34_2 := NB249_242.out
      have hs35 : w30.cell? ⟨gb249, 4, none⟩ = some (.slice none 0 0) := (blk_cell BK249.out 4).trans rfl
      have hfs35 := blk_frozen BK249.out 4
      have hns35_0 := NB240_249.out
      have hns35_1 := NB241_249.out
      have hns35_2 := NB242_249.out
      have hms35_0 := NB249_240.out
      have hms35_1 := NB249_241.out
      have hms35_2 := NB249_242.out
      have hs36 : w30.cell? ⟨gb249, 5, none⟩ = some (.slice none 0 0) := (blk_cell BK249.out 5).trans rfl
      have hfs36 := blk_frozen BK249.out 5
      have hns36_0 := NB240_249.out
      have hns36_1 := NB241_249.out
      have hns36_2 := NB242_249.out
      have hms36_0 := NB249_240.out
      have hms36_1 := NB249_241.out
      have hms36_2 := NB249_242.out
      have hs37 : w30.cell? ⟨gb249, 6, none⟩ = some (.int .i64 0) := (blk_cell BK249.out 6).trans rfl
      have hfs37 := blk_frozen BK249.out 6
      have hns37_0 := NB240_249.out
      have hns37_1 := NB241_249.out
      have hns37_2 := NB242_249.out
      have hms37_0 := NB249_240.out
      have hms37_1 := NB249_241.out
      have hms37_2 := NB249_242.out
      have hs38 : w30.cell? ⟨gb249, 7, none⟩ = some (.int .i64 0) := (blk_cell BK249.out 7).trans rfl
      have hfs38 := blk_frozen BK249.out 7
      have hns38_0 := NB240_249.out
      have hns38_1 := NB241_249.out
      have hns38_2 := NB242_249.out
      have hms38_0 := NB249_240.out
      have hms38_1 := NB249_241.out
      have hms38_2 := NB249_242.out
      have hs39 : w30.cell? ⟨gb249, 8, none⟩ = some (.string (⟨#[]⟩ : ByteArray)) := (blk_cell BK249.out 8).trans rfl
      have hfs39 := blk_frozen BK249.out 8
      have hns39_0 := NB240_249.out
      have hns39_1 := NB241_249.out
      have hns39_2 := NB242_249.out
      have hms39_0 := NB249_240.out
      have hms39_1 := NB249_241.out
      have hms39_2 := NB249_242.out
      have hs40 : w30.cell? ⟨gb249, 9, none⟩ = some (.int .i64 0) := (blk_cell BK249.out 9).trans rfl
      have hfs40 := blk_frozen BK249.out 9
      have hns40_0 := NB240_249.out
      have hns40_1 := NB241_249.out
      have hns40_2 := NB242_249.out
      have hms40_0 := NB249_240.out
      have hms40_1 := NB249_241.out
      have hms40_2 := NB249_242.out
      refine skip_ (w1 := ?_) (by rfl) rfl ?_ ?_
      rotate_left
      ·go_simp
       rfl
      refine hK.out _ _ ⟨(sQ10 (g := gb249) NB240_249.out (hHeld.1)), (sQ10 (g := gb249) NB240_249.out (hHeld.2.1)), (sQ10 (g := gb249) NB241_249.out (hHeld.2.2.1)), (sQ10 (g := gb249) NB241_249.out (hHeld.2.2.2.1)), (sQ10 (g := gb249) NB241_249.out (hHeld.2.2.2.2.1)), (sQ10 (g := gb249) NB241_249.out (hHeld.2.2.2.2.2.1)), (sQ10 (g := gb249) (by first | exact Nat.ne_of_lt (Nat.lt_of_lt_of_le (by have := World.block_lt_of_cell? _ _ hw248_0; first | rwa [add_block] at this | exact this) GW249.out) | (rw [add_block]; exact Nat.ne_of_lt (Nat.lt_of_lt_of_le (by have := World.block_lt_of_cell? _ _ hw248_0; first | rwa [add_block] at this | exact this) GW249.out)) | (show (Addr.add _ _).block ≠ _; rw [add_block]; exact Nat.ne_of_lt (Nat.lt_of_lt_of_le (by have := World.block_lt_of_cell? _ _ hw248_0; first | rwa [add_block] at this | exact this) GW249.out)) | (dsimp only; exact Nat.ne_of_lt (Nat.lt_of_lt_of_le (by have := World.block_lt_of_cell? _ _ hw248_0; first | rwa [add_block] at this | exact this) GW249.out))) (hHeld.2.2.2.2.2.2.1)), (sQ10 (g := gb249) (by first | exact Nat.ne_of_lt (Nat.lt_of_lt_of_le (by have := World.block_lt_of_cell? _ _ hw248_1; first | rwa [add_block] at this | exact this) GW249.out) | (rw [add_block]; exact Nat.ne_of_lt (Nat.lt_of_lt_of_le (by have := World.block_lt_of_cell? _ _ hw248_1; first | rwa [add_block] at this | exact this) GW249.out)) | (show (Addr.add _ _).block ≠ _; rw [add_block]; exact Nat.ne_of_lt (Nat.lt_of_lt_of_le (by have := World.block_lt_of_cell? _ _ hw248_1; first | rwa [add_block] at this | exact this) GW249.out)) | (dsimp only; exact Nat.ne_of_lt (Nat.lt_of_lt_of_le (by have := World.block_lt_of_cell? _ _ hw248_1; first | rwa [add_block] at this | exact this) GW249.out))) (hHeld.2.2.2.2.2.2.2.1)), (sQ10 (g := gb249) (by first | exact Nat.ne_of_lt (Nat.lt_of_lt_of_le (by have := World.block_lt_of_cell? _ _ hw248_2; first | rwa [add_block] at this | exact this) GW249.out) | (rw [add_block]; exact Nat.ne_of_lt (Nat.lt_of_lt_of_le (by have := World.block_lt_of_cell? _ _ hw248_2; first | rwa [add_block] at this | exact this) GW249.out)) | (show (Addr.add _ _).block ≠ _; rw [add_block]; exact Nat.ne_of_lt (Nat.lt_of_lt_of_le (by have := World.block_lt_of_cell? _ _ hw248_2; first | rwa [add_block] at this | exact this) GW249.out)) | (dsimp only; exact Nat.ne_of_lt (Nat.lt_of_lt_of_le (by have := World.block_lt_of_cell? _ _ hw248_2; first | rwa [add_block] at this | exact this) GW249.out))) (hHeld.2.2.2.2.2.2.2.2.1)), (sQ10 (g := gb249) (by first | exact Nat.ne_of_lt (Nat.lt_of_lt_of_le (by have := World.block_lt_of_cell? _ _ hw248_3; first | rwa [add_block] at this | exact this) GW249.out) | (rw [add_block]; exact Nat.ne_of_lt (Nat.lt_of_lt_of_le (by have := World.block_lt_of_cell? _ _ hw248_3; first | rwa [add_block] at this | exact this) GW249.out)) | (show (Addr.add _ _).block ≠ _; rw [add_block]; exact Nat.ne_of_lt (Nat.lt_of_lt_of_le (by have := World.block_lt_of_cell? _ _ hw248_3; first | rwa [add_block] at this | exact this) GW249.out)) | (dsimp only; exact Nat.ne_of_lt (Nat.lt_of_lt_of_le (by have := World.block_lt_of_cell? _ _ hw248_3; first | rwa [add_block] at this | exact this) GW249.out))) (hHeld.2.2.2.2.2.2.2.2.2.1)), (sQ10 (g := gb249) (by first | exact Nat.ne_of_lt (Nat.lt_of_lt_of_le (by have := World.block_lt_of_cell? _ _ hw248_4; first | rwa [add_block] at this | exact this) GW249.out) | (rw [add_block]; exact Nat.ne_of_lt (Nat.lt_of_lt_of_le (by have := World.block_lt_of_cell? _ _ hw248_4; first | rwa [add_block] at this | exact this) GW249.out)) | (show (Addr.add _ _).block ≠ _; rw [add_block]; exact Nat.ne_of_lt (Nat.lt_of_lt_of_le (by have := World.block_lt_of_cell? _ _ hw248_4; first | rwa [add_block] at this | exact this) GW249.out)) | (dsimp only; exact Nat.ne_of_lt (Nat.lt_of_lt_of_le (by have := World.block_lt_of_cell? _ _ hw248_4; first | rwa [add_block] at this | exact this) GW249.out))) (hHeld.2.2.2.2.2.2.2.2.2.2.1)), (sQ10 (g := gb249) (by first | exact Nat.ne_of_lt (Nat.lt_of_lt_of_le (by have := World.block_lt_of_cell? _ _ hw248_5; first | rwa [add_block] at this | exact this) GW249.out) | (rw [add_block]; exact Nat.ne_of_lt (Nat.lt_of_lt_of_le (by have := World.block_lt_of_cell? _ _ hw248_5; first | rwa [add_block] at this | exact this) GW249.out)) | (show (Addr.add _ _).block ≠ _; rw [add_block]; exact Nat.ne_of_lt (Nat.lt_of_lt_of_le (by have := World.block_lt_of_cell? _ _ hw248_5; first | rwa [add_block] at this | exact this) GW249.out)) | (dsimp only; exact Nat.ne_of_lt (Nat.lt_of_lt_of_le (by have := World.block_lt_of_cell? _ _ hw248_5; first | rwa [add_block] at this | exact this) GW249.out))) (hHeld.2.2.2.2.2.2.2.2.2.2.2.1)), (sQ10 (g := gb249) (by first | exact Nat.ne_of_lt (Nat.lt_of_lt_of_le (by have := World.block_lt_of_cell? _ _ hw248_6; first | rwa [add_block] at this | exact this) GW249.out) | (rw [add_block]; exact Nat.ne_of_lt (Nat.lt_of_lt_of_le (by have := World.block_lt_of_cell? _ _ hw248_6; first | rwa [add_block] at this | exact this) GW249.out)) | (show (Addr.add _ _).block ≠ _; rw [add_block]; exact Nat.ne_of_lt (Nat.lt_of_lt_of_le (by have := World.block_lt_of_cell? _ _ hw248_6; first | rwa [add_block] at this | exact this) GW249.out)) | (dsimp only; exact Nat.ne_of_lt (Nat.lt_of_lt_of_le (by have := World.block_lt_of_cell? _ _ hw248_6; first | rwa [add_block] at this | exact this) GW249.out))) (hHeld.2.2.2.2.2.2.2.2.2.2.2.2.1)), (sQ10 (g := gb249) (by first | exact Nat.ne_of_lt (Nat.lt_of_lt_of_le (by have := World.block_lt_of_cell? _ _ hw248_7; first | rwa [add_block] at this | exact this) GW249.out) | (rw [add_block]; exact Nat.ne_of_lt (Nat.lt_of_lt_of_le (by have := World.block_lt_of_cell? _ _ hw248_7; first | rwa [add_block] at this | exact this) GW249.out)) | (show (Addr.add _ _).block ≠ _; rw [add_block]; exact Nat.ne_of_lt (Nat.lt_of_lt_of_le (by have := World.block_lt_of_cell? _ _ hw248_7; first | rwa [add_block] at this | exact this) GW249.out)) | (dsimp only; exact Nat.ne_of_lt (Nat.lt_of_lt_of_le (by have := World.block_lt_of_cell? _ _ hw248_7; first | rwa [add_block] at this | exact this) GW249.out))) (hHeld.2.2.2.2.2.2.2.2.2.2.2.2.2.1)), (sQ10 (g := gb249) (by first | exact Nat.ne_of_lt (Nat.lt_of_lt_of_le (by have := World.block_lt_of_cell? _ _ hw248_8; first | rwa [add_block] at this | exact this) GW249.out) | (rw [add_block]; exact Nat.ne_of_lt (Nat.lt_of_lt_of_le (by have := World.block_lt_of_cell? _ _ hw248_8; first | rwa [add_block] at this | exact this) GW249.out)) | (show (Addr.add _ _).block ≠ _; rw [add_block]; exact Nat.ne_of_lt (Nat.lt_of_lt_of_le (by have := World.block_lt_of_cell? _ _ hw248_8; first | rwa [add_block] at this | exact this) GW249.out)) | (dsimp only; exact Nat.ne_of_lt (Nat.lt_of_lt_of_le (by have := World.block_lt_of_cell? _ _ hw248_8; first | rwa [add_block] at this | exact this) GW249.out))) (hHeld.2.2.2.2.2.2.2.2.2.2.2.2.2.2.1)), (sQ10 (g := gb249) (by first | exact Nat.ne_of_lt (Nat.lt_of_lt_of_le (by have := World.block_lt_of_cell? _ _ hw248_9; first | rwa [add_block] at this | exact this) GW249.out) | (rw [add_block]; exact Nat.ne_of_lt (Nat.lt_of_lt_of_le (by have := World.block_lt_of_cell? _ _ hw248_9; first | rwa [add_block] at this | exact this) GW249.out)) | (show (Addr.add _ _).block ≠ _; rw [add_block]; exact Nat.ne_of_lt (Nat.lt_of_lt_of_le (by have := World.block_lt_of_cell? _ _ hw248_9; first | rwa [add_block] at this | exact this) GW249.out)) | (dsimp only; exact Nat.ne_of_lt (Nat.lt_of_lt_of_le (by have := World.block_lt_of_cell? _ _ hw248_9; first | rwa [add_block] at this | exact this) GW249.out))) (hHeld.2.2.2.2.2.2.2.2.2.2.2.2.2.2.2))⟩ (fun hHeld => ?_)
      clear hK K
      refine done_ (done_of HT_.out (by kernel_rfl)) ?_
      go_upto_region 6 with (fail)
      go_cut [9] (fun v9 wc => ∃ (kq : Nat) (x9_23 : Int) (x250000_23 : Int) (x250001_23 : Int) (x250002_23 : ByteArray) (x250003_23 : Int) (x250006_23 : Int) (x250007_23 : Int) (x250008_23 : ByteArray) (x250009_23 : Int), v9 = .int .i64 x9_23 ∧ Aside0 (spec_GetField.j1 kq x9_23 x250000_23 x250001_23 x250002_23 x250003_23 ((rd_T56 l0_1 t247).f4) ((rd_T56 l0_1 t247).f5) x250006_23 x250007_23 x250008_23 x250009_23 = some (r1, r2, r3, r4, r5)) ∧ Aside0 (kq ≤ kj3) ∧ Aside0 (wc.heap[gb240]? = some (.cells #[.int .i64 x241000_3, (.slice (some ad248) l0_1.length c0_1)] 34 (0, 0))) ∧ Aside0 (wc.heap[gb241]? = some (.cells #[.int .i64 a1_0, .int .i64 a1_1, .string a1_2, .int .i64 a1_3] 29 (0, 0))) ∧ Aside0 (wc.heap[gb242]? = some (.cells #[.int .i64 0, .int .i64 0, .string (⟨#[]⟩ : ByteArray), .int .i64 0] 29 (0, 0))) ∧ Aside0 (wc.heap[gb249]? = some (.cells #[.int .i64 x250000_23, .int .i64 x250001_23, .string x250002_23, .int .i64 x250003_23, (.slice A248_4 ((rd_T56 l0_1 t247).f4).length c248_4), (.slice A248_5 ((rd_T56 l0_1 t247).f5).length c248_5), .int .i64 x250006_23, .int .i64 x250007_23, .string x250008_23, .int .i64 x250009_23] 56 (0, 0))) ∧ Aside0 (Below w.heap.size w wc))
      case first =>
       have H := HC24.out
       clear HC24
       obtain ⟨t250, A41, H⟩ := sO H
       have H' := Aside0.mk H
       clear H
       go_wp2_with (first | ((with_reducible refine gate_callee (f := 63) rfl ?_); refine sC (some 27) Try.func63 #[.pointer (some ⟨gb249, 0, none⟩), .string a2] (spec_l09Field.calls kj3 _ [(⟨(rd_T56 l0_1 t247).f0, (rd_T56 l0_1 t247).f1, (rd_T56 l0_1 t247).f2, (rd_T56 l0_1 t247).f3, (rd_T56 l0_1 t247).f4, (rd_T56 l0_1 t247).f5, (⟨(rd_T56 l0_1 t247).f6.f0, (rd_T56 l0_1 t247).f6.f1, (rd_T56 l0_1 t247).f6.f2, (rd_T56 l0_1 t247).f6.f3⟩ : S29)⟩ : S56)] a2 t250 _ ?side1 A41.out) ?_; (case side1 => exact C_box (t := 56) (by exact sP10 (sT BK249.out)) (k56_mk _ (⟨(rd_T56 l0_1 t247).f0, (rd_T56 l0_1 t247).f1, (rd_T56 l0_1 t247).f2, (rd_T56 l0_1 t247).f3, (rd_T56 l0_1 t247).f4, (rd_T56 l0_1 t247).f5, (⟨(rd_T56 l0_1 t247).f6.f0, (rd_T56 l0_1 t247).f6.f1, (rd_T56 l0_1 t247).f6.f2, (rd_T56 l0_1 t247).f6.f3⟩ : S29)⟩ : S56) (by exact HC248_4.out) (by exact Kd.C_below HR248_4.out (by repeat (first | (with_reducible first | exact HB.out | apply below_alloc | apply pw_below_drewN | apply below_drew1 | refine below_set ?_ GE240.out | refine below_set ?_ GE241.out | refine below_set ?_ GE242.out | refine below_set ?_ GE249.out) | exact HB.out))) (by exact HC248_5.out) (by exact Kd.C_below HR248_5.out (by repeat (first | (with_reducible first | exact HB.out | apply below_alloc | apply pw_below_drewN | apply below_drew1 | refine below_set ?_ GE240.out | refine below_set ?_ GE241.out | refine below_set ?_ GE242.out | refine below_set ?_ GE249.out) | exact HB.out))))); rintro e w42 ⟨rfl, hb⟩; refine ⟨_, rfl, ?_⟩; have n0_ := Aside0.mk (blk_below (g := gb240) (o := .cells #[.int .i64 x241000_3, .slice (some ad248) l0_1.length c0_1] 34 (0, 0)) (by (with_reducible repeat (first | refine blk_drewN ?_ _ | refine blk_drew ?_ | refine blk_alloc ?_ _)); refine blk_far ?_ NB240_249.out _; (with_reducible repeat (first | refine blk_drewN ?_ _ | refine blk_drew ?_ | refine blk_alloc ?_ _)); refine blk_far ?_ NB240_249.out _; (with_reducible repeat (first | refine blk_drewN ?_ _ | refine blk_drew ?_ | refine blk_alloc ?_ _)); refine blk_far ?_ NB240_249.out _; (with_reducible repeat (first | refine blk_drewN ?_ _ | refine blk_drew ?_ | refine blk_alloc ?_ _)); refine blk_far ?_ NB240_249.out _; (with_reducible repeat (first | refine blk_drewN ?_ _ | refine blk_drew ?_ | refine blk_alloc ?_ _)); refine blk_far ?_ NB240_249.out _; (with_reducible repeat (first | refine blk_drewN ?_ _ | refine blk_drew ?_ | refine blk_alloc ?_ _)); refine blk_far ?_ NB240_249.out _; (with_reducible repeat (first | refine blk_drewN ?_ _ | refine blk_drew ?_ | refine blk_alloc ?_ _)); refine blk_far ?_ NB240_249.out _; (with_reducible repeat (first | refine blk_drewN ?_ _ | refine blk_drew ?_ | refine blk_alloc ?_ _)); refine blk_far ?_ NB240_249.out _; (with_reducible repeat (first | refine blk_drewN ?_ _ | refine blk_drew ?_ | refine blk_alloc ?_ _)); refine blk_far ?_ NB240_249.out _; (with_reducible repeat (first | refine blk_drewN ?_ _ | refine blk_drew ?_ | refine blk_alloc ?_ _)); refine blk_far ?_ NB240_249.out _; exact sT BK240.out) hb); have n1_ := Aside0.mk (blk_below (g := gb241) (o := .cells #[.int .i64 a1_0, .int .i64 a1_1, .string a1_2, .int .i64 a1_3] 29 (0, 0)) (by (with_reducible repeat (first | refine blk_drewN ?_ _ | refine blk_drew ?_ | refine blk_alloc ?_ _)); refine blk_far ?_ NB241_249.out _; (with_reducible repeat (first | refine blk_drewN ?_ _ | refine blk_drew ?_ | refine blk_alloc ?_ _)); refine blk_far ?_ NB241_249.out _; (with_reducible repeat (first | refine blk_drewN ?_ _ | refine blk_drew ?_ | refine blk_alloc ?_ _)); refine blk_far ?_ NB241_249.out _; (with_reducible repeat (first | refine blk_drewN ?_ _ | refine blk_drew ?_ | refine blk_alloc ?_ _)); refine blk_far ?_ NB241_249.out _; (with_reducible repeat (first | refine blk_drewN ?_ _ | refine blk_drew ?_ | refine blk_alloc ?_ _)); refine blk_far ?_ NB241_249.out _; (with_reducible repeat (first | refine blk_drewN ?_ _ | refine blk_drew ?_ | refine blk_alloc ?_ _)); refine blk_far ?_ NB241_249.out _; (with_reducible repeat (first | refine blk_drewN ?_ _ | refine blk_drew ?_ | refine blk_alloc ?_ _)); refine blk_far ?_ NB241_249.out _; (with_reducible repeat (first | refine blk_drewN ?_ _ | refine blk_drew ?_ | refine blk_alloc ?_ _)); refine blk_far ?_ NB241_249.out _; (with_reducible repeat (first | refine blk_drewN ?_ _ | refine blk_drew ?_ | refine blk_alloc ?_ _)); refine blk_far ?_ NB241_249.out _; (with_reducible repeat (first | refine blk_drewN ?_ _ | refine blk_drew ?_ | refine blk_alloc ?_ _)); refine blk_far ?_ NB241_249.out _; exact sT BK241.out) hb); have n2_ := Aside0.mk (blk_below (g := gb242) (o := .cells #[.int .i64 0, .int .i64 0, .string (⟨#[]⟩ : ByteArray), .int .i64 0] 29 (0, 0)) (by (with_reducible repeat (first | refine blk_drewN ?_ _ | refine blk_drew ?_ | refine blk_alloc ?_ _)); refine blk_far ?_ NB242_249.out _; (with_reducible repeat (first | refine blk_drewN ?_ _ | refine blk_drew ?_ | refine blk_alloc ?_ _)); refine blk_far ?_ NB242_249.out _; (with_reducible repeat (first | refine blk_drewN ?_ _ | refine blk_drew ?_ | refine blk_alloc ?_ _)); refine blk_far ?_ NB242_249.out _; (with_reducible repeat (first | refine blk_drewN ?_ _ | refine blk_drew ?_ | refine blk_alloc ?_ _)); refine blk_far ?_ NB242_249.out _; (with_reducible repeat (first | refine blk_drewN ?_ _ | refine blk_drew ?_ | refine blk_alloc ?_ _)); refine blk_far ?_ NB242_249.out _; (with_reducible repeat (first | refine blk_drewN ?_ _ | refine blk_drew ?_ | refine blk_alloc ?_ _)); refine blk_far ?_ NB242_249.out _; (with_reducible repeat (first | refine blk_drewN ?_ _ | refine blk_drew ?_ | refine blk_alloc ?_ _)); refine blk_far ?_ NB242_249.out _; (with_reducible repeat (first | refine blk_drewN ?_ _ | refine blk_drew ?_ | refine blk_alloc ?_ _)); refine blk_far ?_ NB242_249.out _; (with_reducible repeat (first | refine blk_drewN ?_ _ | refine blk_drew ?_ | refine blk_alloc ?_ _)); refine blk_far ?_ NB242_249.out _; (with_reducible repeat (first | refine blk_drewN ?_ _ | refine blk_drew ?_ | refine blk_alloc ?_ _)); refine blk_far ?_ NB242_249.out _; exact sT BK242.out) hb); have n3_ := Aside0.mk (blk_below (g := gb249) (o := .cells #[.int .i64 ((rd_T56 l0_1 t247).f0), .int .i64 ((rd_T56 l0_1 t247).f1), .string ((rd_T56 l0_1 t247).f2), .int .i64 ((rd_T56 l0_1 t247).f3), .slice A248_4 ((rd_T56 l0_1 t247).f4).length c248_4, .slice A248_5 ((rd_T56 l0_1 t247).f5).length c248_5, .int .i64 ((rd_T56 l0_1 t247).f6.f0), .int .i64 ((rd_T56 l0_1 t247).f6.f1), .string ((rd_T56 l0_1 t247).f6.f2), .int .i64 ((rd_T56 l0_1 t247).f6.f3)] 56 (0, 0)) (by exact sP10 (sT BK249.out)) hb); have n4_ := sB HB hb; clear BK240; clear BK241; clear BK242; clear BK249; clear HB; have BK240 := n0_; have BK241 := n1_; have BK242 := n2_; have BK249 := n3_; have HB := n4_; clear n0_ n1_ n2_ n3_ n4_; (try clear hb); (try clear hb2); (try clear hk); (try clear hi)))
       go_meet
       case rel => exact ⟨_, (t250), ((rd_T56 l0_1 t247).f0), ((rd_T56 l0_1 t247).f1), ((rd_T56 l0_1 t247).f2), ((rd_T56 l0_1 t247).f3), ((rd_T56 l0_1 t247).f6.f0), ((rd_T56 l0_1 t247).f6.f1), ((rd_T56 l0_1 t247).f6.f2), ((rd_T56 l0_1 t247).f6.f3), sr, H', ⟨by have := HJ3.out; first | omega | exact Nat.le_refl _⟩, ⟨by exact sT BK240.out⟩, ⟨by exact sT BK241.out⟩, ⟨by exact sT BK242.out⟩, ⟨by exact sT BK249.out⟩, ⟨sb⟩⟩
      case rest =>
       clear HC24
       try clear c1
       try clear c2
       try clear p2
       try clear q2
       try clear hx2
       try clear c4
       try clear c6
       try clear c9
       try clear c10
       try clear c16
       try clear c17
       try clear c18
       try clear c20
       try clear c20b0
       try clear c20b1
       try clear c22
       try clear c22b0
       try clear c23
       try clear c23b0
       try clear c24
       try clear p24
       try clear q24
       try clear hx24
       try clear c25
       try clear c26
       try clear hcz11_0
       try clear hcz11_1
       try clear hcz11_2
       try clear hcz11_3
       try clear hcz19_0
       try clear hcz19_1
       try clear hcz19_2
       try clear hcz19_3
       try clear hcz27_0
       try clear hcz27_1
       try clear hcz27_2
       try clear hcz27_3
       try clear hfz11_0
       try clear hfz11_1
       try clear hfz11_2
       try clear hfz11_3
       try clear hfz19_0
       try clear hfz19_1
       try clear hfz19_2
       try clear hfz19_3
       try clear hfz27_0
       try clear hfz27_1
       try clear hfz27_2
       try clear hfz27_3
       try clear hx248_0
       try clear hx248_1
       try clear hx248_2
       try clear hx248_3
       try clear hx248_4
       try clear hx248_5
       try clear hx248_6
       try clear hx248_7
       try clear hx248_8
       try clear hx248_9
       try clear p2
       try clear p248
       try clear q248
       obtain ⟨kq, x9_23, x250000_23, x250001_23, x250002_23, x250003_23, x250006_23, x250007_23, x250008_23, x250009_23, rfl, HA, HJ23, BK240, BK241, BK242, BK249, HB⟩ := hcut
       cases kq with
       | zero => exact absurd HA.out (by simp [spec_GetField.j1])
       | succ kj23 =>
        have H := HA.out
        clear HA
        simp only [spec_GetField.j1] at H
        by_cases c43 : x9_23 < 0
        ·rw [if_pos c43] at H
         have c43b0 := decide_eq_true c43
         clear c43
         simp only [Option.some.injEq, Prod.mk.injEq] at H
         obtain ⟨rfl, rfl, rfl, rfl, rfl⟩ := H
         have hnb44 := NB242_240.out
         have hnc44 := NB240_242.out
         have hnb45 := NB242_241.out
         have hnc45 := NB241_242.out
         have hnb46 := NB242_249.out
         have hnc46 := NB249_242.out
         obtain ⟨hcz47_0, hcz47_1, hcz47_2, hcz47_3, hfz47_0, hfz47_1, hfz47_2, hfz47_3⟩ := cells4 BK242.out
         go_wp2
         refine bodyPost_ret (results_ct rfl _ _ gb242 29 #[.int .i64 0, .int .i64 0, .string (⟨#[]⟩ : ByteArray), .int .i64 0] (0, 0) _ rfl (by exact sP4 (sT BK242.out)) Try.underlying29 rfl (by kernel_rfl)) rfl ?_
         exact ⟨sq, sb⟩
        rw [if_neg c43] at H
        have c43b0 := decide_eq_false c43
        clear c43
        by_cases c48 : 0 ≤ x9_23
        ·rw [if_pos c48] at H
         have c48b0 := decide_eq_true c48
         clear c48
         by_cases c49 : x9_23 < (((rd_T56 l0_1 t247).f5).length : Int)
         ·rw [if_pos c49] at H
          have c49b0 := decide_eq_true c49
          clear c49
          simp only [Option.some.injEq, Prod.mk.injEq] at H
          obtain ⟨rfl, rfl, rfl, rfl, rfl⟩ := H
          have hnb50 := NB249_240.out
          have hnc50 := NB240_249.out
          have hnb51 := NB249_241.out
          have hnc51 := NB241_249.out
          have hnb52 := NB249_242.out
          have hnc52 := NB242_249.out
          obtain ⟨hcz53_0, hcz53_1, hcz53_2, hcz53_3, hcz53_4, hcz53_5, hcz53_6, hcz53_7, hcz53_8, hcz53_9, hfz53_0, hfz53_1, hfz53_2, hfz53_3, hfz53_4, hfz53_5, hfz53_6, hfz53_7, hfz53_8, hfz53_9⟩ := cells10 BK249.out
          have p251 : 0 ≤ (x9_23 : Int) := of_decide_eq_true (by first | (with_reducible assumption) | assumption)
          have q251 : x9_23 < (((rd_T56 l0_1 t247).f5).length : Int) := of_decide_eq_true (by first | (with_reducible assumption) | assumption)
          obtain ⟨ad251, e251, hx251_0, hx251_1, hx251_2, hx251_3⟩ := at_T29 HR248_5.out x9_23 p251 q251
          cases e251
          replace hx251_0 := sX HB hx251_0
          replace hx251_1 := sX HB hx251_1
          replace hx251_2 := sX HB hx251_2
          replace hx251_3 := sX HB hx251_3
          replace p251 := eq_true p251
          replace q251 := eq_true q251
          have hnb54 := NB242_240.out
          have hnc54 := NB240_242.out
          have hnb55 := NB242_241.out
          have hnc55 := NB241_242.out
          obtain ⟨hcz56_0, hcz56_1, hcz56_2, hcz56_3, hfz56_0, hfz56_1, hfz56_2, hfz56_3⟩ := cells4 BK242.out
          go_wp2
          refine bodyPost_ret (results_ct rfl _ _ gb242 29 #[.int .i64 ((rd_T29 ((rd_T56 l0_1 t247).f5) x9_23).f0), .int .i64 ((rd_T29 ((rd_T56 l0_1 t247).f5) x9_23).f1), .string ((rd_T29 ((rd_T56 l0_1 t247).f5) x9_23).f2), .int .i64 ((rd_T29 ((rd_T56 l0_1 t247).f5) x9_23).f3)] (0, 0) _ rfl (by exact sP4 (sT BK242.out)) Try.underlying29 rfl (by kernel_rfl)) rfl ?_
          exact ⟨sq, sb⟩
         rw [if_neg c49] at H
         exact absurd H (by simp)
        rw [if_neg c48] at H
        exact absurd H (by simp)
     rw [if_neg c23] at H
     exact absurd H (by simp)
    rw [if_neg c22] at H
    exact absurd H (by simp)
   rw [if_neg c20] at H
   have c20b0 : (a1_0 == 6) = false := beq_eq_false_iff_ne.mpr c20
   have c20b1 : (a1_0 != 6) = true := bne_iff_ne.mpr c20
   simp only [Option.some.injEq, Prod.mk.injEq] at H
   obtain ⟨rfl, rfl, rfl, rfl, rfl⟩ := H
   have hnb57 := NB241_240.out
   have hnc57 := NB240_241.out
   have hnb58 := NB241_242.out
   have hnc58 := NB242_241.out
   obtain ⟨hcz59_0, hcz59_1, hcz59_2, hcz59_3, hfz59_0, hfz59_1, hfz59_2, hfz59_3⟩ := cells4 BK241.out
   have hnb60 := NB242_240.out
   have hnc60 := NB240_242.out
   obtain ⟨hcz61_0, hcz61_1, hcz61_2, hcz61_3, hfz61_0, hfz61_1, hfz61_2, hfz61_3⟩ := cells4 BK242.out
   go_wp2
   refine bodyPost_ret (results_ct rfl _ _ gb242 29 #[.int .i64 0, .int .i64 0, .string (⟨#[]⟩ : ByteArray), .int .i64 0] (0, 0) _ rfl (by exact sP4 (sT BK242.out)) Try.underlying29 rfl (by kernel_rfl)) rfl ?_
   exact ⟨sq, sb⟩
end
end Go.Proofs.Ytnjkhdhaiicefaa.PFnExactGetField
