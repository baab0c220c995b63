/- Printed functions: impl_GetField. -/
import Derived.Test.YtnjkhdhaiicefaaYGfP0
import Derived.Test.YtnjkhdhaiicefaaYGfP20
import Derived.Test.YtnjkhdhaiicefaaYGfP25
namespace Go.Proofs.Ytnjkhdhaiicefaa.PFnExactGetField
open Go.RowKit Go.Proofs.YtnjkhdhaiicefaaG Go.Proofs.YtnjkhdhaiicefaaW.PrintWords Go.Proofs.YtnjkhdhaiicefaaW.PrintLast Go.Proofs.YtnjkhdhaiicefaaW.PrintMore
attribute [local go_sem] max2_int min2_int max_two min_two max_three min_three max_four min_four   -- for this text's walks alone
set_option linter.unusedVariables false
set_option linter.unusedSimpArgs false
/-! ### impl_GetField: function 19 -/
def impl_GetField.j0 : Nat → ByteArray → Int → Int → List (S56) → Int → Int → ByteArray → Int → Option (Int × Int × ByteArray × Int × Int)
 | 0, _, _, _, _, _, _, _, _ => none
 | k + 1, x2, x8, x387000, x387001, x388000, x388001, x388002, x388003 => if x8 = 0 then ((impl_findField.f k x387000 x387001 x388000 x388001 x388002 x388003 x2).bind fun bt393 => (if bt393.2.2 = 0 then (if 0 ≤ bt393.1 then (if bt393.1 < (x387001.length : Int) then (if 0 ≤ bt393.2.1 then (if bt393.2.1 < (((rd_T56 x387001 bt393.1).f5).length : Int) then (some ((rd_T29 ((rd_T56 x387001 bt393.1).f5) bt393.2.1).f0, (rd_T29 ((rd_T56 x387001 bt393.1).f5) bt393.2.1).f1, (rd_T29 ((rd_T56 x387001 bt393.1).f5) bt393.2.1).f2, (rd_T29 ((rd_T56 x387001 bt393.1).f5) bt393.2.1).f3, 0)) else (none)) else (none)) else (none)) else (none)) else (some (0, 0, (⟨#[]⟩ : ByteArray), 0, bt393.2.2)))) else (some (0, 0, (⟨#[]⟩ : ByteArray), 0, x8))
def impl_GetField.f (k : Nat) (a0_0 : Int) (l0_1 : List (S56)) (a1_0 : Int) (a1_1 : Int) (a1_2 : ByteArray) (a1_3 : Int) (a2 : ByteArray) : Option (Int × Int × ByteArray × Int × Int) := (impl_fitAll.f k a0_0 l0_1 (([(⟨a1_0, a1_1, a1_2, a1_3⟩ : S29)] : List (S29)))).bind fun t392 => (impl_GetField.j0 k a2 t392 a0_0 l0_1 a1_0 a1_1 a1_2 a1_3)
set_option maxHeartbeats 8000000 in
set_option maxRecDepth 100000 in
theorem impl_GetField.calls (k : Nat) (a0_0 : Int) (A0_1 : Option Addr) (c0_1 : Nat) (l0_1 : List (S56)) (a1_0 : Int) (a1_1 : Int) (a1_2 : ByteArray) (a1_3 : Int) (a2 : ByteArray) (r1 : Int) (r2 : Int) (r3 : ByteArray) (r4 : Int) (r5 : Int) (w : World) (hr0_1 : Kd.C k56 w A0_1 l0_1.length l0_1) (hc0_1 : l0_1.length ≤ c0_1) (h : impl_GetField.f k a0_0 l0_1 a1_0 a1_1 a1_2 a1_3 a2 = some (r1, r2, r3, r4, r5)) :
  Calls Try.prog 19 #[.agg #[.int .i64 a0_0, .slice A0_1 l0_1.length c0_1], .agg #[.int .i64 a1_0, .int .i64 a1_1, .string a1_2, .int .i64 a1_3], .string a2] w fun e w' => e = .returned (.tuple #[.agg #[.int .i64 r1, .int .i64 r2, .string r3, .int .i64 r4], .int .i64 r5]) ∧ Below w.heap.size w w' := by
 have hu34 := Try.underlying34
 have hu29 := Try.underlying29
 have HR0_1 := Aside0.mk hr0_1
 have HC0_1 := Aside0.mk hc0_1
 clear hr0_1 hc0_1
 have HB := Aside0.mk (Below.refl w.heap.size w)
 have H : ((impl_fitAll.f k a0_0 l0_1 (([(⟨a1_0, a1_1, a1_2, a1_3⟩ : S29)] : List (S29)))).bind fun t392 => (impl_GetField.j0 k a2 t392 a0_0 l0_1 a1_0 a1_1 a1_2 a1_3)) = some (r1, r2, r3, r4, r5) := h
 clear h
 have HC4 := Aside0.mk H
 clear H
 go_enter Try.func19, Try.ntmps19
 go_upto_region 1 with (first | ((with_reducible refine gate_dst (N := 3) rfl ?_); refine sV (N := 3) (cs := #[.int .i64 a0_0, .slice A0_1 l0_1.length c0_1]) (t := 34) ?_; intro gb386 hg w5 hbox hb; have n0_ := sB HB hb; have n1_ := Aside0.mk (hbox); have n2_ := sG HB hg; have n3_ := sG HB hg; clear HB; have HB := n0_; have BK386 := n1_; have GW386 := n2_; have GE386 := n3_; clear n0_ n1_ n2_ n3_; clear hb hbox hg) | ((with_reducible refine gate_dst (N := 4) rfl ?_); refine sV (N := 4) (cs := #[.int .i64 a1_0, .int .i64 a1_1, .string a1_2, .int .i64 a1_3]) (t := 29) ?_; intro gb387 hg w6 hbox hb; have n0_ := sK BK386 hb; have n1_ := sB HB hb; have n2_ := Aside0.mk (hbox); have n3_ := sG HB hg; have n4_ := sG HB hg; have n5_ := sN BK386 hg; have n6_ := sM BK386 hg; clear BK386; clear HB; have BK386 := n0_; have HB := n1_; have BK387 := n2_; have GW387 := n3_; have GE387 := n4_; have NB386_387 := n5_; have NB387_386 := n6_; clear n0_ n1_ n2_ n3_ n4_ n5_ n6_; clear hb hbox hg) | ((with_reducible refine gate_dst (N := 6) rfl ?_); refine sV (N := 6) (cs := #[.int .i64 0, .int .i64 0, .string (⟨#[]⟩ : ByteArray), .int .i64 0]) (t := 29) ?_; intro gb388 hg w7 hbox hb; have n0_ := sK BK386 hb; have n1_ := sK BK387 hb; have n2_ := sB HB hb; have n3_ := Aside0.mk (hbox); have n4_ := sG HB hg; have n5_ := sG HB hg; have n6_ := sN BK386 hg; have n7_ := sM BK386 hg; have n8_ := sN BK387 hg; have n9_ := sM BK387 hg; clear BK386; clear BK387; clear HB; have BK386 := n0_; have BK387 := n1_; have HB := n2_; have BK388 := n3_; have GW388 := n4_; have GE388 := n5_; have NB386_388 := n6_; have NB388_386 := n7_; have NB387_388 := n8_; have NB388_387 := n9_; clear n0_ n1_ n2_ n3_ n4_ n5_ n6_ n7_ n8_ n9_; clear hb hbox hg))
 (try simp only [Act.put, List.setIfInBounds_toArray, List.set_cons_zero, List.set_cons_succ])
 go_cut [8] (fun v8 wc => ∃ (kq : Nat) (x8_3 : Int), v8 = .int .i64 x8_3 ∧ Aside0 (impl_GetField.j0 kq a2 x8_3 a0_0 l0_1 a1_0 a1_1 a1_2 a1_3 = some (r1, r2, r3, r4, r5)) ∧ Aside0 (kq ≤ k) ∧ Aside0 (wc.heap[gb386]? = some (.cells #[.int .i64 a0_0, (.slice A0_1 l0_1.length c0_1)] 34 (0, 0))) ∧ Aside0 (wc.heap[gb387]? = some (.cells #[.int .i64 a1_0, .int .i64 a1_1, .string a1_2, .int .i64 a1_3] 29 (0, 0))) ∧ Aside0 (wc.heap[gb388]? = some (.cells #[.int .i64 0, .int .i64 0, .string (⟨#[]⟩ : ByteArray), .int .i64 0] 29 (0, 0))) ∧ Aside0 (Below w.heap.size w wc))
 case first =>
  have H := HC4.out
  clear HC4
  obtain ⟨y389, hy389⟩ : ∃ y_ : List (S29), y_ = (([(⟨a1_0, a1_1, a1_2, a1_3⟩ : S29)] : List (S29))) := ⟨_, rfl⟩
  replace H : ((impl_fitAll.f k a0_0 l0_1 y389).bind fun t392 => (impl_GetField.j0 k a2 t392 a0_0 l0_1 a1_0 a1_1 a1_2 a1_3)) = some (r1, r2, r3, r4, r5) := by first | (rw [hy389]; with_reducible exact H) | (have H2_ := (Option.bind_some _ _).symm.trans H; rw [hy389]; with_reducible exact H2_) | (have H2_ := (Option.bind_some _ _).symm.trans H; with_reducible exact H2_) | with_reducible exact H | (rw [hy389]; exact H) | exact H
  have Ny389 := Aside0.mk hy389
  clear hy389
  obtain ⟨t392, A8, H⟩ := sO H
  have H' := Aside0.mk H
  clear H
  have hnb9 := NB386_387.out
  have hnc9 := NB387_386.out
  have hnb10 := NB386_388.out
  have hnc10 := NB388_386.out
  obtain ⟨hcz11_0, hcz11_1, hfz11_0, hfz11_1⟩ := cells2 BK386.out
  have hnb12 := NB387_388.out
  have hnc12 := NB388_387.out
  obtain ⟨hcz13_0, hcz13_1, hcz13_2, hcz13_3, hfz13_0, hfz13_1, hfz13_2, hfz13_3⟩ := cells4 BK387.out
  go_wp2_with (first | ((with_reducible refine gate_dst (N := 14) rfl ?_); refine Kd.R_lit k29 _ 29 ?hg (N := 14) ?hd (xs := ([(⟨a1_0, a1_1, a1_2, a1_3⟩ : S29)] : List (S29))) (inner := [.int .i64 a1_0, .int .i64 a1_1, .string a1_2, .int .i64 a1_3]) (ok := fun _ => True) (okp := fun _ => True) ?hr ?hp (fun _ hk => hk) trivial (Below.refl _ _) (Nat.le_refl _) (by simp) ?_; (case hd => rfl); (case hg => rfl); (case hr => first | (go_simp; done) | (go_simp; rfl)); (case hp => exact (Reps.c4 (show Kd.M k29 _ _ _ (⟨a1_0, a1_1, a1_2, a1_3⟩ : S29) [.int .i64 a1_0, .int .i64 a1_1, .string a1_2, .int .i64 a1_3] from (k29_mkM _ _ _ (⟨a1_0, a1_1, a1_2, a1_3⟩ : S29) )) (Reps.none _ _))); intro v390 w14 ho15 hb hg_ hnew_; clear hg_ hnew_; (first | rw [← Ny389.out] at ho15 | (simp only [Int.reduceToNat] at ho15; rw [← Ny389.out] at ho15)); have n0_ := Aside0.mk (Kd.R_lower (Kd.R_newB (Kd.R_newB ho15 (g := gb387) (o := .cells #[.int .i64 a1_0, .int .i64 a1_1, .string a1_2, .int .i64 a1_3] 29 (0, 0)) (sT BK387.out)) (g := gb388) (o := .cells #[.int .i64 0, .int .i64 0, .string (⟨#[]⟩ : ByteArray), .int .i64 0] 29 (0, 0)) (sT BK388.out)) (below_size (by repeat (first | (with_reducible first | exact HB.out | apply below_alloc | apply pw_below_drewN | apply below_drew1 | refine below_set ?_ GE386.out | refine below_set ?_ GE387.out | refine below_set ?_ GE388.out) | exact HB.out)))); have n1_ := sK BK386 hb; have n2_ := sK BK387 hb; have n3_ := sK BK388 hb; have n4_ := sB HB hb; clear BK386; clear BK387; clear BK388; clear HB; have HO391 := n0_; have BK386 := n1_; have BK387 := n2_; have BK388 := n3_; have HB := n4_; clear n0_ n1_ n2_ n3_ n4_; clear hb ho15; obtain ⟨Ao16, co16, eo16⟩ := Kd.R_slice HO391.out; subst eo16) | ((with_reducible refine gate_callee (f := 65) rfl ?_); refine sC (some 15) Try.func65 #[.agg #[.int .i64 a0_0, .slice A0_1 l0_1.length c0_1], .slice Ao16 y389.length co16] (impl_fitAll.calls k a0_0 _ _ l0_1 _ _ y389 t392 _ ?side1 ?side2 ?side3 ?side4 A8.out) ?_; (case side1 => exact sD (Kd.C_below HR0_1.out HB.out)); (case side2 => exact HC0_1.out); (case side3 => exact sD ((Kd.R_reads' HO391.out).2.2)); (case side4 => exact (Kd.R_reads' HO391.out).2.1); rintro e w17 ⟨rfl, hb⟩; refine ⟨_, rfl, ?_⟩; have n0_ := Aside0.mk (Kd.R_below (sE HO391.out) hb); have n1_ := sK BK386 hb; have n2_ := sK BK387 hb; have n3_ := sK BK388 hb; have n4_ := sB HB hb; clear HO391; clear BK386; clear BK387; clear BK388; clear HB; have HO391 := n0_; have BK386 := n1_; have BK387 := n2_; have BK388 := n3_; have HB := n4_; clear n0_ n1_ n2_ n3_ n4_; (try clear hb); (try clear hb2); (try clear hk); (try clear hi)))
  go_meet
  case rel => exact ⟨_, (t392), sr, H', ⟨by first | omega | exact Nat.le_refl _⟩, ⟨by exact sT BK386.out⟩, ⟨by exact sT BK387.out⟩, ⟨by exact sT BK388.out⟩, ⟨sb⟩⟩
 case rest =>
  clear HC4
  try clear c1
  try clear p2
  try clear c4
  try clear c6
  try clear c9
  try clear c10
  try clear c12
  try clear hcz11_0
  try clear hcz11_1
  try clear hcz13_0
  try clear hcz13_1
  try clear hcz13_2
  try clear hcz13_3
  try clear hfz11_0
  try clear hfz11_1
  try clear hfz13_0
  try clear hfz13_1
  try clear hfz13_2
  try clear hfz13_3
  obtain ⟨kq, x8_3, rfl, HA, HJ3, BK386, BK387, BK388, HB⟩ := hcut
  cases kq with
  | zero => exact absurd HA.out (by simp [impl_GetField.j0])
  | succ kj3 =>
   have H := HA.out
   clear HA
   simp only [impl_GetField.j0] at H
   by_cases c18 : x8_3 = 0
   ·rw [if_pos c18] at H
    have c18b0 : (x8_3 == 0) = true := beq_iff_eq.mpr c18
    have c18b1 : (x8_3 != 0) = false := bne_eq_false_iff_eq.mpr c18
    clear c18
    replace H := Option.bind_eq_some_iff.mp H
    obtain ⟨⟨t393, t394, t395⟩, A190, H⟩ := H
    replace H : (if t395 = 0 then (if 0 ≤ t393 then (if t393 < (l0_1.length : Int) then (if 0 ≤ t394 then (if t394 < (((rd_T56 l0_1 t393).f5).length : Int) then (some ((rd_T29 ((rd_T56 l0_1 t393).f5) t394).f0, (rd_T29 ((rd_T56 l0_1 t393).f5) t394).f1, (rd_T29 ((rd_T56 l0_1 t393).f5) t394).f2, (rd_T29 ((rd_T56 l0_1 t393).f5) t394).f3, 0)) else (none)) else (none)) else (none)) else (none)) else (some (0, 0, (⟨#[]⟩ : ByteArray), 0, t395))) = some (r1, r2, r3, r4, r5) := H
    have A19 := Aside0.mk A190
    clear A190
    by_cases c20 : t395 = 0
    ·rw [if_pos c20] at H
     have c20b0 : (t395 == 0) = true := beq_iff_eq.mpr c20
     have c20b1 : (t395 != 0) = false := bne_eq_false_iff_eq.mpr c20
     clear c20
     by_cases c21 : 0 ≤ t393
     ·rw [if_pos c21] at H
      have c21b0 := decide_eq_true c21
      clear c21
      by_cases c22 : t393 < (l0_1.length : Int)
      ·rw [if_pos c22] at H
       have c22b0 := decide_eq_true c22
       clear c22
       by_cases c23 : 0 ≤ t394
       ·rw [if_pos c23] at H
        have c23b0 := decide_eq_true c23
        clear c23
        by_cases c24 : t394 < (((rd_T56 l0_1 t393).f5).length : Int)
        ·rw [if_pos c24] at H
         have c24b0 := decide_eq_true c24
         clear c24
         simp only [Option.some.injEq, Prod.mk.injEq] at H
         obtain ⟨rfl, rfl, rfl, rfl, rfl⟩ := H
         have hnb25 := NB386_387.out
         have hnc25 := NB387_386.out
         have hnb26 := NB386_388.out
         have hnc26 := NB388_386.out
         obtain ⟨hcz27_0, hcz27_1, hfz27_0, hfz27_1⟩ := cells2 BK386.out
         have hnb28 := NB387_388.out
         have hnc28 := NB388_387.out
         obtain ⟨hcz29_0, hcz29_1, hcz29_2, hcz29_3, hfz29_0, hfz29_1, hfz29_2, hfz29_3⟩ := cells4 BK387.out
         go_wp2_with (first | ((with_reducible refine gate_callee (f := 66) rfl ?_); refine sC (some 24) Try.func66 #[.agg #[.int .i64 a0_0, .slice A0_1 l0_1.length c0_1], .agg #[.int .i64 a1_0, .int .i64 a1_1, .string a1_2, .int .i64 a1_3], .string a2] (impl_findField.calls kj3 a0_0 _ _ l0_1 a1_0 a1_1 a1_2 a1_3 a2 t393 t394 t395 _ ?side1 ?side2 A19.out) ?_; (case side1 => exact sD (Kd.C_below HR0_1.out HB.out)); (case side2 => exact HC0_1.out); rintro e w30 ⟨rfl, hb⟩; refine ⟨_, rfl, ?_⟩; have n0_ := sK BK386 hb; have n1_ := sK BK387 hb; have n2_ := sK BK388 hb; have n3_ := sB HB hb; clear BK386; clear BK387; clear BK388; clear HB; have BK386 := n0_; have BK387 := n1_; have BK388 := n2_; have HB := n3_; clear n0_ n1_ n2_ n3_; (try clear hb); (try clear hb2); (try clear hk); (try clear hi); obtain ⟨hcz31_0, hcz31_1, hfz31_0, hfz31_1⟩ := cells2 BK386.out; have p396 : 0 ≤ (t393 : Int) := of_decide_eq_true (by first | (with_reducible assumption) | assumption); have q396 : t393 < (l0_1.length : Int) := of_decide_eq_true (by first | (with_reducible assumption) | assumption); obtain ⟨ad396, A396_4, c396_4, A396_5, c396_5, e396, hx396_0, hx396_1, hx396_2, hx396_3, hx396_4, hx396_5, hx396_6, hx396_7, hx396_8, hx396_9, hl396_4, hi396_4, hl396_5, hi396_5⟩ := at_T56 HR0_1.out t393 p396 q396; cases e396; replace hx396_0 := sX HB hx396_0; replace hx396_1 := sX HB hx396_1; replace hx396_2 := sX HB hx396_2; replace hx396_3 := sX HB hx396_3; replace hx396_4 := sX HB hx396_4; replace hx396_5 := sX HB hx396_5; replace hx396_6 := sX HB hx396_6; replace hx396_7 := sX HB hx396_7; replace hx396_8 := sX HB hx396_8; replace hx396_9 := sX HB hx396_9; have HR396_4 := Aside0.mk hi396_4; have HC396_4 := Aside0.mk hl396_4; clear hi396_4 hl396_4; have HR396_5 := Aside0.mk hi396_5; have HC396_5 := Aside0.mk hl396_5; clear hi396_5 hl396_5; replace p396 := eq_true p396; replace q396 := eq_true q396; have p397 : 0 ≤ (t394 : Int) := of_decide_eq_true (by first | (with_reducible assumption) | assumption); have q397 : t394 < (((rd_T56 l0_1 t393).f5).length : Int) := of_decide_eq_true (by first | (with_reducible assumption) | assumption); obtain ⟨ad397, e397, hx397_0, hx397_1, hx397_2, hx397_3⟩ := at_T29 HR396_5.out t394 p397 q397; cases e397; replace hx397_0 := sX HB hx397_0; replace hx397_1 := sX HB hx397_1; replace hx397_2 := sX HB hx397_2; replace hx397_3 := sX HB hx397_3; replace p397 := eq_true p397; replace q397 := eq_true q397; obtain ⟨hcz32_0, hcz32_1, hcz32_2, hcz32_3, hfz32_0, hfz32_1, hfz32_2, hfz32_3⟩ := cells4 BK388.out))
         refine bodyPost_ret (results_ct rfl _ _ gb388 29 #[.int .i64 ((rd_T29 ((rd_T56 l0_1 t393).f5) t394).f0), .int .i64 ((rd_T29 ((rd_T56 l0_1 t393).f5) t394).f1), .string ((rd_T29 ((rd_T56 l0_1 t393).f5) t394).f2), .int .i64 ((rd_T29 ((rd_T56 l0_1 t393).f5) t394).f3)] (0, 0) _ rfl (by exact sP4 (sT BK388.out)) Try.underlying29 rfl (by kernel_rfl)) rfl ?_
         exact ⟨sq, sb⟩
        rw [if_neg c24] at H
        exact absurd H (by simp)
       rw [if_neg c23] at H
       exact absurd H (by simp)
      rw [if_neg c22] at H
      exact absurd H (by simp)
     rw [if_neg c21] at H
     exact absurd H (by simp)
    rw [if_neg c20] at H
    have c20b0 : (t395 == 0) = false := beq_eq_false_iff_ne.mpr c20
    have c20b1 : (t395 != 0) = true := bne_iff_ne.mpr c20
    simp only [Option.some.injEq, Prod.mk.injEq] at H
    obtain ⟨rfl, rfl, rfl, rfl, rfl⟩ := H
    have hnb33 := NB386_387.out
    have hnc33 := NB387_386.out
    have hnb34 := NB386_388.out
    have hnc34 := NB388_386.out
    obtain ⟨hcz35_0, hcz35_1, hfz35_0, hfz35_1⟩ := cells2 BK386.out
    have hnb36 := NB387_388.out
    have hnc36 := NB388_387.out
    obtain ⟨hcz37_0, hcz37_1, hcz37_2, hcz37_3, hfz37_0, hfz37_1, hfz37_2, hfz37_3⟩ := cells4 BK387.out
    go_wp2_with (first | ((with_reducible refine gate_callee (f := 66) rfl ?_); refine sC (some 24) Try.func66 #[.agg #[.int .i64 a0_0, .slice A0_1 l0_1.length c0_1], .agg #[.int .i64 a1_0, .int .i64 a1_1, .string a1_2, .int .i64 a1_3], .string a2] (impl_findField.calls kj3 a0_0 _ _ l0_1 a1_0 a1_1 a1_2 a1_3 a2 t393 t394 t395 _ ?side1 ?side2 A19.out) ?_; (case side1 => exact sD (Kd.C_below HR0_1.out HB.out)); (case side2 => exact HC0_1.out); rintro e w38 ⟨rfl, hb⟩; refine ⟨_, rfl, ?_⟩; have n0_ := sK BK386 hb; have n1_ := sK BK387 hb; have n2_ := sK BK388 hb; have n3_ := sB HB hb; clear BK386; clear BK387; clear BK388; clear HB; have BK386 := n0_; have BK387 := n1_; have BK388 := n2_; have HB := n3_; clear n0_ n1_ n2_ n3_; (try clear hb); (try clear hb2); (try clear hk); (try clear hi); obtain ⟨hcz39_0, hcz39_1, hcz39_2, hcz39_3, hfz39_0, hfz39_1, hfz39_2, hfz39_3⟩ := cells4 BK388.out))
    refine bodyPost_ret (results_ct rfl _ _ gb388 29 #[.int .i64 0, .int .i64 0, .string (⟨#[]⟩ : ByteArray), .int .i64 0] (0, 0) _ rfl (by exact sP4 (sT BK388.out)) Try.underlying29 rfl (by kernel_rfl)) rfl ?_
    exact ⟨sq, sb⟩
   rw [if_neg c18] at H
   have c18b0 : (x8_3 == 0) = false := beq_eq_false_iff_ne.mpr c18
   have c18b1 : (x8_3 != 0) = true := bne_iff_ne.mpr c18
   simp only [Option.some.injEq, Prod.mk.injEq] at H
   obtain ⟨rfl, rfl, rfl, rfl, rfl⟩ := H
   have hnb40 := NB388_386.out
   have hnc40 := NB386_388.out
   have hnb41 := NB388_387.out
   have hnc41 := NB387_388.out
   obtain ⟨hcz42_0, hcz42_1, hcz42_2, hcz42_3, hfz42_0, hfz42_1, hfz42_2, hfz42_3⟩ := cells4 BK388.out
   go_wp2
   refine bodyPost_ret (results_ct rfl _ _ gb388 29 #[.int .i64 0, .int .i64 0, .string (⟨#[]⟩ : ByteArray), .int .i64 0] (0, 0) _ rfl (by exact sP4 (sT BK388.out)) Try.underlying29 rfl (by kernel_rfl)) rfl ?_
   exact ⟨sq, sb⟩
end Go.Proofs.Ytnjkhdhaiicefaa.PFnExactGetField
