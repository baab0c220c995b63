/- Printed functions: impl_objectKind, impl_Heap_fits, impl_Value__impl_Heap_fits, impl_ValidHeap_1. -/
import Derived.Test.YtnjkhdhaiicefaaYGfP0
import Derived.Test.YtnjkhdhaiicefaaYGfP13
import Derived.Test.YtnjkhdhaiicefaaYGfP16
import Derived.Test.YtnjkhdhaiicefaaYGfP21
import Derived.Test.YtnjkhdhaiicefaaYGfP22
namespace Go.Proofs.Ytnjkhdhaiicefaa.PFnExactGetField
open Go.RowKit Go.Proofs.YtnjkhdhaiicefaaG Go.Proofs.YtnjkhdhaiicefaaW.PrintWords Go.Proofs.YtnjkhdhaiicefaaW.PrintLast Go.Proofs.YtnjkhdhaiicefaaW.PrintMore
attribute [local go_sem] max2_int min2_int max_two min_two max_three min_three max_four min_four   -- for this text's walks alone
set_option linter.unusedVariables false
set_option linter.unusedSimpArgs false
/-! ### impl_objectKind: function 153 -/
def impl_objectKind.f (a0 : Int) : Option (Int) := some (wrap64 ((wrap64 (a0 - 4)) + 1))
set_option maxHeartbeats 8000000 in
set_option maxRecDepth 100000 in
theorem impl_objectKind.calls (a0 : Int) (r : Int) (w : World) (h : impl_objectKind.f a0 = some r) :
  Calls Try.prog 153 #[.int .i64 a0] w fun e w' => e = .returned (.int .i64 r) ∧ Drawn0 w w' := by
 have H : (some (wrap64 ((wrap64 (a0 - 4)) + 1))) = some r := h
 clear h
 obtain rfl := Option.some.inj H
 go_enter Try.func153, Try.ntmps153
 go_wp2
 go_ret
 exact ⟨by first | rfl | (simp; done) | (simp [*]; done), by repeat (first | exact Drawn0.refl _ | apply Drawn0.step)⟩

/-! ### impl_Heap_fits: function 116 -/
def impl_Heap_fits.j0 : Nat → Bool → Int → List (S56) → Int → Int → ByteArray → Int → Option (Bool)
 | 0, _, _, _, _, _, _, _ => none
 | k + 1, x14, x341000, x341001, x342000, x342001, x342002, x342003 => if x14 = true then ((impl_ValidValue.f k x342000 x342001 x342002 x342003).bind fun t344 => (some t344)) else ((impl_Heap_find.f k x341000 x341001 x342003).bind fun t345 => (if t345 ≥ 0 then (if 0 ≤ t345 then (if t345 < (x341001.length : Int) then ((impl_objectKind.f x342000).bind fun t347 => (some (((rd_T56 x341001 t345).f1) == t347))) else (none)) else (none)) else (some false)))
def impl_Heap_fits.f (k : Nat) (a0_0 : Int) (l0_1 : List (S56)) (a1_0 : Int) (a1_1 : Int) (a1_2 : ByteArray) (a1_3 : Int) : Option (Bool) := (impl_ValidValue.f k a1_0 a1_1 a1_2 a1_3).bind fun t342 => (if t342 = true then ((impl_refers.f a1_0).bind fun t343 => (impl_Heap_fits.j0 k (!t343) a0_0 l0_1 a1_0 a1_1 a1_2 a1_3)) else (impl_Heap_fits.j0 k true a0_0 l0_1 a1_0 a1_1 a1_2 a1_3))
set_option maxHeartbeats 8000000 in
set_option maxRecDepth 100000 in
theorem impl_Heap_fits.calls (k : Nat) (a0_0 : Int) (A0_1 : Option Addr) (c0_1 : Nat) (l0_1 : List (S56)) (a1_0 : Int) (a1_1 : Int) (a1_2 : ByteArray) (a1_3 : Int) (r : Bool) (w : World) (hr0_1 : Kd.C k56 w A0_1 l0_1.length l0_1) (hc0_1 : l0_1.length ≤ c0_1) (h : impl_Heap_fits.f k a0_0 l0_1 a1_0 a1_1 a1_2 a1_3 = some r) :
  Calls Try.prog 116 #[.agg #[.int .i64 a0_0, .slice A0_1 l0_1.length c0_1], .agg #[.int .i64 a1_0, .int .i64 a1_1, .string a1_2, .int .i64 a1_3]] w fun e w' => e = .returned (.bool r) ∧ Below w.heap.size w w' := by
 have hu34 := Try.underlying34
 have hu29 := Try.underlying29
 have HR0_1 := Aside0.mk hr0_1
 have HC0_1 := Aside0.mk hc0_1
 clear hr0_1 hc0_1
 have HB := Aside0.mk (Below.refl w.heap.size w)
 have H : ((impl_ValidValue.f k a1_0 a1_1 a1_2 a1_3).bind fun t342 => (if t342 = true then ((impl_refers.f a1_0).bind fun t343 => (impl_Heap_fits.j0 k (!t343) a0_0 l0_1 a1_0 a1_1 a1_2 a1_3)) else (impl_Heap_fits.j0 k true a0_0 l0_1 a1_0 a1_1 a1_2 a1_3))) = some r := h
 clear h
 have HC3 := Aside0.mk H
 clear H
 go_enter Try.func116, Try.ntmps116
 go_upto_region 1 with (first | ((with_reducible refine gate_dst (N := 2) rfl ?_); refine sV (N := 2) (cs := #[.int .i64 a0_0, .slice A0_1 l0_1.length c0_1]) (t := 34) ?_; intro gb340 hg w4 hbox hb; have n0_ := sB HB hb; have n1_ := Aside0.mk (hbox); have n2_ := sG HB hg; have n3_ := sG HB hg; clear HB; have HB := n0_; have BK340 := n1_; have GW340 := n2_; have GE340 := n3_; clear n0_ n1_ n2_ n3_; clear hb hbox hg) | ((with_reducible refine gate_dst (N := 3) rfl ?_); refine sV (N := 3) (cs := #[.int .i64 a1_0, .int .i64 a1_1, .string a1_2, .int .i64 a1_3]) (t := 29) ?_; intro gb341 hg w5 hbox hb; have n0_ := sK BK340 hb; have n1_ := sB HB hb; have n2_ := Aside0.mk (hbox); have n3_ := sG HB hg; have n4_ := sG HB hg; have n5_ := sN BK340 hg; have n6_ := sM BK340 hg; clear BK340; clear HB; have BK340 := n0_; have HB := n1_; have BK341 := n2_; have GW341 := n3_; have GE341 := n4_; have NB340_341 := n5_; have NB341_340 := n6_; clear n0_ n1_ n2_ n3_ n4_ n5_ n6_; clear hb hbox hg))
 repeat (go_quiet (first | ((with_reducible refine gate_dst (N := 2) rfl ?_); refine sV (N := 2) (cs := #[.int .i64 a0_0, .slice A0_1 l0_1.length c0_1]) (t := 34) ?_; intro gb340 hg w4 hbox hb; have n0_ := sB HB hb; have n1_ := Aside0.mk (hbox); have n2_ := sG HB hg; have n3_ := sG HB hg; clear HB; have HB := n0_; have BK340 := n1_; have GW340 := n2_; have GE340 := n3_; clear n0_ n1_ n2_ n3_; clear hb hbox hg) | ((with_reducible refine gate_dst (N := 3) rfl ?_); refine sV (N := 3) (cs := #[.int .i64 a1_0, .int .i64 a1_1, .string a1_2, .int .i64 a1_3]) (t := 29) ?_; intro gb341 hg w5 hbox hb; have n0_ := sK BK340 hb; have n1_ := sB HB hb; have n2_ := Aside0.mk (hbox); have n3_ := sG HB hg; have n4_ := sG HB hg; have n5_ := sN BK340 hg; have n6_ := sM BK340 hg; clear BK340; clear HB; have BK340 := n0_; have HB := n1_; have BK341 := n2_; have GW341 := n3_; have GE341 := n4_; have NB340_341 := n5_; have NB341_340 := n6_; clear n0_ n1_ n2_ n3_ n4_ n5_ n6_; clear hb hbox hg)); go_upto_region 1 with (first | ((with_reducible refine gate_dst (N := 2) rfl ?_); refine sV (N := 2) (cs := #[.int .i64 a0_0, .slice A0_1 l0_1.length c0_1]) (t := 34) ?_; intro gb340 hg w4 hbox hb; have n0_ := sB HB hb; have n1_ := Aside0.mk (hbox); have n2_ := sG HB hg; have n3_ := sG HB hg; clear HB; have HB := n0_; have BK340 := n1_; have GW340 := n2_; have GE340 := n3_; clear n0_ n1_ n2_ n3_; clear hb hbox hg) | ((with_reducible refine gate_dst (N := 3) rfl ?_); refine sV (N := 3) (cs := #[.int .i64 a1_0, .int .i64 a1_1, .string a1_2, .int .i64 a1_3]) (t := 29) ?_; intro gb341 hg w5 hbox hb; have n0_ := sK BK340 hb; have n1_ := sB HB hb; have n2_ := Aside0.mk (hbox); have n3_ := sG HB hg; have n4_ := sG HB hg; have n5_ := sN BK340 hg; have n6_ := sM BK340 hg; clear BK340; clear HB; have BK340 := n0_; have HB := n1_; have BK341 := n2_; have GW341 := n3_; have GE341 := n4_; have NB340_341 := n5_; have NB341_340 := n6_; clear n0_ n1_ n2_ n3_ n4_ n5_ n6_; clear hb hbox hg)))
 (try simp only [Act.put, List.setIfInBounds_toArray, List.set_cons_zero, List.set_cons_succ])
 go_cut [14] (fun v14 wc => ∃ (kq : Nat) (x14_2 : Bool), v14 = .bool x14_2 ∧ Aside0 (impl_Heap_fits.j0 kq x14_2 a0_0 l0_1 a1_0 a1_1 a1_2 a1_3 = some r) ∧ Aside0 (kq ≤ k) ∧ Aside0 (wc.heap[gb340]? = some (.cells #[.int .i64 a0_0, (.slice A0_1 l0_1.length c0_1)] 34 (0, 0))) ∧ Aside0 (wc.heap[gb341]? = some (.cells #[.int .i64 a1_0, .int .i64 a1_1, .string a1_2, .int .i64 a1_3] 29 (0, 0))) ∧ Aside0 (Below w.heap.size w wc))
 case first =>
  have H := HC3.out
  clear HC3
  obtain ⟨t342, A6, H⟩ := sO H
  by_cases c7 : t342 = true
  ·subst c7
   rewrite [if_pos rfl] at H
   obtain ⟨t343, A8, H⟩ := sO H
   have H' := Aside0.mk H
   clear H
   have hnb9 := NB341_340.out
   have hnc9 := NB340_341.out
   obtain ⟨hcz10_0, hcz10_1, hcz10_2, hcz10_3, hfz10_0, hfz10_1, hfz10_2, hfz10_3⟩ := cells4 BK341.out
   go_wp2_with (first | (go_at_call 125; (with_reducible refine (impl_ValidValue.calls k a1_0 a1_1 a1_2 a1_3 true _ A6.out).mono ?_); rintro e w11 ⟨rfl, hb⟩; have n0_ := sK BK340 hb; have n1_ := sK BK341 hb; have n2_ := sB HB hb; clear BK340; clear BK341; clear HB; have BK340 := n0_; have BK341 := n1_; have HB := n2_; clear n0_ n1_ n2_; (try clear hb); (try clear hb2); (try clear hk); (try clear hi); obtain ⟨hcz12_0, hcz12_1, hcz12_2, hcz12_3, hfz12_0, hfz12_1, hfz12_2, hfz12_3⟩ := cells4 BK341.out) | (go_at_call 77; (with_reducible refine (impl_refers.calls a1_0 t343 _ A8.out).mono ?_); rintro e w' ⟨rfl, ⟨nd, rfl⟩⟩; (try first | exact ⟨rfl, _, World.drewN_drewN _ _ _⟩ | exact ⟨rfl, _, Eq.trans (World.drewN_drewN _ _ _) (congrArg (World.drewN _) (Nat.add_assoc _ _ _))⟩)))
   repeat (go_quiet (first | (go_at_call 125; (with_reducible refine (impl_ValidValue.calls k a1_0 a1_1 a1_2 a1_3 true _ A6.out).mono ?_); rintro e w11 ⟨rfl, hb⟩; have n0_ := sK BK340 hb; have n1_ := sK BK341 hb; have n2_ := sB HB hb; clear BK340; clear BK341; clear HB; have BK340 := n0_; have BK341 := n1_; have HB := n2_; clear n0_ n1_ n2_; (try clear hb); (try clear hb2); (try clear hk); (try clear hi); obtain ⟨hcz12_0, hcz12_1, hcz12_2, hcz12_3, hfz12_0, hfz12_1, hfz12_2, hfz12_3⟩ := cells4 BK341.out) | (go_at_call 77; (with_reducible refine (impl_refers.calls a1_0 t343 _ A8.out).mono ?_); rintro e w' ⟨rfl, ⟨nd, rfl⟩⟩; (try first | exact ⟨rfl, _, World.drewN_drewN _ _ _⟩ | exact ⟨rfl, _, Eq.trans (World.drewN_drewN _ _ _) (congrArg (World.drewN _) (Nat.add_assoc _ _ _))⟩))); try go_wp2_with (first | (go_at_call 125; (with_reducible refine (impl_ValidValue.calls k a1_0 a1_1 a1_2 a1_3 true _ A6.out).mono ?_); rintro e w11 ⟨rfl, hb⟩; have n0_ := sK BK340 hb; have n1_ := sK BK341 hb; have n2_ := sB HB hb; clear BK340; clear BK341; clear HB; have BK340 := n0_; have BK341 := n1_; have HB := n2_; clear n0_ n1_ n2_; (try clear hb); (try clear hb2); (try clear hk); (try clear hi); obtain ⟨hcz12_0, hcz12_1, hcz12_2, hcz12_3, hfz12_0, hfz12_1, hfz12_2, hfz12_3⟩ := cells4 BK341.out) | (go_at_call 77; (with_reducible refine (impl_refers.calls a1_0 t343 _ A8.out).mono ?_); rintro e w' ⟨rfl, ⟨nd, rfl⟩⟩; (try first | exact ⟨rfl, _, World.drewN_drewN _ _ _⟩ | exact ⟨rfl, _, Eq.trans (World.drewN_drewN _ _ _) (congrArg (World.drewN _) (Nat.add_assoc _ _ _))⟩))))
   go_meet
   case rel => exact ⟨_, (!t343), sr, H', ⟨by first | omega | exact Nat.le_refl _⟩, ⟨by exact sT BK340.out⟩, ⟨by exact sT BK341.out⟩, ⟨sb⟩⟩
  replace c7 := Bool.eq_false_iff.mpr c7
  subst c7
  rewrite [if_neg (show ¬ (false = true) by decide)] at H
  have H' := Aside0.mk H
  clear H
  have hnb13 := NB341_340.out
  have hnc13 := NB340_341.out
  obtain ⟨hcz14_0, hcz14_1, hcz14_2, hcz14_3, hfz14_0, hfz14_1, hfz14_2, hfz14_3⟩ := cells4 BK341.out
  go_wp2_with (first | (go_at_call 125; (with_reducible refine (impl_ValidValue.calls k a1_0 a1_1 a1_2 a1_3 false _ A6.out).mono ?_); rintro e w15 ⟨rfl, hb⟩; have n0_ := sK BK340 hb; have n1_ := sK BK341 hb; have n2_ := sB HB hb; clear BK340; clear BK341; clear HB; have BK340 := n0_; have BK341 := n1_; have HB := n2_; clear n0_ n1_ n2_; (try clear hb); (try clear hb2); (try clear hk); (try clear hi)))
  repeat (go_quiet (first | (go_at_call 125; (with_reducible refine (impl_ValidValue.calls k a1_0 a1_1 a1_2 a1_3 false _ A6.out).mono ?_); rintro e w15 ⟨rfl, hb⟩; have n0_ := sK BK340 hb; have n1_ := sK BK341 hb; have n2_ := sB HB hb; clear BK340; clear BK341; clear HB; have BK340 := n0_; have BK341 := n1_; have HB := n2_; clear n0_ n1_ n2_; (try clear hb); (try clear hb2); (try clear hk); (try clear hi))); try go_wp2_with (first | (go_at_call 125; (with_reducible refine (impl_ValidValue.calls k a1_0 a1_1 a1_2 a1_3 false _ A6.out).mono ?_); rintro e w15 ⟨rfl, hb⟩; have n0_ := sK BK340 hb; have n1_ := sK BK341 hb; have n2_ := sB HB hb; clear BK340; clear BK341; clear HB; have BK340 := n0_; have BK341 := n1_; have HB := n2_; clear n0_ n1_ n2_; (try clear hb); (try clear hb2); (try clear hk); (try clear hi))))
  go_meet
  case rel => exact ⟨_, (true), sr, H', ⟨by first | omega | exact Nat.le_refl _⟩, ⟨by exact sT BK340.out⟩, ⟨by exact sT BK341.out⟩, ⟨sb⟩⟩
 case rest =>
  clear HC3
  try clear c1
  try clear p2
  try clear c7
  try clear c9
  try clear c11
  try clear c13
  try clear hcz10_0
  try clear hcz10_1
  try clear hcz10_2
  try clear hcz10_3
  try clear hcz12_0
  try clear hcz12_1
  try clear hcz12_2
  try clear hcz12_3
  try clear hcz14_0
  try clear hcz14_1
  try clear hcz14_2
  try clear hcz14_3
  try clear hfz10_0
  try clear hfz10_1
  try clear hfz10_2
  try clear hfz10_3
  try clear hfz12_0
  try clear hfz12_1
  try clear hfz12_2
  try clear hfz12_3
  try clear hfz14_0
  try clear hfz14_1
  try clear hfz14_2
  try clear hfz14_3
  obtain ⟨kq, x14_2, rfl, HA, HJ2, BK340, BK341, HB⟩ := hcut
  cases kq with
  | zero => exact absurd HA.out (by simp [impl_Heap_fits.j0])
  | succ kj2 =>
   have H := HA.out
   clear HA
   simp only [impl_Heap_fits.j0] at H
   by_cases c16 : x14_2 = true
   ·subst c16
    rewrite [if_pos rfl] at H
    obtain ⟨t344, A17, H⟩ := sO H
    obtain rfl := Option.some.inj H
    have hnb18 := NB341_340.out
    have hnc18 := NB340_341.out
    obtain ⟨hcz19_0, hcz19_1, hcz19_2, hcz19_3, hfz19_0, hfz19_1, hfz19_2, hfz19_3⟩ := cells4 BK341.out
    go_wp2_with (first | (go_at_call 125; (with_reducible refine (impl_ValidValue.calls kj2 a1_0 a1_1 a1_2 a1_3 t344 _ A17.out).mono ?_); rintro e w20 ⟨rfl, hb⟩; have n0_ := sK BK340 hb; have n1_ := sK BK341 hb; have n2_ := sB HB hb; clear BK340; clear BK341; clear HB; have BK340 := n0_; have BK341 := n1_; have HB := n2_; clear n0_ n1_ n2_; (try clear hb); (try clear hb2); (try clear hk); (try clear hi)))
    repeat (go_quiet (first | (go_at_call 125; (with_reducible refine (impl_ValidValue.calls kj2 a1_0 a1_1 a1_2 a1_3 t344 _ A17.out).mono ?_); rintro e w20 ⟨rfl, hb⟩; have n0_ := sK BK340 hb; have n1_ := sK BK341 hb; have n2_ := sB HB hb; clear BK340; clear BK341; clear HB; have BK340 := n0_; have BK341 := n1_; have HB := n2_; clear n0_ n1_ n2_; (try clear hb); (try clear hb2); (try clear hk); (try clear hi))); try go_wp2_with (first | (go_at_call 125; (with_reducible refine (impl_ValidValue.calls kj2 a1_0 a1_1 a1_2 a1_3 t344 _ A17.out).mono ?_); rintro e w20 ⟨rfl, hb⟩; have n0_ := sK BK340 hb; have n1_ := sK BK341 hb; have n2_ := sB HB hb; clear BK340; clear BK341; clear HB; have BK340 := n0_; have BK341 := n1_; have HB := n2_; clear n0_ n1_ n2_; (try clear hb); (try clear hb2); (try clear hk); (try clear hi))))
    go_ret
    exact ⟨sq, sb⟩
   replace c16 := Bool.eq_false_iff.mpr c16
   subst c16
   rewrite [if_neg (show ¬ (false = true) by decide)] at H
   obtain ⟨t345, A21, H⟩ := sO H
   by_cases c22 : t345 ≥ 0
   ·rw [if_pos c22] at H
    have c22b0 : decide (0 ≤ t345) = true := decide_eq_true c22
    clear c22
    by_cases c23 : 0 ≤ t345
    ·rw [if_pos c23] at H
     have c23b0 := decide_eq_true c23
     clear c23
     by_cases c24 : t345 < (l0_1.length : Int)
     ·rw [if_pos c24] at H
      have c24b0 := decide_eq_true c24
      clear c24
      obtain ⟨t347, A25, H⟩ := sO H
      obtain rfl := Option.some.inj H
      have hnb26 := NB340_341.out
      have hnc26 := NB341_340.out
      obtain ⟨hcz27_0, hcz27_1, hfz27_0, hfz27_1⟩ := cells2 BK340.out
      obtain ⟨hcz28_0, hcz28_1, hcz28_2, hcz28_3, hfz28_0, hfz28_1, hfz28_2, hfz28_3⟩ := cells4 BK341.out
      go_wp2_with (first | (go_at_call 113; (with_reducible refine (impl_Heap_find.calls kj2 a0_0 _ _ l0_1 a1_3 t345 _ ?side1 ?side2 A21.out).mono ?_); (case side1 => exact sD (Kd.C_below HR0_1.out HB.out)); (case side2 => exact HC0_1.out); rintro e w29 ⟨rfl, hb⟩; have n0_ := sK BK340 hb; have n1_ := sK BK341 hb; have n2_ := sB HB hb; clear BK340; clear BK341; clear HB; have BK340 := n0_; have BK341 := n1_; have HB := n2_; clear n0_ n1_ n2_; (try clear hb); (try clear hb2); (try clear hk); (try clear hi); obtain ⟨hcz30_0, hcz30_1, hfz30_0, hfz30_1⟩ := cells2 BK340.out; have p346 : 0 ≤ (t345 : Int) := of_decide_eq_true (by first | (with_reducible assumption) | assumption); have q346 : t345 < (l0_1.length : Int) := of_decide_eq_true (by first | (with_reducible assumption) | assumption); obtain ⟨ad346, A346_4, c346_4, A346_5, c346_5, e346, hx346_0, hx346_1, hx346_2, hx346_3, hx346_4, hx346_5, hx346_6, hx346_7, hx346_8, hx346_9, hl346_4, hi346_4, hl346_5, hi346_5⟩ := at_T56 HR0_1.out t345 p346 q346; cases e346; replace hx346_0 := sX HB hx346_0; replace hx346_1 := sX HB hx346_1; replace hx346_2 := sX HB hx346_2; replace hx346_3 := sX HB hx346_3; replace hx346_4 := sX HB hx346_4; replace hx346_5 := sX HB hx346_5; replace hx346_6 := sX HB hx346_6; replace hx346_7 := sX HB hx346_7; replace hx346_8 := sX HB hx346_8; replace hx346_9 := sX HB hx346_9; have HR346_4 := Aside0.mk hi346_4; have HC346_4 := Aside0.mk hl346_4; clear hi346_4 hl346_4; have HR346_5 := Aside0.mk hi346_5; have HC346_5 := Aside0.mk hl346_5; clear hi346_5 hl346_5; replace p346 := eq_true p346; replace q346 := eq_true q346; obtain ⟨hcz31_0, hcz31_1, hcz31_2, hcz31_3, hfz31_0, hfz31_1, hfz31_2, hfz31_3⟩ := cells4 BK341.out) | (go_at_call 153; (with_reducible refine (impl_objectKind.calls a1_0 t347 _ A25.out).mono ?_); rintro e w' ⟨rfl, ⟨nd, rfl⟩⟩; (try first | exact ⟨rfl, _, World.drewN_drewN _ _ _⟩ | exact ⟨rfl, _, Eq.trans (World.drewN_drewN _ _ _) (congrArg (World.drewN _) (Nat.add_assoc _ _ _))⟩)))
      repeat (go_quiet (first | (go_at_call 113; (with_reducible refine (impl_Heap_find.calls kj2 a0_0 _ _ l0_1 a1_3 t345 _ ?side1 ?side2 A21.out).mono ?_); (case side1 => exact sD (Kd.C_below HR0_1.out HB.out)); (case side2 => exact HC0_1.out); rintro e w29 ⟨rfl, hb⟩; have n0_ := sK BK340 hb; have n1_ := sK BK341 hb; have n2_ := sB HB hb; clear BK340; clear BK341; clear HB; have BK340 := n0_; have BK341 := n1_; have HB := n2_; clear n0_ n1_ n2_; (try clear hb); (try clear hb2); (try clear hk); (try clear hi); obtain ⟨hcz30_0, hcz30_1, hfz30_0, hfz30_1⟩ := cells2 BK340.out; have p346 : 0 ≤ (t345 : Int) := of_decide_eq_true (by first | (with_reducible assumption) | assumption); have q346 : t345 < (l0_1.length : Int) := of_decide_eq_true (by first | (with_reducible assumption) | assumption); obtain ⟨ad346, A346_4, c346_4, A346_5, c346_5, e346, hx346_0, hx346_1, hx346_2, hx346_3, hx346_4, hx346_5, hx346_6, hx346_7, hx346_8, hx346_9, hl346_4, hi346_4, hl346_5, hi346_5⟩ := at_T56 HR0_1.out t345 p346 q346; cases e346; replace hx346_0 := sX HB hx346_0; replace hx346_1 := sX HB hx346_1; replace hx346_2 := sX HB hx346_2; replace hx346_3 := sX HB hx346_3; replace hx346_4 := sX HB hx346_4; replace hx346_5 := sX HB hx346_5; replace hx346_6 := sX HB hx346_6; replace hx346_7 := sX HB hx346_7; replace hx346_8 := sX HB hx346_8; replace hx346_9 := sX HB hx346_9; have HR346_4 := Aside0.mk hi346_4; have HC346_4 := Aside0.mk hl346_4; clear hi346_4 hl346_4; have HR346_5 := Aside0.mk hi346_5; have HC346_5 := Aside0.mk hl346_5; clear hi346_5 hl346_5; replace p346 := eq_true p346; replace q346 := eq_true q346; obtain ⟨hcz31_0, hcz31_1, hcz31_2, hcz31_3, hfz31_0, hfz31_1, hfz31_2, hfz31_3⟩ := cells4 BK341.out) | (go_at_call 153; (with_reducible refine (impl_objectKind.calls a1_0 t347 _ A25.out).mono ?_); rintro e w' ⟨rfl, ⟨nd, rfl⟩⟩; (try first | exact ⟨rfl, _, World.drewN_drewN _ _ _⟩ | exact ⟨rfl, _, Eq.trans (World.drewN_drewN _ _ _) (congrArg (World.drewN _) (Nat.add_assoc _ _ _))⟩))); try go_wp2_with (first | (go_at_call 113; (with_reducible refine (impl_Heap_find.calls kj2 a0_0 _ _ l0_1 a1_3 t345 _ ?side1 ?side2 A21.out).mono ?_); (case side1 => exact sD (Kd.C_below HR0_1.out HB.out)); (case side2 => exact HC0_1.out); rintro e w29 ⟨rfl, hb⟩; have n0_ := sK BK340 hb; have n1_ := sK BK341 hb; have n2_ := sB HB hb; clear BK340; clear BK341; clear HB; have BK340 := n0_; have BK341 := n1_; have HB := n2_; clear n0_ n1_ n2_; (try clear hb); (try clear hb2); (try clear hk); (try clear hi); obtain ⟨hcz30_0, hcz30_1, hfz30_0, hfz30_1⟩ := cells2 BK340.out; have p346 : 0 ≤ (t345 : Int) := of_decide_eq_true (by first | (with_reducible assumption) | assumption); have q346 : t345 < (l0_1.length : Int) := of_decide_eq_true (by first | (with_reducible assumption) | assumption); obtain ⟨ad346, A346_4, c346_4, A346_5, c346_5, e346, hx346_0, hx346_1, hx346_2, hx346_3, hx346_4, hx346_5, hx346_6, hx346_7, hx346_8, hx346_9, hl346_4, hi346_4, hl346_5, hi346_5⟩ := at_T56 HR0_1.out t345 p346 q346; cases e346; replace hx346_0 := sX HB hx346_0; replace hx346_1 := sX HB hx346_1; replace hx346_2 := sX HB hx346_2; replace hx346_3 := sX HB hx346_3; replace hx346_4 := sX HB hx346_4; replace hx346_5 := sX HB hx346_5; replace hx346_6 := sX HB hx346_6; replace hx346_7 := sX HB hx346_7; replace hx346_8 := sX HB hx346_8; replace hx346_9 := sX HB hx346_9; have HR346_4 := Aside0.mk hi346_4; have HC346_4 := Aside0.mk hl346_4; clear hi346_4 hl346_4; have HR346_5 := Aside0.mk hi346_5; have HC346_5 := Aside0.mk hl346_5; clear hi346_5 hl346_5; replace p346 := eq_true p346; replace q346 := eq_true q346; obtain ⟨hcz31_0, hcz31_1, hcz31_2, hcz31_3, hfz31_0, hfz31_1, hfz31_2, hfz31_3⟩ := cells4 BK341.out) | (go_at_call 153; (with_reducible refine (impl_objectKind.calls a1_0 t347 _ A25.out).mono ?_); rintro e w' ⟨rfl, ⟨nd, rfl⟩⟩; (try first | exact ⟨rfl, _, World.drewN_drewN _ _ _⟩ | exact ⟨rfl, _, Eq.trans (World.drewN_drewN _ _ _) (congrArg (World.drewN _) (Nat.add_assoc _ _ _))⟩))))
      go_ret
      exact ⟨sq, sb⟩
     rw [if_neg c24] at H
     exact absurd H (by simp)
    rw [if_neg c23] at H
    exact absurd H (by simp)
   rw [if_neg c22] at H
   have c22b0 : decide (0 ≤ t345) = false := decide_eq_false c22
   clear c22
   obtain rfl := Option.some.inj H
   have hnb32 := NB340_341.out
   have hnc32 := NB341_340.out
   obtain ⟨hcz33_0, hcz33_1, hfz33_0, hfz33_1⟩ := cells2 BK340.out
   obtain ⟨hcz34_0, hcz34_1, hcz34_2, hcz34_3, hfz34_0, hfz34_1, hfz34_2, hfz34_3⟩ := cells4 BK341.out
   go_wp2_with (first | (go_at_call 113; (with_reducible refine (impl_Heap_find.calls kj2 a0_0 _ _ l0_1 a1_3 t345 _ ?side1 ?side2 A21.out).mono ?_); (case side1 => exact sD (Kd.C_below HR0_1.out HB.out)); (case side2 => exact HC0_1.out); rintro e w35 ⟨rfl, hb⟩; have n0_ := sK BK340 hb; have n1_ := sK BK341 hb; have n2_ := sB HB hb; clear BK340; clear BK341; clear HB; have BK340 := n0_; have BK341 := n1_; have HB := n2_; clear n0_ n1_ n2_; (try clear hb); (try clear hb2); (try clear hk); (try clear hi)))
   repeat (go_quiet (first | (go_at_call 113; (with_reducible refine (impl_Heap_find.calls kj2 a0_0 _ _ l0_1 a1_3 t345 _ ?side1 ?side2 A21.out).mono ?_); (case side1 => exact sD (Kd.C_below HR0_1.out HB.out)); (case side2 => exact HC0_1.out); rintro e w35 ⟨rfl, hb⟩; have n0_ := sK BK340 hb; have n1_ := sK BK341 hb; have n2_ := sB HB hb; clear BK340; clear BK341; clear HB; have BK340 := n0_; have BK341 := n1_; have HB := n2_; clear n0_ n1_ n2_; (try clear hb); (try clear hb2); (try clear hk); (try clear hi))); try go_wp2_with (first | (go_at_call 113; (with_reducible refine (impl_Heap_find.calls kj2 a0_0 _ _ l0_1 a1_3 t345 _ ?side1 ?side2 A21.out).mono ?_); (case side1 => exact sD (Kd.C_below HR0_1.out HB.out)); (case side2 => exact HC0_1.out); rintro e w35 ⟨rfl, hb⟩; have n0_ := sK BK340 hb; have n1_ := sK BK341 hb; have n2_ := sB HB hb; clear BK340; clear BK341; clear HB; have BK340 := n0_; have BK341 := n1_; have HB := n2_; clear n0_ n1_ n2_; (try clear hb); (try clear hb2); (try clear hk); (try clear hi))))
   go_ret
   exact ⟨sq, sb⟩

/-! ### impl_Value__impl_Heap_fits: function 124 -/
def impl_Value__impl_Heap_fits.l0 (a1_0 : Int) (l1_1 : List (S56)) : Nat → List (S29) → Int → Int → Option (Bool)
 | 0, _, _, _ => none
 | k + 1, x7, x8, x9 => if x9 < x8 then (if 0 ≤ x9 then (if x9 < (x7.length : Int) then ((impl_Heap_fits.f k a1_0 l1_1 ((rd_T29 x7 x9).f0) ((rd_T29 x7 x9).f1) ((rd_T29 x7 x9).f2) ((rd_T29 x7 x9).f3)).bind fun t350 => (if t350 = true then (impl_Value__impl_Heap_fits.l0 a1_0 l1_1 k x7 x8 (wrap64 (x9 + 1))) else (some false))) else (none)) else (none)) else (some true)
def impl_Value__impl_Heap_fits.f (k : Nat) (l0 : List (S29)) (a1_0 : Int) (l1_1 : List (S56)) : Option (Bool) := impl_Value__impl_Heap_fits.l0 a1_0 l1_1 k l0 (l0.length : Int) 0
set_option maxHeartbeats 8000000 in
set_option maxRecDepth 100000 in
theorem impl_Value__impl_Heap_fits.calls (k : Nat) (A0 : Option Addr) (c0 : Nat) (l0 : List (S29)) (a1_0 : Int) (A1_1 : Option Addr) (c1_1 : Nat) (l1_1 : List (S56)) (r : Bool) (w : World) (hr0 : Kd.C k29 w A0 l0.length l0) (hc0 : l0.length ≤ c0) (hr1_1 : Kd.C k56 w A1_1 l1_1.length l1_1) (hc1_1 : l1_1.length ≤ c1_1) (h : impl_Value__impl_Heap_fits.f k l0 a1_0 l1_1 = some r) :
  Calls Try.prog 124 #[.slice A0 l0.length c0, .func (.func 116) #[.agg #[.int .i64 a1_0, .slice A1_1 l1_1.length c1_1]] #[]] w fun e w' => e = .returned (.bool r) ∧ Below w.heap.size w w' := by
 have hu29 := Try.underlying29
 have HR0 := Aside0.mk hr0
 have HC0 := Aside0.mk hc0
 clear hr0 hc0
 have HR1_1 := Aside0.mk hr1_1
 have HC1_1 := Aside0.mk hc1_1
 clear hr1_1 hc1_1
 have HB := Aside0.mk (Below.refl w.heap.size w)
 have H : (impl_Value__impl_Heap_fits.l0 a1_0 l1_1 k l0 (l0.length : Int) 0) = some r := h
 clear h
 have H' := Aside0.mk H
 clear H
 go_enter Try.func124, Try.ntmps124
 go_wp2
 go_loopg [9] k (fun kq v9 w' => ∃ (x9_1 : Int), v9 = .int .i64 x9_1 ∧ Aside0 (impl_Value__impl_Heap_fits.l0 a1_0 l1_1 kq l0 (l0.length : Int) x9_1 = some r) ∧ Aside0 (kq ≤ k) ∧ Aside0 (Below w.heap.size w w'))
 case atStart => exact ⟨(0), sr, H', ⟨Nat.le_refl _⟩, ⟨sb⟩⟩
 case round =>
  clear H'
  try clear c1
  try clear p2
  obtain ⟨x9_1, rfl, HA, HK1, HB⟩ := hrel
  cases gk with
  | zero => exact absurd HA.out (by simp [impl_Value__impl_Heap_fits.l0])
  | succ k1 =>
   have H := HA.out
   clear HA
   simp only [impl_Value__impl_Heap_fits.l0] at H
   by_cases c3 : x9_1 < (l0.length : Int)
   ·rw [if_pos c3] at H
    have c3b0 := decide_eq_true c3
    clear c3
    by_cases c4 : 0 ≤ x9_1
    ·rw [if_pos c4] at H
     have c4b0 := decide_eq_true c4
     clear c4
     by_cases c5 : x9_1 < (l0.length : Int)
     ·rw [if_pos c5] at H
      have c5b0 := decide_eq_true c5
      clear c5
      obtain ⟨t350, A6, H⟩ := sO H
      by_cases c7 : t350 = true
      ·subst c7
       rewrite [if_pos rfl] at H
       have H' := Aside0.mk H
       clear H
       have p348 : 0 ≤ (x9_1 : Int) := of_decide_eq_true (by first | (with_reducible assumption) | assumption)
       have q348 : x9_1 < (l0.length : Int) := of_decide_eq_true (by first | (with_reducible assumption) | assumption)
       obtain ⟨ad348, e348, hx348_0, hx348_1, hx348_2, hx348_3⟩ := at_T29 HR0.out x9_1 p348 q348
       cases e348
       replace hx348_0 := sX HB hx348_0
       replace hx348_1 := sX HB hx348_1
       replace hx348_2 := sX HB hx348_2
       replace hx348_3 := sX HB hx348_3
       replace p348 := eq_true p348
       replace q348 := eq_true q348
       go_wp2_with (first | ((with_reducible refine gate_dst (N := 6) rfl ?_); refine sV (N := 6) (cs := #[.int .i64 0, .int .i64 0, .string (⟨#[]⟩ : ByteArray), .int .i64 0]) (t := 29) ?_; intro gb349 hg w8 hbox hb; have n0_ := sB HB hb; have n1_ := Aside0.mk (hbox); have n2_ := sG HB hg; have n3_ := sG HB hg; clear HB; have HB := n0_; have BK349 := n1_; have GW349 := n2_; have GE349 := n3_; clear n0_ n1_ n2_ n3_; clear hb hbox hg; obtain ⟨hcz9_0, hcz9_1, hcz9_2, hcz9_3, hfz9_0, hfz9_1, hfz9_2, hfz9_3⟩ := cells4 BK349.out) | (go_at_call 116; (with_reducible refine (impl_Heap_fits.calls k1 a1_0 _ _ l1_1 ((rd_T29 l0 x9_1).f0) ((rd_T29 l0 x9_1).f1) ((rd_T29 l0 x9_1).f2) ((rd_T29 l0 x9_1).f3) true _ ?side1 ?side2 A6.out).mono ?_); (case side1 => exact Kd.C_below HR1_1.out (by repeat (first | (with_reducible first | exact HB.out | apply below_alloc | apply pw_below_drewN | apply below_drew1 | refine below_set ?_ GE349.out) | exact HB.out))); (case side2 => exact HC1_1.out); rintro e w10 ⟨rfl, hb⟩; have n0_ := Aside0.mk (blk_below (g := gb349) (o := .cells #[.int .i64 ((rd_T29 l0 x9_1).f0), .int .i64 ((rd_T29 l0 x9_1).f1), .string ((rd_T29 l0 x9_1).f2), .int .i64 ((rd_T29 l0 x9_1).f3)] 29 (0, 0)) (by exact sP4 (sT BK349.out)) hb); have n1_ := sB HB hb; clear BK349; clear HB; have BK349 := n0_; have HB := n1_; clear n0_ n1_; (try clear hb); (try clear hb2); (try clear hk); (try clear hi)))
       go_roundg k1
       case measure => have := HK1.out; omega
       case rel => exact ⟨(wrap64 (x9_1 + 1)), sr, H', ⟨by have := HK1.out; omega⟩, ⟨sb⟩⟩
      replace c7 := Bool.eq_false_iff.mpr c7
      subst c7
      rewrite [if_neg (show ¬ (false = true) by decide)] at H
      obtain rfl := Option.some.inj H
      have p348 : 0 ≤ (x9_1 : Int) := of_decide_eq_true (by first | (with_reducible assumption) | assumption)
      have q348 : x9_1 < (l0.length : Int) := of_decide_eq_true (by first | (with_reducible assumption) | assumption)
      obtain ⟨ad348, e348, hx348_0, hx348_1, hx348_2, hx348_3⟩ := at_T29 HR0.out x9_1 p348 q348
      cases e348
      replace hx348_0 := sX HB hx348_0
      replace hx348_1 := sX HB hx348_1
      replace hx348_2 := sX HB hx348_2
      replace hx348_3 := sX HB hx348_3
      replace p348 := eq_true p348
      replace q348 := eq_true q348
      go_wp2_with (first | ((with_reducible refine gate_dst (N := 6) rfl ?_); refine sV (N := 6) (cs := #[.int .i64 0, .int .i64 0, .string (⟨#[]⟩ : ByteArray), .int .i64 0]) (t := 29) ?_; intro gb349 hg w11 hbox hb; have n0_ := sB HB hb; have n1_ := Aside0.mk (hbox); have n2_ := sG HB hg; have n3_ := sG HB hg; clear HB; have HB := n0_; have BK349 := n1_; have GW349 := n2_; have GE349 := n3_; clear n0_ n1_ n2_ n3_; clear hb hbox hg; obtain ⟨hcz12_0, hcz12_1, hcz12_2, hcz12_3, hfz12_0, hfz12_1, hfz12_2, hfz12_3⟩ := cells4 BK349.out) | (go_at_call 116; (with_reducible refine (impl_Heap_fits.calls k1 a1_0 _ _ l1_1 ((rd_T29 l0 x9_1).f0) ((rd_T29 l0 x9_1).f1) ((rd_T29 l0 x9_1).f2) ((rd_T29 l0 x9_1).f3) false _ ?side1 ?side2 A6.out).mono ?_); (case side1 => exact Kd.C_below HR1_1.out (by repeat (first | (with_reducible first | exact HB.out | apply below_alloc | apply pw_below_drewN | apply below_drew1 | refine below_set ?_ GE349.out) | exact HB.out))); (case side2 => exact HC1_1.out); rintro e w13 ⟨rfl, hb⟩; have n0_ := Aside0.mk (blk_below (g := gb349) (o := .cells #[.int .i64 ((rd_T29 l0 x9_1).f0), .int .i64 ((rd_T29 l0 x9_1).f1), .string ((rd_T29 l0 x9_1).f2), .int .i64 ((rd_T29 l0 x9_1).f3)] 29 (0, 0)) (by exact sP4 (sT BK349.out)) hb); have n1_ := sB HB hb; clear BK349; clear HB; have BK349 := n0_; have HB := n1_; clear n0_ n1_; (try clear hb); (try clear hb2); (try clear hk); (try clear hi)))
      go_ret
      exact ⟨sq, sb⟩
     rw [if_neg c5] at H
     exact absurd H (by simp)
    rw [if_neg c4] at H
    exact absurd H (by simp)
   rw [if_neg c3] at H
   have c3b0 := decide_eq_false c3
   clear c3
   obtain rfl := Option.some.inj H
   go_wp2
   go_ret
   exact ⟨sq, sb⟩

/-! ### impl_ValidHeap_1: function 152 -/
def impl_ValidHeap_1.f (k : Nat) (a0_0 : Int) (a0_1 : Int) (a0_2 : ByteArray) (a0_3 : Int) (l0_4 : List (S29)) (l0_5 : List (S29)) (a0_6 : Int) (a0_7 : Int) (a0_8 : ByteArray) (a0_9 : Int) (l1 : List (S34)) : Option (Bool) := (impl_Object_values.f k a0_0 a0_1 a0_2 a0_3 l0_4 l0_5 a0_6 a0_7 a0_8 a0_9).bind fun t352 => (if 0 < (l1.length : Int) then ((impl_Value__impl_Heap_fits.f k t352 ((rd_T34 l1 0).f0) ((rd_T34 l1 0).f1)).bind fun t356 => (some t356)) else (none))
set_option maxHeartbeats 8000000 in
set_option maxRecDepth 100000 in
theorem impl_ValidHeap_1.calls (k : Nat) (a0_0 : Int) (a0_1 : Int) (a0_2 : ByteArray) (a0_3 : Int) (A0_4 : Option Addr) (c0_4 : Nat) (l0_4 : List (S29)) (A0_5 : Option Addr) (c0_5 : Nat) (l0_5 : List (S29)) (a0_6 : Int) (a0_7 : Int) (a0_8 : ByteArray) (a0_9 : Int) (A1 : Option Addr) (l1 : List (S34)) (r : Bool) (w : World) (hr0_4 : Kd.C k29 w A0_4 l0_4.length l0_4) (hc0_4 : l0_4.length ≤ c0_4) (hr0_5 : Kd.C k29 w A0_5 l0_5.length l0_5) (hc0_5 : l0_5.length ≤ c0_5) (hr1 : Kd.C k34 w A1 l1.length l1) (h : impl_ValidHeap_1.f k a0_0 a0_1 a0_2 a0_3 l0_4 l0_5 a0_6 a0_7 a0_8 a0_9 l1 = some r) :
  Calls Try.prog 152 #[.agg #[.int .i64 a0_0, .int .i64 a0_1, .string a0_2, .int .i64 a0_3, .slice A0_4 l0_4.length c0_4, .slice A0_5 l0_5.length c0_5, .int .i64 a0_6, .int .i64 a0_7, .string a0_8, .int .i64 a0_9], .pointer A1] w fun e w' => e = .returned (.bool r) ∧ Below w.heap.size w w' := by
 have hu56 := Try.underlying56
 have hu34 := Try.underlying34
 have HR0_4 := Aside0.mk hr0_4
 have HC0_4 := Aside0.mk hc0_4
 clear hr0_4 hc0_4
 have HR0_5 := Aside0.mk hr0_5
 have HC0_5 := Aside0.mk hc0_5
 clear hr0_5 hc0_5
 have HR1 := Aside0.mk hr1
 have HC1 := Aside0.mk (Nat.le_refl l1.length)
 clear hr1
 have HB := Aside0.mk (Below.refl w.heap.size w)
 have H : ((impl_Object_values.f k a0_0 a0_1 a0_2 a0_3 l0_4 l0_5 a0_6 a0_7 a0_8 a0_9).bind fun t352 => (if 0 < (l1.length : Int) then ((impl_Value__impl_Heap_fits.f k t352 ((rd_T34 l1 0).f0) ((rd_T34 l1 0).f1)).bind fun t356 => (some t356)) else (none))) = some r := h
 clear h
 obtain ⟨t352, A3, H⟩ := sO H
 by_cases c4 : 0 < (l1.length : Int)
 ·rw [if_pos c4] at H
  have c4b0 := decide_eq_true c4
  have c4b1 : decide (0 < l1.length) = true := decide_eq_true (by omega)
  clear c4
  obtain ⟨t356, A5, H⟩ := sO H
  obtain rfl := Option.some.inj H
  go_enter Try.func152, Try.ntmps152
  try go_wp2_with (first | ((with_reducible refine gate_dst (N := 2) rfl ?_); refine sV (N := 2) (cs := #[.int .i64 a0_0, .int .i64 a0_1, .string a0_2, .int .i64 a0_3, .slice A0_4 l0_4.length c0_4, .slice A0_5 l0_5.length c0_5, .int .i64 a0_6, .int .i64 a0_7, .string a0_8, .int .i64 a0_9]) (t := 56) ?_; intro gb351 hg w6 hbox hb; have n0_ := sB HB hb; have n1_ := Aside0.mk (hbox); have n2_ := sG HB hg; have n3_ := sG HB hg; clear HB; have HB := n0_; have BK351 := n1_; have GW351 := n2_; have GE351 := n3_; clear n0_ n1_ n2_ n3_; clear hb hbox hg))
  have n0_ := Aside0.mk (blk_drew BK351.out)
  have n1_ := Aside0.mk (below_drew1 HB.out)
  clear BK351
  clear HB
  have BK351 := n0_
  have HB := n1_
  clear n0_ n1_
  have p355 : 0 ≤ (0 : Int) := (by omega)
  have q355 : 0 < (l1.length : Int) := of_decide_eq_true (by first | (with_reducible assumption) | assumption)
  obtain ⟨ad355, A355_1, c355_1, e355, hx355_0, hx355_1, hl355_1, hi355_1⟩ := at_T34 HR1.out 0 p355 q355
  have hw355_1 := hx355_1
  (try rw [sZ] at hw355_1)
  have hw355_0 := hx355_0
  (try rw [sZ] at hw355_0)
  cases e355
  have qi355 : (0 < l1.length) = True := eq_true (by omega)
  (try rw [sZ] at hx355_0)
  (try rw [sZ] at hx355_1)
  replace hx355_0 := sX HB hx355_0
  replace hx355_1 := sX HB hx355_1
  have HR355_1 := Aside0.mk hi355_1
  have HC355_1 := Aside0.mk hl355_1
  clear hi355_1 hl355_1
  replace p355 := eq_true p355
  replace q355 := eq_true q355
  refine start_ (n := 6) (S := fun w' => w'.cell? ⟨gb351, 0, none⟩ = some (.int .i64 a0_0) ∧ w'.cell? ⟨gb351, 1, none⟩ = some (.int .i64 a0_1) ∧ w'.cell? ⟨gb351, 2, none⟩ = some (.string a0_2) ∧ w'.cell? ⟨gb351, 3, none⟩ = some (.int .i64 a0_3) ∧ w'.cell? ⟨gb351, 4, none⟩ = some (.slice A0_4 l0_4.length c0_4) ∧ w'.cell? ⟨gb351, 5, none⟩ = some (.slice A0_5 l0_5.length c0_5) ∧ w'.cell? ⟨gb351, 6, none⟩ = some (.int .i64 a0_6) ∧ w'.cell? ⟨gb351, 7, none⟩ = some (.int .i64 a0_7) ∧ w'.cell? ⟨gb351, 8, none⟩ = some (.string a0_8) ∧ w'.cell? ⟨gb351, 9, none⟩ = some (.int .i64 a0_9) ∧ w'.cell? ad355 = some (.int .i64 ((rd_T34 l1 0).f0)) ∧ w'.cell? ⟨ad355.block, ad355.off + 1, none⟩ = some (.slice A355_1 ((rd_T34 l1 0).f1).length c355_1)) (ds := []) #[false, false, false, false, false, false] (by kernel_rfl) rfl rfl ⟨(blk_cell BK351.out 0).trans rfl, (blk_cell BK351.out 1).trans rfl, (blk_cell BK351.out 2).trans rfl, (blk_cell BK351.out 3).trans rfl, (blk_cell BK351.out 4).trans rfl, (blk_cell BK351.out 5).trans rfl, (blk_cell BK351.out 6).trans rfl, (blk_cell BK351.out 7).trans rfl, (blk_cell BK351.out 8).trans rfl, (blk_cell BK351.out 9).trans rfl, ((HB.out.cell (World.block_lt_of_cell? w _ hw355_0)).trans hw355_0), ((HB.out.cell (World.block_lt_of_cell? w _ hw355_1)).trans hw355_1)⟩ (fun hHeld => ?_)
  generalize w6.drew = w7 at BK351 HB HR355_1 hx355_0 hx355_1 hHeld ⊢
  refine take_ (i := 0) (N := some 4) (v := ?_) (a' := ?_) #[true, false, false, false, false, false] rfl rfl (by kernel_rfl) (fun _ _ _ h => h) (Or.inl ⟨by rfl, ?_⟩) hHeld ?_ ?_
  rotate_left
  ·rintro w' ⟨s0, s1, s2, s3, s4, s5, s6, s7, s8, s9, s10, s11⟩
   go_simp
   with_reducible rfl
  rotate_left
  ·simp only [Act.put, List.setIfInBounds_toArray, List.set_cons_zero, List.set_cons_succ, i64_w, i32_w]
   rfl
  refine take_ (i := 2) (N := some 6) (v := ?_) (a' := ?_) #[true, false, true, false, false, false] rfl rfl (by kernel_rfl) (fun _ _ _ h => h) (Or.inl ⟨by rfl, ?_⟩) hHeld ?_ ?_
  rotate_left
  ·rintro w' ⟨s0, s1, s2, s3, s4, s5, s6, s7, s8, s9, s10, s11⟩
   go_simp
   with_reducible rfl
  rotate_left
  ·simp only [Act.put, List.setIfInBounds_toArray, List.set_cons_zero, List.set_cons_succ, i64_w, i32_w]
   rfl
  refine pure_ (i := 3) (N := some 7) (v := ?_) (a' := ?_) #[true, false, true, true, false, false] rfl rfl (by kernel_rfl) (fun _ _ _ h => h) (Or.inl ⟨by rfl, ?_⟩) ?_ ?_
  rotate_left
  ·intro w'
   go_simp
   with_reducible rfl
  rotate_left
  ·simp only [Act.put, List.setIfInBounds_toArray, List.set_cons_zero, List.set_cons_succ, i64_w, i32_w]
   rfl
  refine one_ (i := 1) (N := some 5) #[true, true, true, true, false, false] rfl rfl (by kernel_rfl) (by decide) (fun K hK => ?_)
  refine goes_ Try.func129 (by kernel_rfl) rfl #[.agg #[.int .i64 a0_0, .int .i64 a0_1, .string a0_2, .int .i64 a0_3, .slice A0_4 l0_4.length c0_4, .slice A0_5 l0_5.length c0_5, .int .i64 a0_6, .int .i64 a0_7, .string a0_8, .int .i64 a0_9]] (by rfl) rfl rfl (by (try simp only [List.map_toArray, List.map_cons, List.map_nil]); first | done | rfl | (simp only [List.length_drop, List.length_take]; rfl)) ?_
  with_reducible refine (impl_Object_values.calls k a0_0 a0_1 a0_2 a0_3 (fun k_ => k_ < w.heap.size) _ _ l0_4 (fun k_ => k_ < w.heap.size) _ _ l0_5 a0_6 a0_7 a0_8 a0_9 t352 _ ?side1 ?side2 A3.out).mono ?_
  (case side1 => exact Kd.V_mk HC0_4.out (Kd.F_below (Kd.C_F k29_heap HR0_4.out) (by repeat (first | (with_reducible first | exact HB.out | apply below_alloc | apply pw_below_drewN | apply below_drew1 | refine below_set ?_ GE351.out) | exact HB.out))))
  (case side2 => exact Kd.V_mk HC0_5.out (Kd.F_below (Kd.C_F k29_heap HR0_5.out) (by repeat (first | (with_reducible first | exact HB.out | apply below_alloc | apply pw_below_drewN | apply below_drew1 | refine below_set ?_ GE351.out) | exact HB.out))))
  rintro e w8 ⟨v353, rfl, ho0, hb⟩
  refine ⟨_, rfl, ?_⟩
  have n0_ := Aside0.mk (Kd.R_lower (Kd.R_mono (ok' := fun k_ => True) ho0 (fun _ hk_ => trivial)) (below_size (by repeat (first | (with_reducible first | exact HB.out | apply below_alloc | apply pw_below_drewN | apply below_drew1 | refine below_set ?_ GE351.out) | exact HB.out))))
  have n1_ := sK BK351 hb
  have n2_ := sB HB hb
  clear BK351
  clear HB
  have HO354 := n0_
  have BK351 := n1_
  have HB := n2_
  clear n0_ n1_ n2_
  (try clear hb)
  (try clear hb2)
  (try clear hk)
  (try clear hi)
  (try clear ho0)
  obtain ⟨Ao9, co9, eo9⟩ := Kd.R_slice HO354.out
  (first | subst eo9 | (injection eo9 with f1_ f2_ f3_; have f4_ := f1_.symm; have f5_ := f3_.symm; clear f1_ f2_ f3_; subst f4_; subst f5_))
  refine hK.out _ _ ⟨(blk_cell BK351.out 0).trans rfl, (blk_cell BK351.out 1).trans rfl, (blk_cell BK351.out 2).trans rfl, (blk_cell BK351.out 3).trans rfl, (blk_cell BK351.out 4).trans rfl, (blk_cell BK351.out 5).trans rfl, (blk_cell BK351.out 6).trans rfl, (blk_cell BK351.out 7).trans rfl, (blk_cell BK351.out 8).trans rfl, (blk_cell BK351.out 9).trans rfl, ((HB.out.cell (World.block_lt_of_cell? w _ hw355_0)).trans hw355_0), ((HB.out.cell (World.block_lt_of_cell? w _ hw355_1)).trans hw355_1)⟩ (fun hHeld => ?_)
  clear hK K
  refine norm_ (a' := ?_) ?_ ?_
  rotate_left
  ·show Act.put _ (some 5) _ = _
   simp only [Act.put, List.setIfInBounds_toArray, List.set_cons_zero, List.set_cons_succ, i64_w, i32_w]
   rfl
  refine one_ (i := 4) (N := some 8) #[true, true, true, true, true, false] rfl rfl (by kernel_rfl) (by decide) (fun K hK => ?_)
  refine goes_ Try.func124 (by kernel_rfl) rfl #[.slice Ao9 t352.length co9, .func (.func 116) #[.agg #[.int .i64 ((rd_T34 l1 0).f0), .slice A355_1 ((rd_T34 l1 0).f1).length c355_1]] #[]] (by rfl) rfl rfl (by (try simp only [List.map_toArray, List.map_cons, List.map_nil]); first | done | rfl | (simp only [List.length_drop, List.length_take]; rfl)) ?_
  with_reducible refine (impl_Value__impl_Heap_fits.calls k _ _ t352 ((rd_T34 l1 0).f0) _ _ ((rd_T34 l1 0).f1) t356 _ ?side1 ?side2 ?side3 ?side4 A5.out).mono ?_
  (case side1 => exact sD ((Kd.R_reads' HO354.out).2.2))
  (case side2 => exact (Kd.R_reads' HO354.out).2.1)
  (case side3 => exact sD (Kd.C_below HR355_1.out HB.out))
  (case side4 => exact HC355_1.out)
  rintro e w10 ⟨rfl, hb⟩
  refine ⟨_, rfl, ?_⟩
  have n0_ := Aside0.mk (Kd.R_below (sE HO354.out) hb)
  have n1_ := sK BK351 hb
  have n2_ := sB HB hb
  clear HO354
  clear BK351
  clear HB
  have HO354 := n0_
  have BK351 := n1_
  have HB := n2_
  clear n0_ n1_ n2_
  (try clear hb)
  (try clear hb2)
  (try clear hk)
  (try clear hi)
  refine hK.out _ _ ⟨(blk_cell BK351.out 0).trans rfl, (blk_cell BK351.out 1).trans rfl, (blk_cell BK351.out 2).trans rfl, (blk_cell BK351.out 3).trans rfl, (blk_cell BK351.out 4).trans rfl, (blk_cell BK351.out 5).trans rfl, (blk_cell BK351.out 6).trans rfl, (blk_cell BK351.out 7).trans rfl, (blk_cell BK351.out 8).trans rfl, (blk_cell BK351.out 9).trans rfl, ((HB.out.cell (World.block_lt_of_cell? w _ hw355_0)).trans hw355_0), ((HB.out.cell (World.block_lt_of_cell? w _ hw355_1)).trans hw355_1)⟩ (fun hHeld => ?_)
  clear hK K
  refine norm_ (a' := ?_) ?_ ?_
  rotate_left
  ·show Act.put _ (some 8) _ = _
   simp only [Act.put, List.setIfInBounds_toArray, List.set_cons_zero, List.set_cons_succ, i64_w, i32_w]
   rfl
  refine pure_ (i := 5) (N := some 3) (v := ?_) (a' := ?_) #[true, true, true, true, true, true] rfl rfl (by kernel_rfl) (fun _ _ _ h => h) (Or.inl ⟨by rfl, ?_⟩) ?_ ?_
  rotate_left
  ·intro w'
   go_simp
   with_reducible rfl
  rotate_left
  ·simp only [Act.put, List.setIfInBounds_toArray, List.set_cons_zero, List.set_cons_succ, i64_w, i32_w]
   rfl
  refine done_ (by kernel_rfl) ?_
  try go_wp2
  go_ret
  exact ⟨sq, sb⟩
 rw [if_neg c4] at H
 exact absurd H (by simp)
end Go.Proofs.Ytnjkhdhaiicefaa.PFnExactGetField
