/- Printed functions: impl_FinalOf_1, impl_Assignment__impl_FinalOf_1, impl_FinalOf. -/
import Derived.Test.YtabbpnkbhapibaaYFcP0
namespace Go.Proofs.Ytabbpnkbhapibaa.PFnExactFinalOf
open Go.RowKit Go.Proofs.YtabbpnkbhapibaaG Go.Proofs.YtabbpnkbhapibaaW.PrintWords Go.Proofs.YtabbpnkbhapibaaW.PrintLast Go.Proofs.YtabbpnkbhapibaaW.PrintMore
attribute [local go_sem] max2_int min2_int max_two min_two max_three min_three max_four min_four   -- for this text's walks alone
set_option linter.unusedVariables false
set_option linter.unusedSimpArgs false
/-! ### impl_FinalOf_1: function 66 -/
def impl_FinalOf_1.f (a0_0 : ByteArray) (a0_1 : ByteArray) (a0_2 : Bool) (a0_3 : Int) (l1 : List (S37)) : Option (Bool) := if 0 < (l1.length : Int) then (some (a0_0.toList == ((rd_T37 l1 0).f0).toList)) else (none)
set_option maxHeartbeats 8000000 in
set_option maxRecDepth 100000 in
theorem impl_FinalOf_1.calls (a0_0 : ByteArray) (a0_1 : ByteArray) (a0_2 : Bool) (a0_3 : Int) (A1 : Option Addr) (l1 : List (S37)) (r : Bool) (w : World) (hr1 : Kd.C k37 w A1 l1.length l1) (h : impl_FinalOf_1.f a0_0 a0_1 a0_2 a0_3 l1 = some r) :
  Calls Try.prog 66 #[.agg #[.string a0_0, .string a0_1, .bool a0_2, .int .i64 a0_3], .pointer A1] w fun e w' => e = .returned (.bool r) ∧ Below w.heap.size w w' := by
 have hu37 := Try.underlying37
 have HR1 := Aside0.mk hr1
 have HC1 := Aside0.mk (Nat.le_refl l1.length)
 clear hr1
 have HB := Aside0.mk (Below.refl w.heap.size w)
 have H : (if 0 < (l1.length : Int) then (some (a0_0.toList == ((rd_T37 l1 0).f0).toList)) else (none)) = some r := h
 clear h
 by_cases c3 : 0 < (l1.length : Int)
 ·rw [if_pos c3] at H
  have c3b0 := decide_eq_true c3
  have c3b1 : decide (0 < l1.length) = true := decide_eq_true (by omega)
  clear c3
  obtain rfl := Option.some.inj H
  go_enter Try.func66, Try.ntmps66
  go_wp2_with (first | ((with_reducible refine gate_dst (N := 2) rfl ?_); refine sV (N := 2) (cs := #[.string a0_0, .string a0_1, .bool a0_2, .int .i64 a0_3]) (t := 37) ?_; intro gb127 hg w4 hbox hb; have n0_ := sB HB hb; have n1_ := Aside0.mk (hbox); have n2_ := sG HB hg; have n3_ := sG HB hg; clear HB; have HB := n0_; have BK127 := n1_; have GW127 := n2_; have GE127 := n3_; clear n0_ n1_ n2_ n3_; clear hb hbox hg; obtain ⟨hcz5_0, hcz5_1, hcz5_2, hcz5_3, hfz5_0, hfz5_1, hfz5_2, hfz5_3⟩ := cells4 BK127.out; have p128 : 0 ≤ (0 : Int) := (by omega); have q128 : 0 < (l1.length : Int) := of_decide_eq_true (by first | (with_reducible assumption) | assumption); obtain ⟨ad128, e128, hx128_0, hx128_1, hx128_2, hx128_3⟩ := at_T37 HR1.out 0 p128 q128; cases e128; have qi128 : (0 < l1.length) = True := eq_true (by omega); (try rw [show ((0 : Int)).toNat = 0 from rfl] at hx128_0); (try rw [show 0 * 4 = 0 from rfl] at hx128_0); (try rw [Addr.add_zero'] at hx128_0); (try rw [show ((0 : Int)).toNat = 0 from rfl] at hx128_1); (try rw [show 0 * 4 = 0 from rfl] at hx128_1); (try rw [Addr.add_zero'] at hx128_1); (try rw [show ((0 : Int)).toNat = 0 from rfl] at hx128_2); (try rw [show 0 * 4 = 0 from rfl] at hx128_2); (try rw [Addr.add_zero'] at hx128_2); (try rw [show ((0 : Int)).toNat = 0 from rfl] at hx128_3); (try rw [show 0 * 4 = 0 from rfl] at hx128_3); (try rw [Addr.add_zero'] at hx128_3); replace hx128_0 := sX HB hx128_0; replace hx128_1 := sX HB hx128_1; replace hx128_2 := sX HB hx128_2; replace hx128_3 := sX HB hx128_3; replace p128 := eq_true p128; replace q128 := eq_true q128))
  go_ret
  exact ⟨sq, sb⟩
 rw [if_neg c3] at H
 exact absurd H (by simp)

/-! ### impl_Assignment__impl_FinalOf_1: function 65 -/
def impl_Assignment__impl_FinalOf_1.l0 : Nat → List (S37) → List (S37) → Int → Int → Option (Int)
 | 0, _, _, _, _ => none
 | k + 1, x0, x1, x7, x8 => if x8 < x7 then (if 0 ≤ x8 then (if x8 < (x0.length : Int) then ((impl_FinalOf_1.f ((rd_T37 x0 x8).f0) ((rd_T37 x0 x8).f1) ((rd_T37 x0 x8).f2) ((rd_T37 x0 x8).f3) x1).bind fun t130 => (if t130 = true then (some x8) else (impl_Assignment__impl_FinalOf_1.l0 k x0 x1 x7 (wrap64 (x8 + 1))))) else (none)) else (none)) else (some (-1))
def impl_Assignment__impl_FinalOf_1.f (k : Nat) (l0 : List (S37)) (l1 : List (S37)) : Option (Int) := impl_Assignment__impl_FinalOf_1.l0 k l0 l1 (l0.length : Int) 0
set_option maxHeartbeats 8000000 in
set_option maxRecDepth 100000 in
theorem impl_Assignment__impl_FinalOf_1.calls (k : Nat) (A0 : Option Addr) (c0 : Nat) (l0 : List (S37)) (A1 : Option Addr) (l1 : List (S37)) (r : Int) (w : World) (hr0 : Kd.C k37 w A0 l0.length l0) (hc0 : l0.length ≤ c0) (hr1 : Kd.C k37 w A1 l1.length l1) (h : impl_Assignment__impl_FinalOf_1.f k l0 l1 = some r) :
  Calls Try.prog 65 #[.slice A0 l0.length c0, .func (.func 66) #[] #[.pointer A1]] w fun e w' => e = .returned (.int .i64 r) ∧ Below w.heap.size w w' := by
 have hu37 := Try.underlying37
 have HR0 := Aside0.mk hr0
 have HC0 := Aside0.mk hc0
 clear hr0 hc0
 have HR1 := Aside0.mk hr1
 have HC1 := Aside0.mk (Nat.le_refl l1.length)
 clear hr1
 have HB := Aside0.mk (Below.refl w.heap.size w)
 have H : (impl_Assignment__impl_FinalOf_1.l0 k l0 l1 (l0.length : Int) 0) = some r := h
 clear h
 have H' := Aside0.mk H
 clear H
 go_enter Try.func65, Try.ntmps65
 go_wp2
 go_loopg [8] k (fun kq v8 w' => ∃ (x8_1 : Int), v8 = .int .i64 x8_1 ∧ Aside0 (impl_Assignment__impl_FinalOf_1.l0 kq l0 l1 (l0.length : Int) x8_1 = some r) ∧ Aside0 (kq ≤ k) ∧ Aside0 (Below w.heap.size w w'))
 case atStart => exact ⟨(0), sr, H', ⟨Nat.le_refl _⟩, ⟨sb⟩⟩
 case round =>
  clear H'
  try clear p2
  obtain ⟨x8_1, rfl, HA, HK1, HB⟩ := hrel
  cases gk with
  | zero => exact absurd HA.out (by simp [impl_Assignment__impl_FinalOf_1.l0])
  | succ k1 =>
   have H := HA.out
   clear HA
   simp only [impl_Assignment__impl_FinalOf_1.l0] at H
   by_cases c3 : x8_1 < (l0.length : Int)
   ·rw [if_pos c3] at H
    have c3b0 := decide_eq_true c3
    clear c3
    by_cases c4 : 0 ≤ x8_1
    ·rw [if_pos c4] at H
     have c4b0 := decide_eq_true c4
     clear c4
     by_cases c5 : x8_1 < (l0.length : Int)
     ·rw [if_pos c5] at H
      have c5b0 := decide_eq_true c5
      clear c5
      obtain ⟨t130, A6, H⟩ := sO H
      by_cases c7 : t130 = true
      ·subst c7
       rewrite [if_pos rfl] at H
       obtain rfl := Option.some.inj H
       have p129 : 0 ≤ (x8_1 : Int) := of_decide_eq_true (by first | (with_reducible assumption) | assumption)
       have q129 : x8_1 < (l0.length : Int) := of_decide_eq_true (by first | (with_reducible assumption) | assumption)
       obtain ⟨ad129, e129, hx129_0, hx129_1, hx129_2, hx129_3⟩ := at_T37 HR0.out x8_1 p129 q129
       cases e129
       replace hx129_0 := sX HB hx129_0
       replace hx129_1 := sX HB hx129_1
       replace hx129_2 := sX HB hx129_2
       replace hx129_3 := sX HB hx129_3
       replace p129 := eq_true p129
       replace q129 := eq_true q129
       go_wp2_with (first | (go_at_call 66; (with_reducible refine (impl_FinalOf_1.calls ((rd_T37 l0 x8_1).f0) ((rd_T37 l0 x8_1).f1) ((rd_T37 l0 x8_1).f2) ((rd_T37 l0 x8_1).f3) _ l1 true _ ?side1 A6.out).mono ?_); (case side1 => exact sD (Kd.C_below HR1.out HB.out)); rintro e w8 ⟨rfl, hb⟩; have n0_ := sB HB hb; clear HB; have HB := n0_; clear n0_; (try clear hb); (try clear hb2); (try clear hk); (try clear hi)))
       go_ret
       exact ⟨sq, sb⟩
      replace c7 := Bool.eq_false_iff.mpr c7
      subst c7
      rewrite [if_neg (show ¬ (false = true) by decide)] at H
      have H' := Aside0.mk H
      clear H
      have p129 : 0 ≤ (x8_1 : Int) := of_decide_eq_true (by first | (with_reducible assumption) | assumption)
      have q129 : x8_1 < (l0.length : Int) := of_decide_eq_true (by first | (with_reducible assumption) | assumption)
      obtain ⟨ad129, e129, hx129_0, hx129_1, hx129_2, hx129_3⟩ := at_T37 HR0.out x8_1 p129 q129
      cases e129
      replace hx129_0 := sX HB hx129_0
      replace hx129_1 := sX HB hx129_1
      replace hx129_2 := sX HB hx129_2
      replace hx129_3 := sX HB hx129_3
      replace p129 := eq_true p129
      replace q129 := eq_true q129
      go_wp2_with (first | (go_at_call 66; (with_reducible refine (impl_FinalOf_1.calls ((rd_T37 l0 x8_1).f0) ((rd_T37 l0 x8_1).f1) ((rd_T37 l0 x8_1).f2) ((rd_T37 l0 x8_1).f3) _ l1 false _ ?side1 A6.out).mono ?_); (case side1 => exact sD (Kd.C_below HR1.out HB.out)); rintro e w9 ⟨rfl, hb⟩; have n0_ := sB HB hb; clear HB; have HB := n0_; clear n0_; (try clear hb); (try clear hb2); (try clear hk); (try clear hi)))
      go_roundg k1
      case measure => have := HK1.out; omega
      case rel => exact ⟨(wrap64 (x8_1 + 1)), sr, H', ⟨by have := HK1.out; omega⟩, ⟨sb⟩⟩
     rw [if_neg c5] at H
     exact absurd H (by simp)
    rw [if_neg c4] at H
    exact absurd H (by simp)
   rw [if_neg c3] at H
   have c3b0 := decide_eq_false c3
   clear c3
   obtain rfl := Option.some.inj H
   go_wp2
   go_ret
   exact ⟨sq, sb⟩

/-! ### impl_FinalOf: function 19 -/
def impl_FinalOf.l0 : Nat → List (S37) → List (S37) → Int → Int → Option ((List (S37)))
 | 0, _, _, _, _ => none
 | k + 1, x3, x8, x9, x10 => if x10 < x9 then (if 0 ≤ x10 then (if x10 < (x8.length : Int) then ((impl_Assignment__impl_FinalOf_1.f k x3 [(⟨(rd_T37 x8 x10).f0, (rd_T37 x8 x10).f1, (rd_T37 x8 x10).f2, (rd_T37 x8 x10).f3⟩ : S37)]).bind fun t136 => (if t136 < 0 then (if x3.length < 2932031007402 then (impl_FinalOf.l0 k (x3 ++ [(⟨(rd_T37 x8 x10).f0, (rd_T37 x8 x10).f1, (rd_T37 x8 x10).f2, (rd_T37 x8 x10).f3⟩ : S37)]) x8 x9 (wrap64 (x10 + 1))) else (none)) else (if 0 ≤ t136 then (if t136 < (x3.length : Int) then (impl_FinalOf.l0 k (x3.set (t136 : Int).toNat (⟨(rd_T37 x8 x10).f0, (rd_T37 x8 x10).f1, (rd_T37 x8 x10).f2, (rd_T37 x8 x10).f3⟩ : S37)) x8 x9 (wrap64 (x10 + 1))) else (none)) else (none)))) else (none)) else (none)) else (some x3)
def impl_FinalOf.f (k : Nat) (l0 : List (S37)) : Option ((List (S37))) := impl_FinalOf.l0 k (([] : List (S37))) l0 (l0.length : Int) 0
set_option maxHeartbeats 8000000 in
set_option maxRecDepth 100000 in
theorem impl_FinalOf.calls (k : Nat) (A0 : Option Addr) (c0 : Nat) (l0 : List (S37)) (r : List (S37)) (w : World) (hr0 : Kd.C k37 w A0 l0.length l0) (hc0 : l0.length ≤ c0) (h : impl_FinalOf.f k l0 = some r) :
  Calls Try.prog 19 #[.slice A0 l0.length c0] w fun e w' => ∃ v0_ : Value, e = .returned (v0_) ∧ Kd.R k37 37 w' w.heap.size (fun _ => True) v0_ r ∧ Below w.heap.size w w' := by
 have hu37 := Try.underlying37
 have HR0 := Aside0.mk hr0
 have HC0 := Aside0.mk hc0
 clear hr0 hc0
 have HB := Aside0.mk (Below.refl w.heap.size w)
 have H : (impl_FinalOf.l0 k (([] : List (S37))) l0 (l0.length : Int) 0) = some r := h
 clear h
 obtain ⟨y131, hy131⟩ : ∃ y_ : List (S37), y_ = (([] : List (S37))) := ⟨_, rfl⟩
 replace H : (impl_FinalOf.l0 k y131 l0 (l0.length : Int) 0) = some r := by first | (rw [hy131]; with_reducible exact H) | (have H2_ := (Option.bind_some _ _).symm.trans H; rw [hy131]; with_reducible exact H2_) | (have H2_ := (Option.bind_some _ _).symm.trans H; with_reducible exact H2_) | with_reducible exact H | (rw [hy131]; exact H) | exact H
 have Ny131 := Aside0.mk hy131
 clear hy131
 have H' := Aside0.mk H
 clear H
 go_enter Try.func19, Try.ntmps19
 go_wp2_with (first | ((with_reducible refine gate_dst (N := 7) rfl ?_); refine Kd.R_lit k37 _ 37 ?hg (N := 7) ?hd (xs := ([] : List (S37))) (inner := []) (ok := fun _ => True) (okp := fun _ => True) ?hr ?hp (fun _ hk => hk) trivial (Below.refl _ _) (Nat.le_refl _) (by simp) ?_; (case hd => rfl); (case hg => rfl); (case hr => first | (go_simp; done) | (go_simp; rfl)); (case hp => exact (Reps.none _ _)); intro v132 w2 ho3 hb hg_ hnew_; clear hg_ hnew_; (first | rw [← Ny131.out] at ho3 | (simp only [Int.reduceToNat] at ho3; rw [← Ny131.out] at ho3)); have n0_ := Aside0.mk (Kd.R_lower ho3 (below_size (sH HB.out))); have n1_ := sB HB hb; clear HB; have HO133 := n0_; have HB := n1_; clear n0_ n1_; clear hb ho3))
 go_loopg [3, 10] k (fun kq v3 v10 w' => ∃ (x3_1 : List (S37)) (x10_1 : Int), v10 = .int .i64 x10_1 ∧ Aside0 (impl_FinalOf.l0 kq x3_1 l0 (l0.length : Int) x10_1 = some r) ∧ Aside0 (kq ≤ k) ∧ Aside0 (Kd.R k37 37 w' w.heap.size (fun _ => True) v3 x3_1) ∧ Aside0 (Below w.heap.size w w'))
 case atStart => exact ⟨(y131), (0), sr, H', ⟨Nat.le_refl _⟩, ⟨by exact sE HO133.out⟩, ⟨sb⟩⟩
 case round =>
  clear H'
  try clear c1
  try clear p2
  obtain ⟨x3_1, x10_1, rfl, HA, HK1, HO_3, HB⟩ := hrel
  cases gk with
  | zero => exact absurd HA.out (by simp [impl_FinalOf.l0])
  | succ k1 =>
   have H := HA.out
   clear HA
   simp only [impl_FinalOf.l0] at H
   by_cases c4 : x10_1 < (l0.length : Int)
   ·rw [if_pos c4] at H
    have c4b0 := decide_eq_true c4
    clear c4
    by_cases c5 : 0 ≤ x10_1
    ·rw [if_pos c5] at H
     have c5b0 := decide_eq_true c5
     clear c5
     by_cases c6 : x10_1 < (l0.length : Int)
     ·rw [if_pos c6] at H
      have c6b0 := decide_eq_true c6
      clear c6
      obtain ⟨t136, A7, H⟩ := sO H
      by_cases c8 : t136 < 0
      ·rw [if_pos c8] at H
       have c8b0 := decide_eq_true c8
       clear c8
       by_cases c9 : x3_1.length < 2932031007402
       ·rw [if_pos c9] at H
        have LMc9 := Aside0.mk c9
        clear c9
        obtain ⟨y137, hy137⟩ : ∃ y_ : List (S37), y_ = (x3_1 ++ [(⟨(rd_T37 l0 x10_1).f0, (rd_T37 l0 x10_1).f1, (rd_T37 l0 x10_1).f2, (rd_T37 l0 x10_1).f3⟩ : S37)]) := ⟨_, rfl⟩
        replace H : (impl_FinalOf.l0 k1 y137 l0 (l0.length : Int) (wrap64 (x10_1 + 1))) = some r := by first | (rw [hy137]; with_reducible exact H) | (have H2_ := (Option.bind_some _ _).symm.trans H; rw [hy137]; with_reducible exact H2_) | (have H2_ := (Option.bind_some _ _).symm.trans H; with_reducible exact H2_) | with_reducible exact H | (rw [hy137]; exact H) | exact H
        have Ny137 := Aside0.mk hy137
        clear hy137
        have H' := Aside0.mk H
        clear H
        have p134 : 0 ≤ (x10_1 : Int) := of_decide_eq_true (by first | (with_reducible assumption) | assumption)
        have q134 : x10_1 < (l0.length : Int) := of_decide_eq_true (by first | (with_reducible assumption) | assumption)
        obtain ⟨ad134, e134, hx134_0, hx134_1, hx134_2, hx134_3⟩ := at_T37 HR0.out x10_1 p134 q134
        cases e134
        replace hx134_0 := sX HB hx134_0
        replace hx134_1 := sX HB hx134_1
        replace hx134_2 := sX HB hx134_2
        replace hx134_3 := sX HB hx134_3
        replace p134 := eq_true p134
        replace q134 := eq_true q134
        go_wp2_with (first | ((with_reducible refine gate_dst (N := 5) rfl ?_); refine sV (N := 5) (cs := #[.string (⟨#[]⟩ : ByteArray), .string (⟨#[]⟩ : ByteArray), .bool false, .int .i64 0]) (t := 37) ?_; intro gb135 hg w10 hbox hb; have n0_ := Aside0.mk (Kd.R_below (Kd.R_elderB (sE HO_3.out) gb135 (Nat.le_of_eq hg.symm)) hb); have n1_ := sB HB hb; have n2_ := Aside0.mk (hbox); have n3_ := sG HB hg; have n4_ := sG HB hg; clear HO_3; clear HB; have HO_3 := n0_; have HB := n1_; have BK135 := n2_; have GW135 := n3_; have GE135 := n4_; clear n0_ n1_ n2_ n3_ n4_; clear hb hbox hg; obtain ⟨hcz11_0, hcz11_1, hcz11_2, hcz11_3, hfz11_0, hfz11_1, hfz11_2, hfz11_3⟩ := cells4 BK135.out; obtain ⟨Ao12, co12, eo12⟩ := Kd.R_slice HO_3.out; subst eo12) | ((with_reducible refine gate_callee (f := 65) rfl ?_); refine sC (some 16) Try.func65 #[.slice Ao12 x3_1.length co12, .func (.func 66) #[] #[.pointer (some ⟨gb135, 0, none⟩)]] (impl_Assignment__impl_FinalOf_1.calls k1 _ _ x3_1 _ [(⟨(rd_T37 l0 x10_1).f0, (rd_T37 l0 x10_1).f1, (rd_T37 l0 x10_1).f2, (rd_T37 l0 x10_1).f3⟩ : S37)] t136 _ ?side1 ?side2 ?side3 A7.out) ?_; (case side1 => refine (Kd.R_reads' (e := 37) (base := w.heap.size) (ok := fun k_ => (True ∧ k_ ≠ gb135)) (n := x3_1.length) (c := co12) ?_).2.2; exact (by (with_reducible repeat (first | apply Kd.R_alloc | apply Kd.R_drewN | apply Kd.R_drew)); exact (Kd.R_mono (Kd.R_far (p := ⟨gb135, 3, none⟩) (Kd.R_far (p := ⟨gb135, 2, none⟩) (Kd.R_far (p := ⟨gb135, 1, none⟩) (Kd.R_far (p := ⟨gb135, 0, none⟩) (Kd.R_mono HO_3.out (fun k_ hk => (⟨hk, hk.2⟩ : _ ∧ k_ ≠ gb135))) (fun _ hk => hk.2) (.string ((rd_T37 l0 x10_1).f0))) (fun _ hk => hk.2) (.string ((rd_T37 l0 x10_1).f1))) (fun _ hk => hk.2) (.bool ((rd_T37 l0 x10_1).f2))) (fun _ hk => hk.2) (.int .i64 ((rd_T37 l0 x10_1).f3))) (fun _ h_ => h_.1)))); (case side2 => exact (Kd.R_reads' HO_3.out).2.1); (case side3 => exact C_box (t := 37) (by exact sP4 (sT BK135.out)) (k37_mk _ (⟨(rd_T37 l0 x10_1).f0, (rd_T37 l0 x10_1).f1, (rd_T37 l0 x10_1).f2, (rd_T37 l0 x10_1).f3⟩ : S37) )); rintro e w13 ⟨rfl, hb⟩; refine ⟨_, rfl, ?_⟩; have n0_ := Aside0.mk (Kd.R_below (by (with_reducible repeat (first | apply Kd.R_alloc | apply Kd.R_drewN | apply Kd.R_drew)); exact (Kd.R_mono (Kd.R_far (p := ⟨gb135, 3, none⟩) (Kd.R_far (p := ⟨gb135, 2, none⟩) (Kd.R_far (p := ⟨gb135, 1, none⟩) (Kd.R_far (p := ⟨gb135, 0, none⟩) (Kd.R_mono HO_3.out (fun k_ hk => (⟨hk, hk.2⟩ : _ ∧ k_ ≠ gb135))) (fun _ hk => hk.2) (.string ((rd_T37 l0 x10_1).f0))) (fun _ hk => hk.2) (.string ((rd_T37 l0 x10_1).f1))) (fun _ hk => hk.2) (.bool ((rd_T37 l0 x10_1).f2))) (fun _ hk => hk.2) (.int .i64 ((rd_T37 l0 x10_1).f3))) (fun _ h_ => h_.1))) hb); have n1_ := Aside0.mk (blk_below (g := gb135) (o := .cells #[.string ((rd_T37 l0 x10_1).f0), .string ((rd_T37 l0 x10_1).f1), .bool ((rd_T37 l0 x10_1).f2), .int .i64 ((rd_T37 l0 x10_1).f3)] 37 (0, 0)) (by exact sP4 (sT BK135.out)) hb); have n2_ := sB HB hb; clear HO_3; clear BK135; clear HB; have HO_3 := n0_; have BK135 := n1_; have HB := n2_; clear n0_ n1_ n2_; (try clear hb); (try clear hb2); (try clear hk); (try clear hi); obtain ⟨hcz14_0, hcz14_1, hcz14_2, hcz14_3, hfz14_0, hfz14_1, hfz14_2, hfz14_3⟩ := cells4 BK135.out) | ((with_reducible refine gate_builtin (b := .append) (xs := #[.tmp 19, .tmp 21]) rfl ?_); at_builtin; refine Kd.R_append k37 (w0 := w) w.heap.size rfl (.tmp 19) (.tmp 21) 32 37 (.agg #[(.string ⟨#[]⟩), (.string ⟨#[]⟩), (.bool false), (.int .i64 0)]) 48 rfl Try.underlying32 info37 rfl (by decide) (by omega) (.slice Ao12 x3_1.length co12) x3_1 (⟨(rd_T37 l0 x10_1).f0, (rd_T37 l0 x10_1).f1, (rd_T37 l0 x10_1).f2, (rd_T37 l0 x10_1).f3⟩ : S37) [.string ((rd_T37 l0 x10_1).f0), .string ((rd_T37 l0 x10_1).f1), .bool ((rd_T37 l0 x10_1).f2), .int .i64 ((rd_T37 l0 x10_1).f3)] (fun k_ => k_ ≠ gb135) (fun _ => False) rfl rfl ?aP (fun _ hk => hk.elim) ?aF ?aO ?aB ?aS ?aL ?_; (case aP => exact k37_mkM _ _ _ (⟨(rd_T37 l0 x10_1).f0, (rd_T37 l0 x10_1).f1, (rd_T37 l0 x10_1).f2, (rd_T37 l0 x10_1).f3⟩ : S37)); (case aB => exact (by repeat (first | (with_reducible first | exact HB.out | apply below_alloc | apply pw_below_drewN | apply below_drew1 | refine below_set ?_ GE135.out) | exact HB.out))); (case aF => exact (fun k_ hk => Kd.freshB (g := gb135) (o := .cells #[.string ((rd_T37 l0 x10_1).f0), .string ((rd_T37 l0 x10_1).f1), .bool ((rd_T37 l0 x10_1).f2), .int .i64 ((rd_T37 l0 x10_1).f3)] 37 (0, 0)) (sT BK135.out) k_ hk)); (case aO => exact (by (with_reducible repeat (first | apply Kd.R_alloc | apply Kd.R_drewN | apply Kd.R_drew)); exact Kd.R_mono HO_3.out (fun _ hk => hk.2))); (case aS => exact (below_size (by repeat (first | (with_reducible first | exact HB.out | apply below_alloc | apply pw_below_drewN | apply below_drew1 | refine below_set ?_ GE135.out) | exact HB.out)))); (case aL => have := LMc9.out; omega); intro v138 w15 ho hb hg hat; rw [← Ny137.out] at ho; have n0_ := Aside0.mk (blk_grown (g := gb135) (o := .cells #[.string ((rd_T37 l0 x10_1).f0), .string ((rd_T37 l0 x10_1).f1), .bool ((rd_T37 l0 x10_1).f2), .int .i64 ((rd_T37 l0 x10_1).f3)] 37 (0, 0)) (sT BK135.out) hg (Kd.R_away HO_3.out (fun _ hk => hk.2))); have n1_ := Aside0.mk (hb); have n2_ := Aside0.mk (ho); clear BK135; clear HB; clear HO_3; have BK135 := n0_; have HB := n1_; have HO139 := n2_; clear n0_ n1_ n2_; clear ho hb hg hat))
        go_roundg k1
        case measure => have := HK1.out; omega
        case rel => exact ⟨(y137), (wrap64 (x10_1 + 1)), sr, H', ⟨by have := HK1.out; omega⟩, ⟨by (with_reducible repeat (first | apply Kd.R_alloc | apply Kd.R_drewN | apply Kd.R_drew)); exact Kd.R_mono HO139.out (fun _ hk => trivial)⟩, ⟨sb⟩⟩
       rw [if_neg c9] at H
       exact absurd H (by simp)
      rw [if_neg c8] at H
      have c8b0 := decide_eq_false c8
      clear c8
      by_cases c16 : 0 ≤ t136
      ·rw [if_pos c16] at H
       have c16b0 := decide_eq_true c16
       clear c16
       by_cases c17 : t136 < (x3_1.length : Int)
       ·rw [if_pos c17] at H
        have c17b0 := decide_eq_true c17
        clear c17
        obtain ⟨y140, hy140⟩ : ∃ y_ : List (S37), y_ = (x3_1.set (t136 : Int).toNat (⟨(rd_T37 l0 x10_1).f0, (rd_T37 l0 x10_1).f1, (rd_T37 l0 x10_1).f2, (rd_T37 l0 x10_1).f3⟩ : S37)) := ⟨_, rfl⟩
        replace H : (impl_FinalOf.l0 k1 y140 l0 (l0.length : Int) (wrap64 (x10_1 + 1))) = some r := by first | (rw [hy140]; with_reducible exact H) | (have H2_ := (Option.bind_some _ _).symm.trans H; rw [hy140]; with_reducible exact H2_) | (have H2_ := (Option.bind_some _ _).symm.trans H; with_reducible exact H2_) | with_reducible exact H | (rw [hy140]; exact H) | exact H
        have Ny140 := Aside0.mk hy140
        clear hy140
        have H' := Aside0.mk H
        clear H
        have p134 : 0 ≤ (x10_1 : Int) := of_decide_eq_true (by first | (with_reducible assumption) | assumption)
        have q134 : x10_1 < (l0.length : Int) := of_decide_eq_true (by first | (with_reducible assumption) | assumption)
        obtain ⟨ad134, e134, hx134_0, hx134_1, hx134_2, hx134_3⟩ := at_T37 HR0.out x10_1 p134 q134
        cases e134
        replace hx134_0 := sX HB hx134_0
        replace hx134_1 := sX HB hx134_1
        replace hx134_2 := sX HB hx134_2
        replace hx134_3 := sX HB hx134_3
        replace p134 := eq_true p134
        replace q134 := eq_true q134
        go_wp2_with (first | ((with_reducible refine gate_dst (N := 5) rfl ?_); refine sV (N := 5) (cs := #[.string (⟨#[]⟩ : ByteArray), .string (⟨#[]⟩ : ByteArray), .bool false, .int .i64 0]) (t := 37) ?_; intro gb135 hg w19 hbox hb; have n0_ := Aside0.mk (Kd.R_below (Kd.R_elderB (sE HO_3.out) gb135 (Nat.le_of_eq hg.symm)) hb); have n1_ := sB HB hb; have n2_ := Aside0.mk (hbox); have n3_ := sG HB hg; have n4_ := sG HB hg; clear HO_3; clear HB; have HO_3 := n0_; have HB := n1_; have BK135 := n2_; have GW135 := n3_; have GE135 := n4_; clear n0_ n1_ n2_ n3_ n4_; clear hb hbox hg; obtain ⟨hcz20_0, hcz20_1, hcz20_2, hcz20_3, hfz20_0, hfz20_1, hfz20_2, hfz20_3⟩ := cells4 BK135.out; obtain ⟨Ao21, co21, eo21⟩ := Kd.R_slice HO_3.out; subst eo21) | ((with_reducible refine gate_callee (f := 65) rfl ?_); refine sC (some 16) Try.func65 #[.slice Ao21 x3_1.length co21, .func (.func 66) #[] #[.pointer (some ⟨gb135, 0, none⟩)]] (impl_Assignment__impl_FinalOf_1.calls k1 _ _ x3_1 _ [(⟨(rd_T37 l0 x10_1).f0, (rd_T37 l0 x10_1).f1, (rd_T37 l0 x10_1).f2, (rd_T37 l0 x10_1).f3⟩ : S37)] t136 _ ?side1 ?side2 ?side3 A7.out) ?_; (case side1 => refine (Kd.R_reads' (e := 37) (base := w.heap.size) (ok := fun k_ => (True ∧ k_ ≠ gb135)) (n := x3_1.length) (c := co21) ?_).2.2; exact (by (with_reducible repeat (first | apply Kd.R_alloc | apply Kd.R_drewN | apply Kd.R_drew)); exact (Kd.R_mono (Kd.R_far (p := ⟨gb135, 3, none⟩) (Kd.R_far (p := ⟨gb135, 2, none⟩) (Kd.R_far (p := ⟨gb135, 1, none⟩) (Kd.R_far (p := ⟨gb135, 0, none⟩) (Kd.R_mono HO_3.out (fun k_ hk => (⟨hk, hk.2⟩ : _ ∧ k_ ≠ gb135))) (fun _ hk => hk.2) (.string ((rd_T37 l0 x10_1).f0))) (fun _ hk => hk.2) (.string ((rd_T37 l0 x10_1).f1))) (fun _ hk => hk.2) (.bool ((rd_T37 l0 x10_1).f2))) (fun _ hk => hk.2) (.int .i64 ((rd_T37 l0 x10_1).f3))) (fun _ h_ => h_.1)))); (case side2 => exact (Kd.R_reads' HO_3.out).2.1); (case side3 => exact C_box (t := 37) (by exact sP4 (sT BK135.out)) (k37_mk _ (⟨(rd_T37 l0 x10_1).f0, (rd_T37 l0 x10_1).f1, (rd_T37 l0 x10_1).f2, (rd_T37 l0 x10_1).f3⟩ : S37) )); rintro e w22 ⟨rfl, hb⟩; refine ⟨_, rfl, ?_⟩; have n0_ := Aside0.mk (Kd.R_below (by (with_reducible repeat (first | apply Kd.R_alloc | apply Kd.R_drewN | apply Kd.R_drew)); exact (Kd.R_mono (Kd.R_far (p := ⟨gb135, 3, none⟩) (Kd.R_far (p := ⟨gb135, 2, none⟩) (Kd.R_far (p := ⟨gb135, 1, none⟩) (Kd.R_far (p := ⟨gb135, 0, none⟩) (Kd.R_mono HO_3.out (fun k_ hk => (⟨hk, hk.2⟩ : _ ∧ k_ ≠ gb135))) (fun _ hk => hk.2) (.string ((rd_T37 l0 x10_1).f0))) (fun _ hk => hk.2) (.string ((rd_T37 l0 x10_1).f1))) (fun _ hk => hk.2) (.bool ((rd_T37 l0 x10_1).f2))) (fun _ hk => hk.2) (.int .i64 ((rd_T37 l0 x10_1).f3))) (fun _ h_ => h_.1))) hb); have n1_ := Aside0.mk (blk_below (g := gb135) (o := .cells #[.string ((rd_T37 l0 x10_1).f0), .string ((rd_T37 l0 x10_1).f1), .bool ((rd_T37 l0 x10_1).f2), .int .i64 ((rd_T37 l0 x10_1).f3)] 37 (0, 0)) (by exact sP4 (sT BK135.out)) hb); have n2_ := sB HB hb; clear HO_3; clear BK135; clear HB; have HO_3 := n0_; have BK135 := n1_; have HB := n2_; clear n0_ n1_ n2_; (try clear hb); (try clear hb2); (try clear hk); (try clear hi); obtain ⟨hcz23_0, hcz23_1, hcz23_2, hcz23_3, hfz23_0, hfz23_1, hfz23_2, hfz23_3⟩ := cells4 BK135.out; have p18 : 0 ≤ (t136 : Int) := of_decide_eq_true (by first | (with_reducible assumption) | assumption); have q18 : (t136 : Int) < ((x3_1.length : Int) : Int) := of_decide_eq_true (by first | (with_reducible assumption) | assumption); obtain ⟨go18, co18, eo18, gb18, gl18, cl18, HG18⟩ := Kd.R_form HO_3.out (by omega); (first | cases eo18 | (injection eo18 with ea_ en_ ec_; (first | subst ea_ | (injection ea_ with ea_; subst ea_)); subst ec_; clear en_)); have GB18 := Aside0.mk gb18; have GG18 := Aside0.mk HG18; clear gb18 gl18 HG18; obtain ⟨ce18, hcl18, hM18, hcc18, hfr18⟩ := Kd.R_elem HO_3.out z37 (t136 : Int) p18 q18; obtain rfl := k37_openM hM18; have hx18_0 : w22.cell? ⟨go18, (t136 : Int).toNat * 4, none⟩ = some (.string ((rd_T37 x3_1 t136).f0)) := hcc18 0 _ rfl; have hx18_1 : w22.cell? ⟨go18, (t136 : Int).toNat * 4 + 1, none⟩ = some (.string ((rd_T37 x3_1 t136).f1)) := hcc18 1 _ rfl; have hx18_2 : w22.cell? ⟨go18, (t136 : Int).toNat * 4 + 2, none⟩ = some (.bool ((rd_T37 x3_1 t136).f2)) := hcc18 2 _ rfl; have hx18_3 : w22.cell? ⟨go18, (t136 : Int).toNat * 4 + 3, none⟩ = some (.int .i64 ((rd_T37 x3_1 t136).f3)) := hcc18 3 _ rfl; have hf18_0 : w22.frozen? ⟨go18, (t136 : Int).toNat * 4, none⟩ = false := hfr18 0; have hf18_1 : w22.frozen? ⟨go18, (t136 : Int).toNat * 4 + 1, none⟩ = false := hfr18 1; have hf18_2 : w22.frozen? ⟨go18, (t136 : Int).toNat * 4 + 2, none⟩ = false := hfr18 2; have hf18_3 : w22.frozen? ⟨go18, (t136 : Int).toNat * 4 + 3, none⟩ = false := hfr18 3; clear hcl18 hcc18 hfr18 hM18; replace p18 := eq_true p18; replace q18 := eq_true q18; have n_ := Aside0.mk (Kd.R_mono (ok' := (fun k_ => k_ ≠ gb135)) HO_3.out (fun k_ hk => hk.2)); clear HO_3; have HO_3 := n_; clear n_; have HX24 := Aside0.mk (show Kd.R k37 37 w22 w.heap.size (fun k_ => k_ ≠ gb135) (.slice (some ⟨go18, 0, none⟩) x3_1.length co21) x3_1 from (sE HO_3.out)); obtain ⟨ce24, hcl24, hM24, hcc24, hfr24⟩ := Kd.R_elem HX24.out z37 (t136 : Int) (of_decide_eq_true (by first | (with_reducible assumption) | assumption)) (by have h_ : (t136 : Int) < ((x3_1.length : Int) : Int) := of_decide_eq_true (by first | (with_reducible assumption) | assumption); first | exact h_ | (have e_ := (Kd.R_reads' HO_3.out).1; omega) | simpa using h_); obtain rfl := k37_openM hM24; have HP24 := Kd.R_seg HX24.out (t136 : Int) (of_decide_eq_true (by first | (with_reducible assumption) | assumption)) (by have h_ : (t136 : Int) < ((x3_1.length : Int) : Int) := of_decide_eq_true (by first | (with_reducible assumption) | assumption); first | exact h_ | (have e_ := (Kd.R_reads' HO_3.out).1; omega) | simpa using h_) (seg := [.string ((rd_T37 l0 x10_1).f0), .string ((rd_T37 l0 x10_1).f1), .bool ((rd_T37 l0 x10_1).f2), .int .i64 ((rd_T37 l0 x10_1).f3)]) (j := 0) hcl24 hcc24 (show 4 ≤ 4 from by decide) (x' := (⟨(rd_T37 l0 x10_1).f0, (rd_T37 l0 x10_1).f1, (rd_T37 l0 x10_1).f2, (rd_T37 l0 x10_1).f3⟩ : S37)) (k37_mkM _ _ _ (⟨(rd_T37 l0 x10_1).f0, (rd_T37 l0 x10_1).f1, (rd_T37 l0 x10_1).f2, (rd_T37 l0 x10_1).f3⟩ : S37) ) (fun _ hk => hk); have hx24_0 := hcc24 0 _ rfl; (try simp only [show (k37).sz = 4 from rfl, Nat.mul_one, Nat.add_zero] at hx24_0); have hf24_0 := hfr24 0; (try simp only [show (k37).sz = 4 from rfl, Nat.mul_one, Nat.add_zero] at hf24_0); have hx24_1 := hcc24 1 _ rfl; (try simp only [show (k37).sz = 4 from rfl, Nat.mul_one, Nat.add_zero] at hx24_1); have hf24_1 := hfr24 1; (try simp only [show (k37).sz = 4 from rfl, Nat.mul_one, Nat.add_zero] at hf24_1); have hx24_2 := hcc24 2 _ rfl; (try simp only [show (k37).sz = 4 from rfl, Nat.mul_one, Nat.add_zero] at hx24_2); have hf24_2 := hfr24 2; (try simp only [show (k37).sz = 4 from rfl, Nat.mul_one, Nat.add_zero] at hf24_2); have hx24_3 := hcc24 3 _ rfl; (try simp only [show (k37).sz = 4 from rfl, Nat.mul_one, Nat.add_zero] at hx24_3); have hf24_3 := hfr24 3; (try simp only [show (k37).sz = 4 from rfl, Nat.mul_one, Nat.add_zero] at hf24_3); clear hcl24 hcc24 hfr24 hM24) | ((with_reducible refine gate_store (t := 37) (p := 26) rfl ?_); refine store_event (t := 37) (p := 26) (v := ?vo_w25) (w1 := ((((w22.setCell ⟨go18, (t136 : Int).toNat * 4, none⟩ (.string ((rd_T37 l0 x10_1).f0))).setCell ⟨go18, (t136 : Int).toNat * 4 + 1, none⟩ (.string ((rd_T37 l0 x10_1).f1))).setCell ⟨go18, (t136 : Int).toNat * 4 + 2, none⟩ (.bool ((rd_T37 l0 x10_1).f2))).setCell ⟨go18, (t136 : Int).toNat * 4 + 3, none⟩ (.int .i64 ((rd_T37 l0 x10_1).f3)))) ?hg ?ho ?hn ?hr ?_; (case ho => rfl); (case hg => rfl); (case hn => rfl); (case hr => first | (go_simp; done) | (go_simp; rfl)); intro w25 hw; have hg : w22.grownBy w25 (some go18) := (by rw [hw]; exact HP24.2); have hp_ : Kd.R k37 37 w25 w.heap.size (fun k_ => k_ ≠ gb135) (.slice (some ⟨go18, 0, none⟩) x3_1.length co21) y140 := (by rw [hw, Ny140.out]; exact HP24.1); clear HP24; have n0_ := Aside0.mk (hp_); have n1_ := Aside0.mk (blk_grown (g := gb135) (o := .cells #[.string ((rd_T37 l0 x10_1).f0), .string ((rd_T37 l0 x10_1).f1), .bool ((rd_T37 l0 x10_1).f2), .int .i64 ((rd_T37 l0 x10_1).f3)] 37 (0, 0)) (sT BK135.out) hg (Kd.R_away HO_3.out (fun _ hk => hk))); have n2_ := Aside0.mk ((by rw [hw]; exact below_set (below_set (below_set (below_set (HB.out) GB18.out) GB18.out) GB18.out) GB18.out : Below w.heap.size w w25)); clear HO_3; clear BK135; clear HB; have HO_3 := n0_; have BK135 := n1_; have HB := n2_; clear n0_ n1_ n2_; clear hg hw hp_))
        go_roundg k1
        case measure => have := HK1.out; omega
        case rel => exact ⟨(y140), (wrap64 (x10_1 + 1)), sr, H', ⟨by have := HK1.out; omega⟩, ⟨by (with_reducible repeat (first | apply Kd.R_alloc | apply Kd.R_drewN | apply Kd.R_drew)); exact Kd.R_mono HO_3.out (fun _ hk => trivial)⟩, ⟨sb⟩⟩
       rw [if_neg c17] at H
       exact absurd H (by simp)
      rw [if_neg c16] at H
      exact absurd H (by simp)
     rw [if_neg c6] at H
     exact absurd H (by simp)
    rw [if_neg c5] at H
    exact absurd H (by simp)
   rw [if_neg c4] at H
   have c4b0 := decide_eq_false c4
   clear c4
   obtain rfl := Option.some.inj H
   go_wp2
   go_ret
   exact ⟨_, sq, by exact sE HO_3.out, sb⟩
end Go.Proofs.Ytabbpnkbhapibaa.PFnExactFinalOf
