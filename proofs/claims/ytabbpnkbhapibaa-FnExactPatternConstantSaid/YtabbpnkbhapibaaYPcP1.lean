/- Printed functions: spec_l17At, spec_PatternConstant. -/
import Derived.Test.YtabbpnkbhapibaaYPcP0
namespace Go.Proofs.Ytabbpnkbhapibaa.PFnExactPatternConstant
open Go.RowKit Go.Proofs.YtabbpnkbhapibaaG Go.Proofs.YtabbpnkbhapibaaW.PrintWords Go.Proofs.YtabbpnkbhapibaaW.PrintLast Go.Proofs.YtabbpnkbhapibaaW.PrintMore
attribute [local go_sem] max2_int min2_int max_two min_two max_three min_three max_four min_four   -- for this text's walks alone
set_option linter.unusedVariables false
set_option linter.unusedSimpArgs false
/-! ### spec_l17At: function 67 -/
def spec_l17At.l0 : Nat → List ByteArray → ByteArray → Int → Option (Int)
 | 0, _, _, _ => none
 | k + 1, x0, x1, x5 => if x5 < (x0.length : Int) then (if 0 ≤ x5 then (if (rdOf ByteArray.empty x0 x5).toList = x1.toList then (some x5) else (spec_l17At.l0 k x0 x1 (wrap64 (x5 + 1)))) else (none)) else (some (-1))
def spec_l17At.f (k : Nat) (l0 : List ByteArray) (a1 : ByteArray) : Option (Int) := spec_l17At.l0 k l0 a1 0
set_option maxHeartbeats 8000000 in
set_option maxRecDepth 100000 in
theorem spec_l17At.calls (k : Nat) (A0 : Option Addr) (c0 : Nat) (l0 : List ByteArray) (a1 : ByteArray) (r : Int) (w : World) (hr0 : Kd.C Kd.string w A0 l0.length l0) (hc0 : l0.length ≤ c0) (h : spec_l17At.f k l0 a1 = some r) :
  Calls Try.prog 67 #[.slice A0 l0.length c0, .string a1] w fun e w' => e = .returned (.int .i64 r) ∧ Drawn0 w w' := by
 have HR0 := Aside0.mk hr0
 have HC0 := Aside0.mk hc0
 clear hr0 hc0
 have H : (spec_l17At.l0 k l0 a1 0) = some r := h
 clear h
 have H' := Aside0.mk H
 clear H
 go_enter Try.func67, Try.ntmps67
 go_wp2
 go_loopg [5] k (fun kq v5 w' => ∃ (x5_1 : Int), v5 = .int .i64 x5_1 ∧ Aside0 (spec_l17At.l0 kq l0 a1 x5_1 = some r) ∧ Aside0 (kq ≤ k) ∧ Drawn0 w w')
 case atStart => exact ⟨(0), sr, H', ⟨Nat.le_refl _⟩, by repeat (first | exact Drawn0.refl _ | apply Drawn0.step)⟩
 case round =>
  clear H'
  try clear p2
  obtain ⟨x5_1, rfl, HA, HK1, ⟨m1, rfl⟩⟩ := hrel
  cases gk with
  | zero => exact absurd HA.out (by simp [spec_l17At.l0])
  | succ k1 =>
   have H := HA.out
   clear HA
   simp only [spec_l17At.l0] at H
   by_cases c3 : x5_1 < (l0.length : Int)
   ·rw [if_pos c3] at H
    have c3b0 := decide_eq_true c3
    clear c3
    by_cases c4 : 0 ≤ x5_1
    ·rw [if_pos c4] at H
     have c4b0 := decide_eq_true c4
     clear c4
     by_cases c5 : (rdOf ByteArray.empty l0 x5_1).toList = a1.toList
     ·rw [if_pos c5] at H
      have c5b0 : ((rdOf ByteArray.empty l0 x5_1).toList == a1.toList) = true := beq_iff_eq.mpr c5
      have c5b1 : ((rdOf ByteArray.empty l0 x5_1).toList != a1.toList) = false := bne_eq_false_iff_eq.mpr c5
      clear c5
      obtain rfl := Option.some.inj H
      have p101 : 0 ≤ (x5_1 : Int) := of_decide_eq_true (by first | (with_reducible assumption) | assumption)
      have q101 : x5_1 < (l0.length : Int) := of_decide_eq_true (by first | (with_reducible assumption) | assumption)
      obtain ⟨ad101, e101, hx101_0⟩ := Kd.at_string HR0.out x5_1 p101 q101
      cases e101
      replace p101 := eq_true p101
      replace q101 := eq_true q101
      go_wp2
      go_ret
      exact ⟨by first | rfl | (simp; done) | (simp [*]; done), by repeat (first | exact Drawn0.refl _ | apply Drawn0.step)⟩
     rw [if_neg c5] at H
     have c5b0 : ((rdOf ByteArray.empty l0 x5_1).toList == a1.toList) = false := beq_eq_false_iff_ne.mpr c5
     have c5b1 : ((rdOf ByteArray.empty l0 x5_1).toList != a1.toList) = true := bne_iff_ne.mpr c5
     have H' := Aside0.mk H
     clear H
     have p101 : 0 ≤ (x5_1 : Int) := of_decide_eq_true (by first | (with_reducible assumption) | assumption)
     have q101 : x5_1 < (l0.length : Int) := of_decide_eq_true (by first | (with_reducible assumption) | assumption)
     obtain ⟨ad101, e101, hx101_0⟩ := Kd.at_string HR0.out x5_1 p101 q101
     cases e101
     replace p101 := eq_true p101
     replace q101 := eq_true q101
     go_wp2
     go_roundg k1
     case measure => have := HK1.out; omega
     case rel => exact ⟨(wrap64 (x5_1 + 1)), sr, H', ⟨by have := HK1.out; omega⟩, by repeat (first | exact Drawn0.refl _ | apply Drawn0.step)⟩
    rw [if_neg c4] at H
    exact absurd H (by simp)
   rw [if_neg c3] at H
   have c3b0 := decide_eq_false c3
   clear c3
   obtain rfl := Option.some.inj H
   go_wp2
   go_ret
   exact ⟨by first | rfl | (simp; done) | (simp [*]; done), by repeat (first | exact Drawn0.refl _ | apply Drawn0.step)⟩

/-! ### spec_PatternConstant: function 20 -/
def spec_PatternConstant.f (k : Nat) (a0 : ByteArray) : Option (Int × Int × ByteArray × (List (S41)) × Bool) := (spec_l17At.f k (([(⟨#[82, 69, 77]⟩ : ByteArray), (⟨#[65, 82, 66]⟩ : ByteArray), (⟨#[66, 65, 76]⟩ : ByteArray), (⟨#[70, 69, 78, 67, 69]⟩ : ByteArray), (⟨#[65, 66, 79, 82, 84]⟩ : ByteArray), (⟨#[70, 65, 73, 76]⟩ : ByteArray), (⟨#[83, 85, 67, 67, 69, 69, 68]⟩ : ByteArray)] : List ByteArray)) a0).bind fun t106 => (if t106 < 0 then (some (0, 0, (⟨#[]⟩ : ByteArray), ([] : List (S41)), false)) else (some (wrap64 (11 + t106), 0, (⟨#[]⟩ : ByteArray), ([] : List (S41)), true)))
set_option maxHeartbeats 8000000 in
set_option maxRecDepth 100000 in
theorem spec_PatternConstant.calls (k : Nat) (a0 : ByteArray) (r1 : Int) (r2 : Int) (r3 : ByteArray) (r4 : List (S41)) (r5 : Bool) (w : World) (h : spec_PatternConstant.f k a0 = some (r1, r2, r3, r4, r5)) :
  Calls Try.prog 20 #[.string a0] w fun e w' => ∃ v3_ : Value, e = .returned (.tuple #[.agg #[.int .i64 r1, .int .i64 r2, .string r3, v3_], .bool r5]) ∧ Kd.R k41 41 w' w.heap.size (fun _ => True) v3_ r4 ∧ Below w.heap.size w w' := by
 have hu41 := Try.underlying41
 have HB := Aside0.mk (Below.refl w.heap.size w)
 have H : ((spec_l17At.f k (([(⟨#[82, 69, 77]⟩ : ByteArray), (⟨#[65, 82, 66]⟩ : ByteArray), (⟨#[66, 65, 76]⟩ : ByteArray), (⟨#[70, 69, 78, 67, 69]⟩ : ByteArray), (⟨#[65, 66, 79, 82, 84]⟩ : ByteArray), (⟨#[70, 65, 73, 76]⟩ : ByteArray), (⟨#[83, 85, 67, 67, 69, 69, 68]⟩ : ByteArray)] : List ByteArray)) a0).bind fun t106 => (if t106 < 0 then (some (0, 0, (⟨#[]⟩ : ByteArray), ([] : List (S41)), false)) else (some (wrap64 (11 + t106), 0, (⟨#[]⟩ : ByteArray), ([] : List (S41)), true)))) = some (r1, r2, r3, r4, r5) := h
 clear h
 obtain ⟨y103, hy103⟩ : ∃ y_ : List ByteArray, y_ = (([(⟨#[82, 69, 77]⟩ : ByteArray), (⟨#[65, 82, 66]⟩ : ByteArray), (⟨#[66, 65, 76]⟩ : ByteArray), (⟨#[70, 69, 78, 67, 69]⟩ : ByteArray), (⟨#[65, 66, 79, 82, 84]⟩ : ByteArray), (⟨#[70, 65, 73, 76]⟩ : ByteArray), (⟨#[83, 85, 67, 67, 69, 69, 68]⟩ : ByteArray)] : List ByteArray)) := ⟨_, rfl⟩
 replace H : ((spec_l17At.f k y103 a0).bind fun t106 => (if t106 < 0 then (some (0, 0, (⟨#[]⟩ : ByteArray), ([] : List (S41)), false)) else (some (wrap64 (11 + t106), 0, (⟨#[]⟩ : ByteArray), ([] : List (S41)), true)))) = some (r1, r2, r3, r4, r5) := by first | (rw [hy103]; with_reducible exact H) | (have H2_ := (Option.bind_some _ _).symm.trans H; rw [hy103]; with_reducible exact H2_) | (have H2_ := (Option.bind_some _ _).symm.trans H; with_reducible exact H2_) | with_reducible exact H | (rw [hy103]; exact H) | exact H
 have Ny103 := Aside0.mk hy103
 clear hy103
 obtain ⟨t106, A2, H⟩ := sO H
 by_cases c3 : t106 < 0
 ·rw [if_pos c3] at H
  have c3b0 := decide_eq_true c3
  clear c3
  simp only [Option.some.injEq, Prod.mk.injEq] at H
  obtain ⟨rfl, rfl, rfl, rfl, rfl⟩ := H
  go_enter Try.func20, Try.ntmps20
  go_wp2_with (first | ((with_reducible refine gate_dst (N := 2) rfl ?_); refine sV (N := 2) (cs := #[.int .i64 0, .int .i64 0, .string (⟨#[]⟩ : ByteArray), .slice none 0 0]) (t := 41) ?_; intro gb102 hg w4 hbox hb; have n0_ := sB HB hb; have n1_ := Aside0.mk (hbox); have n2_ := sG HB hg; have n3_ := sG HB hg; clear HB; have HB := n0_; have BK102 := n1_; have GW102 := n2_; have GE102 := n3_; clear n0_ n1_ n2_ n3_; clear hb hbox hg) | ((with_reducible refine gate_dst (N := 5) rfl ?_); refine Kd.R_lit Kd.string _ 9 ?hg (N := 5) ?hd (xs := ([(⟨#[82, 69, 77]⟩ : ByteArray), (⟨#[65, 82, 66]⟩ : ByteArray), (⟨#[66, 65, 76]⟩ : ByteArray), (⟨#[70, 69, 78, 67, 69]⟩ : ByteArray), (⟨#[65, 66, 79, 82, 84]⟩ : ByteArray), (⟨#[70, 65, 73, 76]⟩ : ByteArray), (⟨#[83, 85, 67, 67, 69, 69, 68]⟩ : ByteArray)] : List ByteArray)) (inner := [.string (⟨#[82, 69, 77]⟩ : ByteArray), .string (⟨#[65, 82, 66]⟩ : ByteArray), .string (⟨#[66, 65, 76]⟩ : ByteArray), .string (⟨#[70, 69, 78, 67, 69]⟩ : ByteArray), .string (⟨#[65, 66, 79, 82, 84]⟩ : ByteArray), .string (⟨#[70, 65, 73, 76]⟩ : ByteArray), .string (⟨#[83, 85, 67, 67, 69, 69, 68]⟩ : ByteArray)]) (ok := fun _ => True) (okp := fun _ => True) ?hr ?hp (fun _ hk => hk) trivial (Below.refl _ _) (Nat.le_refl _) (by simp) ?_; (case hd => rfl); (case hg => rfl); (case hr => first | (go_simp; done) | (go_simp; rfl)); (case hp => exact (Reps.one (show Kd.M Kd.string _ _ _ (⟨#[82, 69, 77]⟩ : ByteArray) [.string (⟨#[82, 69, 77]⟩ : ByteArray)] from rfl) (Reps.one (show Kd.M Kd.string _ _ _ (⟨#[65, 82, 66]⟩ : ByteArray) [.string (⟨#[65, 82, 66]⟩ : ByteArray)] from rfl) (Reps.one (show Kd.M Kd.string _ _ _ (⟨#[66, 65, 76]⟩ : ByteArray) [.string (⟨#[66, 65, 76]⟩ : ByteArray)] from rfl) (Reps.one (show Kd.M Kd.string _ _ _ (⟨#[70, 69, 78, 67, 69]⟩ : ByteArray) [.string (⟨#[70, 69, 78, 67, 69]⟩ : ByteArray)] from rfl) (Reps.one (show Kd.M Kd.string _ _ _ (⟨#[65, 66, 79, 82, 84]⟩ : ByteArray) [.string (⟨#[65, 66, 79, 82, 84]⟩ : ByteArray)] from rfl) (Reps.one (show Kd.M Kd.string _ _ _ (⟨#[70, 65, 73, 76]⟩ : ByteArray) [.string (⟨#[70, 65, 73, 76]⟩ : ByteArray)] from rfl) (Reps.one (show Kd.M Kd.string _ _ _ (⟨#[83, 85, 67, 67, 69, 69, 68]⟩ : ByteArray) [.string (⟨#[83, 85, 67, 67, 69, 69, 68]⟩ : ByteArray)] from rfl) (Reps.none _ _))))))))); intro v104 w5 ho6 hb hg_ hnew_; clear hg_ hnew_; (first | rw [← Ny103.out] at ho6 | (simp only [Int.reduceToNat] at ho6; rw [← Ny103.out] at ho6)); have n0_ := Aside0.mk (Kd.R_lower ho6 (below_size (by repeat (first | (with_reducible first | exact HB.out | apply below_alloc | apply pw_below_drewN | apply below_drew1 | refine below_set ?_ GE102.out) | exact HB.out)))); have n1_ := sK BK102 hb; have n2_ := sB HB hb; clear BK102; clear HB; have HO105 := n0_; have BK102 := n1_; have HB := n2_; clear n0_ n1_ n2_; clear hb ho6; obtain ⟨Ao7, co7, eo7⟩ := Kd.R_slice HO105.out; subst eo7) | ((with_reducible refine gate_callee (f := 67) rfl ?_); refine sC (some 7) Try.func67 #[.slice Ao7 y103.length co7, .string a0] (spec_l17At.calls k _ _ y103 a0 t106 _ ?side1 ?side2 A2.out) ?_; (case side1 => exact sD ((Kd.R_reads' HO105.out).2.2)); (case side2 => exact (Kd.R_reads' HO105.out).2.1); rintro e w' ⟨rfl, ⟨nd, rfl⟩⟩; refine ⟨_, rfl, ?_⟩; (try (rw [drewN_self w5]; generalize hq_ : World.drewN w5 _ = w5; have n0_ : Aside0 (Kd.R Kd.string 9 w5 w.heap.size (fun _ => True) (.slice Ao7 y103.length co7) y103) := ⟨by rw [← hq_]; exact (sE HO105.out)⟩; have n1_ : Aside0 (w5.heap[gb102]? = some (.cells #[.int .i64 0, .int .i64 0, .string (⟨#[]⟩ : ByteArray), .slice none 0 0] 41 (0, 0))) := ⟨by rw [← hq_]; exact (sT BK102.out)⟩; have n2_ : Aside0 (Below w.heap.size w w5) := ⟨by rw [← hq_]; exact (by repeat (first | (with_reducible first | exact HB.out | apply below_alloc | apply pw_below_drewN | apply below_drew1 | refine below_set ?_ GE102.out) | exact HB.out))⟩; clear HO105 BK102 HB hq_; have HO105 := n0_; have BK102 := n1_; have HB := n2_; clear n0_ n1_ n2_)); obtain ⟨hcz8_0, hcz8_1, hcz8_2, hcz8_3, hfz8_0, hfz8_1, hfz8_2, hfz8_3⟩ := cells4 BK102.out))
  refine bodyPost_ret (results_ct rfl _ _ gb102 41 #[.int .i64 0, .int .i64 0, .string (⟨#[]⟩ : ByteArray), .slice none 0 0] (0, 0) _ rfl (by exact sP4 (sT BK102.out)) Try.underlying41 rfl (by kernel_rfl)) rfl ?_
  exact ⟨_, sq, by first | exact Kd.R_nil _ _ _ _ _ | exact Kd.N_nil _ _ _ _ _ | exact Kd.V_nil _ _ _ _ _ | exact Kd.Q_nil _ _ _ _ _ | exact Kd.S_nil _ _ _ _ _, sb⟩
 rw [if_neg c3] at H
 have c3b0 := decide_eq_false c3
 clear c3
 simp only [Option.some.injEq, Prod.mk.injEq] at H
 obtain ⟨rfl, rfl, rfl, rfl, rfl⟩ := H
 go_enter Try.func20, Try.ntmps20
 go_wp2_with (first | ((with_reducible refine gate_dst (N := 2) rfl ?_); refine sV (N := 2) (cs := #[.int .i64 0, .int .i64 0, .string (⟨#[]⟩ : ByteArray), .slice none 0 0]) (t := 41) ?_; intro gb102 hg w9 hbox hb; have n0_ := sB HB hb; have n1_ := Aside0.mk (hbox); have n2_ := sG HB hg; have n3_ := sG HB hg; clear HB; have HB := n0_; have BK102 := n1_; have GW102 := n2_; have GE102 := n3_; clear n0_ n1_ n2_ n3_; clear hb hbox hg) | ((with_reducible refine gate_dst (N := 5) rfl ?_); refine Kd.R_lit Kd.string _ 9 ?hg (N := 5) ?hd (xs := ([(⟨#[82, 69, 77]⟩ : ByteArray), (⟨#[65, 82, 66]⟩ : ByteArray), (⟨#[66, 65, 76]⟩ : ByteArray), (⟨#[70, 69, 78, 67, 69]⟩ : ByteArray), (⟨#[65, 66, 79, 82, 84]⟩ : ByteArray), (⟨#[70, 65, 73, 76]⟩ : ByteArray), (⟨#[83, 85, 67, 67, 69, 69, 68]⟩ : ByteArray)] : List ByteArray)) (inner := [.string (⟨#[82, 69, 77]⟩ : ByteArray), .string (⟨#[65, 82, 66]⟩ : ByteArray), .string (⟨#[66, 65, 76]⟩ : ByteArray), .string (⟨#[70, 69, 78, 67, 69]⟩ : ByteArray), .string (⟨#[65, 66, 79, 82, 84]⟩ : ByteArray), .string (⟨#[70, 65, 73, 76]⟩ : ByteArray), .string (⟨#[83, 85, 67, 67, 69, 69, 68]⟩ : ByteArray)]) (ok := fun _ => True) (okp := fun _ => True) ?hr ?hp (fun _ hk => hk) trivial (Below.refl _ _) (Nat.le_refl _) (by simp) ?_; (case hd => rfl); (case hg => rfl); (case hr => first | (go_simp; done) | (go_simp; rfl)); (case hp => exact (Reps.one (show Kd.M Kd.string _ _ _ (⟨#[82, 69, 77]⟩ : ByteArray) [.string (⟨#[82, 69, 77]⟩ : ByteArray)] from rfl) (Reps.one (show Kd.M Kd.string _ _ _ (⟨#[65, 82, 66]⟩ : ByteArray) [.string (⟨#[65, 82, 66]⟩ : ByteArray)] from rfl) (Reps.one (show Kd.M Kd.string _ _ _ (⟨#[66, 65, 76]⟩ : ByteArray) [.string (⟨#[66, 65, 76]⟩ : ByteArray)] from rfl) (Reps.one (show Kd.M Kd.string _ _ _ (⟨#[70, 69, 78, 67, 69]⟩ : ByteArray) [.string (⟨#[70, 69, 78, 67, 69]⟩ : ByteArray)] from rfl) (Reps.one (show Kd.M Kd.string _ _ _ (⟨#[65, 66, 79, 82, 84]⟩ : ByteArray) [.string (⟨#[65, 66, 79, 82, 84]⟩ : ByteArray)] from rfl) (Reps.one (show Kd.M Kd.string _ _ _ (⟨#[70, 65, 73, 76]⟩ : ByteArray) [.string (⟨#[70, 65, 73, 76]⟩ : ByteArray)] from rfl) (Reps.one (show Kd.M Kd.string _ _ _ (⟨#[83, 85, 67, 67, 69, 69, 68]⟩ : ByteArray) [.string (⟨#[83, 85, 67, 67, 69, 69, 68]⟩ : ByteArray)] from rfl) (Reps.none _ _))))))))); intro v104 w10 ho11 hb hg_ hnew_; clear hg_ hnew_; (first | rw [← Ny103.out] at ho11 | (simp only [Int.reduceToNat] at ho11; rw [← Ny103.out] at ho11)); have n0_ := Aside0.mk (Kd.R_lower ho11 (below_size (by repeat (first | (with_reducible first | exact HB.out | apply below_alloc | apply pw_below_drewN | apply below_drew1 | refine below_set ?_ GE102.out) | exact HB.out)))); have n1_ := sK BK102 hb; have n2_ := sB HB hb; clear BK102; clear HB; have HO105 := n0_; have BK102 := n1_; have HB := n2_; clear n0_ n1_ n2_; clear hb ho11; obtain ⟨Ao12, co12, eo12⟩ := Kd.R_slice HO105.out; subst eo12) | ((with_reducible refine gate_callee (f := 67) rfl ?_); refine sC (some 7) Try.func67 #[.slice Ao12 y103.length co12, .string a0] (spec_l17At.calls k _ _ y103 a0 t106 _ ?side1 ?side2 A2.out) ?_; (case side1 => exact sD ((Kd.R_reads' HO105.out).2.2)); (case side2 => exact (Kd.R_reads' HO105.out).2.1); rintro e w' ⟨rfl, ⟨nd, rfl⟩⟩; refine ⟨_, rfl, ?_⟩; (try (rw [drewN_self w10]; generalize hq_ : World.drewN w10 _ = w10; have n0_ : Aside0 (Kd.R Kd.string 9 w10 w.heap.size (fun _ => True) (.slice Ao12 y103.length co12) y103) := ⟨by rw [← hq_]; exact (sE HO105.out)⟩; have n1_ : Aside0 (w10.heap[gb102]? = some (.cells #[.int .i64 0, .int .i64 0, .string (⟨#[]⟩ : ByteArray), .slice none 0 0] 41 (0, 0))) := ⟨by rw [← hq_]; exact (sT BK102.out)⟩; have n2_ : Aside0 (Below w.heap.size w w10) := ⟨by rw [← hq_]; exact (by repeat (first | (with_reducible first | exact HB.out | apply below_alloc | apply pw_below_drewN | apply below_drew1 | refine below_set ?_ GE102.out) | exact HB.out))⟩; clear HO105 BK102 HB hq_; have HO105 := n0_; have BK102 := n1_; have HB := n2_; clear n0_ n1_ n2_)); obtain ⟨hcz13_0, hcz13_1, hcz13_2, hcz13_3, hfz13_0, hfz13_1, hfz13_2, hfz13_3⟩ := cells4 BK102.out))
 refine bodyPost_ret (results_ct rfl _ _ gb102 41 #[.int .i64 (wrap64 (11 + t106)), .int .i64 0, .string (⟨#[]⟩ : ByteArray), .slice none 0 0] (0, 0) _ rfl (by exact sP4 (sT BK102.out)) Try.underlying41 rfl (by kernel_rfl)) rfl ?_
 exact ⟨_, sq, by first | exact Kd.R_nil _ _ _ _ _ | exact Kd.N_nil _ _ _ _ _ | exact Kd.V_nil _ _ _ _ _ | exact Kd.Q_nil _ _ _ _ _ | exact Kd.S_nil _ _ _ _ _, sb⟩
end Go.Proofs.Ytabbpnkbhapibaa.PFnExactPatternConstant
