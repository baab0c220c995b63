/- Printed functions: impl_AssignmentsOf_1, impl_Capture_assignment, impl_assignments__impl_AssignmentsOf_1. -/
import Derived.Test.YtabbpnkbhapibaaYFcP0
namespace Go.Proofs.Ytabbpnkbhapibaa.PFnExactFinalOf
open Go.RowKit Go.Proofs.YtabbpnkbhapibaaG Go.Proofs.YtabbpnkbhapibaaW.PrintWords Go.Proofs.YtabbpnkbhapibaaW.PrintLast Go.Proofs.YtabbpnkbhapibaaW.PrintMore
attribute [local go_sem] max2_int min2_int max_two min_two max_three min_three max_four min_four   -- for this text's walks alone
set_option linter.unusedVariables false
set_option linter.unusedSimpArgs false
/-! ### impl_AssignmentsOf_1: function 63 -/
def impl_AssignmentsOf_1.f (a0_0 : ByteArray) (a0_1 : ByteArray) (a0_2 : Int) (a0_3 : Int) : Option (Bool) := some (a0_3 == 1)
set_option maxHeartbeats 8000000 in
set_option maxRecDepth 100000 in
theorem impl_AssignmentsOf_1.calls (a0_0 : ByteArray) (a0_1 : ByteArray) (a0_2 : Int) (a0_3 : Int) (r : Bool) (w : World) (h : impl_AssignmentsOf_1.f a0_0 a0_1 a0_2 a0_3 = some r) :
  Calls Try.prog 63 #[.agg #[.string a0_0, .string a0_1, .int .i64 a0_2, .int .i64 a0_3]] w fun e w' => e = .returned (.bool r) ∧ Below w.heap.size w w' := by
 have hu35 := Try.underlying35
 have HB := Aside0.mk (Below.refl w.heap.size w)
 have H : (some (a0_3 == 1)) = some r := h
 clear h
 obtain rfl := Option.some.inj H
 go_enter Try.func63, Try.ntmps63
 go_wp2_with (first | ((with_reducible refine gate_dst (N := 1) rfl ?_); refine sV (N := 1) (cs := #[.string a0_0, .string a0_1, .int .i64 a0_2, .int .i64 a0_3]) (t := 35) ?_; intro gb303 hg w2 hbox hb; have n0_ := sB HB hb; have n1_ := Aside0.mk (hbox); have n2_ := sG HB hg; have n3_ := sG HB hg; clear HB; have HB := n0_; have BK303 := n1_; have GW303 := n2_; have GE303 := n3_; clear n0_ n1_ n2_ n3_; clear hb hbox hg; obtain ⟨hcz3_0, hcz3_1, hcz3_2, hcz3_3, hfz3_0, hfz3_1, hfz3_2, hfz3_3⟩ := cells4 BK303.out))
 go_ret
 exact ⟨sq, sb⟩

/-! ### impl_Capture_assignment: function 136 -/
def impl_Capture_assignment.f (a0_0 : ByteArray) (a0_1 : ByteArray) (a0_2 : Int) (a0_3 : Int) : Option (ByteArray × ByteArray × Bool × Int) := if a0_3 = 3 then (some (a0_0, (⟨#[]⟩ : ByteArray), true, a0_2)) else (some (a0_0, a0_1, false, 0))
set_option maxHeartbeats 8000000 in
set_option maxRecDepth 100000 in
theorem impl_Capture_assignment.calls (a0_0 : ByteArray) (a0_1 : ByteArray) (a0_2 : Int) (a0_3 : Int) (r1 : ByteArray) (r2 : ByteArray) (r3 : Bool) (r4 : Int) (w : World) (h : impl_Capture_assignment.f a0_0 a0_1 a0_2 a0_3 = some (r1, r2, r3, r4)) :
  Calls Try.prog 136 #[.agg #[.string a0_0, .string a0_1, .int .i64 a0_2, .int .i64 a0_3]] w fun e w' => e = .returned (.agg #[.string r1, .string r2, .bool r3, .int .i64 r4]) ∧ Below w.heap.size w w' := by
 have hu35 := Try.underlying35
 have hu37 := Try.underlying37
 have HB := Aside0.mk (Below.refl w.heap.size w)
 have H : (if a0_3 = 3 then (some (a0_0, (⟨#[]⟩ : ByteArray), true, a0_2)) else (some (a0_0, a0_1, false, 0))) = some (r1, r2, r3, r4) := h
 clear h
 by_cases c2 : a0_3 = 3
 ·rw [if_pos c2] at H
  have c2b0 : (a0_3 == 3) = true := beq_iff_eq.mpr c2
  have c2b1 : (a0_3 != 3) = false := bne_eq_false_iff_eq.mpr c2
  clear c2
  simp only [Option.some.injEq, Prod.mk.injEq] at H
  obtain ⟨rfl, rfl, rfl, rfl⟩ := H
  go_enter Try.func136, Try.ntmps136
  go_wp2_with (first | ((with_reducible refine gate_dst (N := 1) rfl ?_); refine sV (N := 1) (cs := #[.string a0_0, .string a0_1, .int .i64 a0_2, .int .i64 a0_3]) (t := 35) ?_; intro gb304 hg w3 hbox hb; have n0_ := sB HB hb; have n1_ := Aside0.mk (hbox); have n2_ := sG HB hg; have n3_ := sG HB hg; clear HB; have HB := n0_; have BK304 := n1_; have GW304 := n2_; have GE304 := n3_; clear n0_ n1_ n2_ n3_; clear hb hbox hg) | ((with_reducible refine gate_dst (N := 2) rfl ?_); refine sV (N := 2) (cs := #[.string (⟨#[]⟩ : ByteArray), .string (⟨#[]⟩ : ByteArray), .bool false, .int .i64 0]) (t := 37) ?_; intro gb305 hg w4 hbox hb; have n0_ := sK BK304 hb; have n1_ := sB HB hb; have n2_ := Aside0.mk (hbox); have n3_ := sG HB hg; have n4_ := sG HB hg; have n5_ := sN BK304 hg; have n6_ := sM BK304 hg; clear BK304; clear HB; have BK304 := n0_; have HB := n1_; have BK305 := n2_; have GW305 := n3_; have GE305 := n4_; have NB304_305 := n5_; have NB305_304 := n6_; clear n0_ n1_ n2_ n3_ n4_ n5_ n6_; clear hb hbox hg; have hnb5 := NB304_305.out; have hnc5 := NB305_304.out; obtain ⟨hcz6_0, hcz6_1, hcz6_2, hcz6_3, hfz6_0, hfz6_1, hfz6_2, hfz6_3⟩ := cells4 BK304.out; obtain ⟨hcz7_0, hcz7_1, hcz7_2, hcz7_3, hfz7_0, hfz7_1, hfz7_2, hfz7_3⟩ := cells4 BK305.out))
  refine bodyPost_ret (results_cell_row rfl _ _ gb305 37 #[.string a0_0, .string (⟨#[]⟩ : ByteArray), .bool true, .int .i64 a0_2] (0, 0) _ rfl (by exact sP4 (sT BK305.out)) Try.underlying37 rfl (by kernel_rfl)) rfl ?_
  exact ⟨sq, sb⟩
 rw [if_neg c2] at H
 have c2b0 : (a0_3 == 3) = false := beq_eq_false_iff_ne.mpr c2
 have c2b1 : (a0_3 != 3) = true := bne_iff_ne.mpr c2
 simp only [Option.some.injEq, Prod.mk.injEq] at H
 obtain ⟨rfl, rfl, rfl, rfl⟩ := H
 go_enter Try.func136, Try.ntmps136
 go_wp2_with (first | ((with_reducible refine gate_dst (N := 1) rfl ?_); refine sV (N := 1) (cs := #[.string a0_0, .string a0_1, .int .i64 a0_2, .int .i64 a0_3]) (t := 35) ?_; intro gb304 hg w8 hbox hb; have n0_ := sB HB hb; have n1_ := Aside0.mk (hbox); have n2_ := sG HB hg; have n3_ := sG HB hg; clear HB; have HB := n0_; have BK304 := n1_; have GW304 := n2_; have GE304 := n3_; clear n0_ n1_ n2_ n3_; clear hb hbox hg) | ((with_reducible refine gate_dst (N := 2) rfl ?_); refine sV (N := 2) (cs := #[.string (⟨#[]⟩ : ByteArray), .string (⟨#[]⟩ : ByteArray), .bool false, .int .i64 0]) (t := 37) ?_; intro gb305 hg w9 hbox hb; have n0_ := sK BK304 hb; have n1_ := sB HB hb; have n2_ := Aside0.mk (hbox); have n3_ := sG HB hg; have n4_ := sG HB hg; have n5_ := sN BK304 hg; have n6_ := sM BK304 hg; clear BK304; clear HB; have BK304 := n0_; have HB := n1_; have BK305 := n2_; have GW305 := n3_; have GE305 := n4_; have NB304_305 := n5_; have NB305_304 := n6_; clear n0_ n1_ n2_ n3_ n4_ n5_ n6_; clear hb hbox hg; have hnb10 := NB304_305.out; have hnc10 := NB305_304.out; obtain ⟨hcz11_0, hcz11_1, hcz11_2, hcz11_3, hfz11_0, hfz11_1, hfz11_2, hfz11_3⟩ := cells4 BK304.out; obtain ⟨hcz12_0, hcz12_1, hcz12_2, hcz12_3, hfz12_0, hfz12_1, hfz12_2, hfz12_3⟩ := cells4 BK305.out))
 refine bodyPost_ret (results_cell_row rfl _ _ gb305 37 #[.string a0_0, .string a0_1, .bool false, .int .i64 0] (0, 0) _ rfl (by exact sP4 (sT BK305.out)) Try.underlying37 rfl (by kernel_rfl)) rfl ?_
 exact ⟨sq, sb⟩

/-! ### impl_assignments__impl_AssignmentsOf_1: function 62 -/
def impl_assignments__impl_AssignmentsOf_1.l0 : Nat → List (S37) → List (S35) → Int → Int → Option ((List (S37)))
 | 0, _, _, _, _ => none
 | k + 1, x5, x9, x10, x11 => if x11 < x10 then (if 0 ≤ x11 then (if x11 < (x9.length : Int) then ((impl_AssignmentsOf_1.f ((rd_T35 x9 x11).f0) ((rd_T35 x9 x11).f1) ((rd_T35 x9 x11).f2) ((rd_T35 x9 x11).f3)).bind fun t311 => (if t311 = true then ((impl_Capture_assignment.f ((rd_T35 x9 x11).f0) ((rd_T35 x9 x11).f1) ((rd_T35 x9 x11).f2) ((rd_T35 x9 x11).f3)).bind fun bt312 => (if x5.length < 2932031007402 then (impl_assignments__impl_AssignmentsOf_1.l0 k (x5 ++ [(⟨bt312.1, bt312.2.1, bt312.2.2.1, bt312.2.2.2⟩ : S37)]) x9 x10 (wrap64 (x11 + 1))) else (none))) else (impl_assignments__impl_AssignmentsOf_1.l0 k x5 x9 x10 (wrap64 (x11 + 1))))) else (none)) else (none)) else (some x5)
def impl_assignments__impl_AssignmentsOf_1.f (k : Nat) (l0 : List (S35))  : Option ((List (S37))) := impl_assignments__impl_AssignmentsOf_1.l0 k (([] : List (S37))) l0 (l0.length : Int) 0
set_option maxHeartbeats 8000000 in
set_option maxRecDepth 100000 in
theorem impl_assignments__impl_AssignmentsOf_1.calls (k : Nat) (A0 : Option Addr) (c0 : Nat) (l0 : List (S35))  (r : List (S37)) (w : World) (hr0 : Kd.C k35 w A0 l0.length l0) (hc0 : l0.length ≤ c0) (h : impl_assignments__impl_AssignmentsOf_1.f k l0 = some r) :
  Calls Try.prog 62 #[.slice A0 l0.length c0, .func (.func 63) #[] #[]] w fun e w' => ∃ v0_ : Value, e = .returned (v0_) ∧ Kd.R k37 37 w' w.heap.size (fun _ => True) v0_ r ∧ Below w.heap.size w w' := by
 have hu35 := Try.underlying35
 have HR0 := Aside0.mk hr0
 have HC0 := Aside0.mk hc0
 clear hr0 hc0
 have HB := Aside0.mk (Below.refl w.heap.size w)
 have H : (impl_assignments__impl_AssignmentsOf_1.l0 k (([] : List (S37))) l0 (l0.length : Int) 0) = some r := h
 clear h
 obtain ⟨y306, hy306⟩ : ∃ y_ : List (S37), y_ = (([] : List (S37))) := ⟨_, rfl⟩
 replace H : (impl_assignments__impl_AssignmentsOf_1.l0 k y306 l0 (l0.length : Int) 0) = some r := by first | (rw [hy306]; with_reducible exact H) | (have H2_ := (Option.bind_some _ _).symm.trans H; rw [hy306]; with_reducible exact H2_) | (have H2_ := (Option.bind_some _ _).symm.trans H; with_reducible exact H2_) | with_reducible exact H | (rw [hy306]; exact H) | exact H
 have Ny306 := Aside0.mk hy306
 clear hy306
 have H' := Aside0.mk H
 clear H
 go_enter Try.func62, Try.ntmps62
 go_wp2_with (first | ((with_reducible refine gate_dst (N := 8) rfl ?_); refine Kd.R_lit k37 _ 37 ?hg (N := 8) ?hd (xs := ([] : List (S37))) (inner := []) (ok := fun _ => True) (okp := fun _ => True) ?hr ?hp (fun _ hk => hk) trivial (Below.refl _ _) (Nat.le_refl _) (by simp) ?_; (case hd => rfl); (case hg => rfl); (case hr => first | (go_simp; done) | (go_simp; rfl)); (case hp => exact (Reps.none _ _)); intro v307 w3 ho4 hb hg_ hnew_; clear hg_ hnew_; (first | rw [← Ny306.out] at ho4 | (simp only [Int.reduceToNat] at ho4; rw [← Ny306.out] at ho4)); have n0_ := Aside0.mk (Kd.R_lower ho4 (below_size (sH HB.out))); have n1_ := sB HB hb; clear HB; have HO308 := n0_; have HB := n1_; clear n0_ n1_; clear hb ho4))
 go_loopg [5, 11] k (fun kq v5 v11 w' => ∃ (x5_1 : List (S37)) (x11_1 : Int), v11 = .int .i64 x11_1 ∧ Aside0 (impl_assignments__impl_AssignmentsOf_1.l0 kq x5_1 l0 (l0.length : Int) x11_1 = some r) ∧ Aside0 (kq ≤ k) ∧ Aside0 (Kd.R k37 37 w' w.heap.size (fun _ => True) v5 x5_1) ∧ Aside0 (Below w.heap.size w w'))
 case atStart => exact ⟨(y306), (0), sr, H', ⟨Nat.le_refl _⟩, ⟨by exact sE HO308.out⟩, ⟨sb⟩⟩
 case round =>
  clear H'
  try clear p2
  obtain ⟨x5_1, x11_1, rfl, HA, HK1, HO_5, HB⟩ := hrel
  cases gk with
  | zero => exact absurd HA.out (by simp [impl_assignments__impl_AssignmentsOf_1.l0])
  | succ k1 =>
   have H := HA.out
   clear HA
   simp only [impl_assignments__impl_AssignmentsOf_1.l0] at H
   by_cases c5 : x11_1 < (l0.length : Int)
   ·rw [if_pos c5] at H
    have c5b0 := decide_eq_true c5
    clear c5
    by_cases c6 : 0 ≤ x11_1
    ·rw [if_pos c6] at H
     have c6b0 := decide_eq_true c6
     clear c6
     by_cases c7 : x11_1 < (l0.length : Int)
     ·rw [if_pos c7] at H
      have c7b0 := decide_eq_true c7
      clear c7
      obtain ⟨t311, A8, H⟩ := sO H
      by_cases c9 : t311 = true
      ·subst c9
       rewrite [if_pos rfl] at H
       replace H := Option.bind_eq_some_iff.mp H
       obtain ⟨⟨t312, t313, t314, t315⟩, A100, H⟩ := H
       replace H : (if x5_1.length < 2932031007402 then (impl_assignments__impl_AssignmentsOf_1.l0 k1 (x5_1 ++ [(⟨t312, t313, t314, t315⟩ : S37)]) l0 (l0.length : Int) (wrap64 (x11_1 + 1))) else (none)) = some r := H
       have A10 := Aside0.mk A100
       clear A100
       by_cases c11 : x5_1.length < 2932031007402
       ·rw [if_pos c11] at H
        have LMc11 := Aside0.mk c11
        clear c11
        obtain ⟨y316, hy316⟩ : ∃ y_ : List (S37), y_ = (x5_1 ++ [(⟨t312, t313, t314, t315⟩ : S37)]) := ⟨_, rfl⟩
        replace H : (impl_assignments__impl_AssignmentsOf_1.l0 k1 y316 l0 (l0.length : Int) (wrap64 (x11_1 + 1))) = some r := by first | (rw [hy316]; with_reducible exact H) | (have H2_ := (Option.bind_some _ _).symm.trans H; rw [hy316]; with_reducible exact H2_) | (have H2_ := (Option.bind_some _ _).symm.trans H; with_reducible exact H2_) | with_reducible exact H | (rw [hy316]; exact H) | exact H
        have Ny316 := Aside0.mk hy316
        clear hy316
        have H' := Aside0.mk H
        clear H
        have p309 : 0 ≤ (x11_1 : Int) := of_decide_eq_true (by first | (with_reducible assumption) | assumption)
        have q309 : x11_1 < (l0.length : Int) := of_decide_eq_true (by first | (with_reducible assumption) | assumption)
        obtain ⟨ad309, e309, hx309_0, hx309_1, hx309_2, hx309_3⟩ := at_T35 HR0.out x11_1 p309 q309
        cases e309
        replace hx309_0 := sX HB hx309_0
        replace hx309_1 := sX HB hx309_1
        replace hx309_2 := sX HB hx309_2
        replace hx309_3 := sX HB hx309_3
        replace p309 := eq_true p309
        replace q309 := eq_true q309
        go_wp2_with (first | ((with_reducible refine gate_dst (N := 7) rfl ?_); refine sV (N := 7) (cs := #[.string (⟨#[]⟩ : ByteArray), .string (⟨#[]⟩ : ByteArray), .int .i64 0, .int .i64 0]) (t := 35) ?_; intro gb310 hg w12 hbox hb; have n0_ := Aside0.mk (Kd.R_below (sE HO_5.out) hb); have n1_ := sB HB hb; have n2_ := Aside0.mk (hbox); have n3_ := sG HB hg; have n4_ := sG HB hg; clear HO_5; clear HB; have HO_5 := n0_; have HB := n1_; have BK310 := n2_; have GW310 := n3_; have GE310 := n4_; clear n0_ n1_ n2_ n3_ n4_; clear hb hbox hg; obtain ⟨hcz13_0, hcz13_1, hcz13_2, hcz13_3, hfz13_0, hfz13_1, hfz13_2, hfz13_3⟩ := cells4 BK310.out) | (go_at_call 63; (with_reducible refine (impl_AssignmentsOf_1.calls ((rd_T35 l0 x11_1).f0) ((rd_T35 l0 x11_1).f1) ((rd_T35 l0 x11_1).f2) ((rd_T35 l0 x11_1).f3) true _ A8.out).mono ?_); rintro e w14 ⟨rfl, hb⟩; have n0_ := Aside0.mk (Kd.R_below (by (with_reducible repeat (first | apply Kd.R_alloc | apply Kd.R_drewN | apply Kd.R_drew)); exact (Kd.R_mono (Kd.R_far (p := ⟨gb310, 3, none⟩) (Kd.R_far (p := ⟨gb310, 2, none⟩) (Kd.R_far (p := ⟨gb310, 1, none⟩) (Kd.R_far (p := ⟨gb310, 0, none⟩) (Kd.R_types HO_5.out BK310.out (by decide)) (fun _ hk => hk.2) (.string ((rd_T35 l0 x11_1).f0))) (fun _ hk => hk.2) (.string ((rd_T35 l0 x11_1).f1))) (fun _ hk => hk.2) (.int .i64 ((rd_T35 l0 x11_1).f2))) (fun _ hk => hk.2) (.int .i64 ((rd_T35 l0 x11_1).f3))) (fun _ h_ => h_.1))) hb); have n1_ := Aside0.mk (blk_below (g := gb310) (o := .cells #[.string ((rd_T35 l0 x11_1).f0), .string ((rd_T35 l0 x11_1).f1), .int .i64 ((rd_T35 l0 x11_1).f2), .int .i64 ((rd_T35 l0 x11_1).f3)] 35 (0, 0)) (by exact sP4 (sT BK310.out)) hb); have n2_ := sB HB hb; clear HO_5; clear BK310; clear HB; have HO_5 := n0_; have BK310 := n1_; have HB := n2_; clear n0_ n1_ n2_; (try clear hb); (try clear hb2); (try clear hk); (try clear hi); obtain ⟨hcz15_0, hcz15_1, hcz15_2, hcz15_3, hfz15_0, hfz15_1, hfz15_2, hfz15_3⟩ := cells4 BK310.out) | ((with_reducible refine gate_callee (f := 136) rfl ?_); refine sC (some 20) Try.func136 #[.agg #[.string ((rd_T35 l0 x11_1).f0), .string ((rd_T35 l0 x11_1).f1), .int .i64 ((rd_T35 l0 x11_1).f2), .int .i64 ((rd_T35 l0 x11_1).f3)]] (impl_Capture_assignment.calls ((rd_T35 l0 x11_1).f0) ((rd_T35 l0 x11_1).f1) ((rd_T35 l0 x11_1).f2) ((rd_T35 l0 x11_1).f3) t312 t313 t314 t315 _ A10.out) ?_; rintro e w16 ⟨rfl, hb⟩; refine ⟨_, rfl, ?_⟩; have n0_ := Aside0.mk (Kd.R_below (sE HO_5.out) hb); have n1_ := sK BK310 hb; have n2_ := sB HB hb; clear HO_5; clear BK310; clear HB; have HO_5 := n0_; have BK310 := n1_; have HB := n2_; clear n0_ n1_ n2_; (try clear hb); (try clear hb2); (try clear hk); (try clear hi)) | ((with_reducible refine gate_builtin (b := .append) (xs := #[.tmp 18, .tmp 21]) rfl ?_); at_builtin; refine Kd.R_append k37 (w0 := w) w.heap.size rfl (.tmp 18) (.tmp 21) 32 37 (.agg #[(.string ⟨#[]⟩), (.string ⟨#[]⟩), (.bool false), (.int .i64 0)]) 48 rfl Try.underlying32 info37 rfl (by decide) (by omega) u5 x5_1 (⟨t312, t313, t314, t315⟩ : S37) [.string t312, .string t313, .bool t314, .int .i64 t315] (fun _ => True) (fun _ => False) rfl rfl ?aP (fun _ hk => hk.elim) ?aF ?aO ?aB ?aS ?aL ?_; (case aP => exact k37_mkM _ _ _ (⟨t312, t313, t314, t315⟩ : S37)); (case aB => exact (by repeat (first | (with_reducible first | exact HB.out | apply below_alloc | apply pw_below_drewN | apply below_drew1 | refine below_set ?_ GE310.out) | exact HB.out))); (case aF => exact (fun _ _ => trivial)); (case aO => exact (sE HO_5.out)); (case aS => exact (below_size (by repeat (first | (with_reducible first | exact HB.out | apply below_alloc | apply pw_below_drewN | apply below_drew1 | refine below_set ?_ GE310.out) | exact HB.out)))); (case aL => have := LMc11.out; omega); intro v317 w17 ho hb hg hat; rw [← Ny316.out] at ho; have n0_ := Aside0.mk (blk_grown (g := gb310) (o := .cells #[.string ((rd_T35 l0 x11_1).f0), .string ((rd_T35 l0 x11_1).f1), .int .i64 ((rd_T35 l0 x11_1).f2), .int .i64 ((rd_T35 l0 x11_1).f3)] 35 (0, 0)) (sT BK310.out) hg (Kd.R_ne HO_5.out BK310.out (by decide))); have n1_ := Aside0.mk (hb); have n2_ := Aside0.mk (ho); clear BK310; clear HB; clear HO_5; have BK310 := n0_; have HB := n1_; have HO318 := n2_; clear n0_ n1_ n2_; clear ho hb hg hat))
        go_roundg k1
        case measure => have := HK1.out; omega
        case rel => exact ⟨(y316), (wrap64 (x11_1 + 1)), sr, H', ⟨by have := HK1.out; omega⟩, ⟨by exact sE HO318.out⟩, ⟨sb⟩⟩
       rw [if_neg c11] at H
       exact absurd H (by simp)
      replace c9 := Bool.eq_false_iff.mpr c9
      subst c9
      rewrite [if_neg (show ¬ (false = true) by decide)] at H
      have H' := Aside0.mk H
      clear H
      have p309 : 0 ≤ (x11_1 : Int) := of_decide_eq_true (by first | (with_reducible assumption) | assumption)
      have q309 : x11_1 < (l0.length : Int) := of_decide_eq_true (by first | (with_reducible assumption) | assumption)
      obtain ⟨ad309, e309, hx309_0, hx309_1, hx309_2, hx309_3⟩ := at_T35 HR0.out x11_1 p309 q309
      cases e309
      replace hx309_0 := sX HB hx309_0
      replace hx309_1 := sX HB hx309_1
      replace hx309_2 := sX HB hx309_2
      replace hx309_3 := sX HB hx309_3
      replace p309 := eq_true p309
      replace q309 := eq_true q309
      go_wp2_with (first | ((with_reducible refine gate_dst (N := 7) rfl ?_); refine sV (N := 7) (cs := #[.string (⟨#[]⟩ : ByteArray), .string (⟨#[]⟩ : ByteArray), .int .i64 0, .int .i64 0]) (t := 35) ?_; intro gb310 hg w18 hbox hb; have n0_ := Aside0.mk (Kd.R_below (sE HO_5.out) hb); have n1_ := sB HB hb; have n2_ := Aside0.mk (hbox); have n3_ := sG HB hg; have n4_ := sG HB hg; clear HO_5; clear HB; have HO_5 := n0_; have HB := n1_; have BK310 := n2_; have GW310 := n3_; have GE310 := n4_; clear n0_ n1_ n2_ n3_ n4_; clear hb hbox hg; obtain ⟨hcz19_0, hcz19_1, hcz19_2, hcz19_3, hfz19_0, hfz19_1, hfz19_2, hfz19_3⟩ := cells4 BK310.out) | (go_at_call 63; (with_reducible refine (impl_AssignmentsOf_1.calls ((rd_T35 l0 x11_1).f0) ((rd_T35 l0 x11_1).f1) ((rd_T35 l0 x11_1).f2) ((rd_T35 l0 x11_1).f3) false _ A8.out).mono ?_); rintro e w20 ⟨rfl, hb⟩; have n0_ := Aside0.mk (Kd.R_below (by (with_reducible repeat (first | apply Kd.R_alloc | apply Kd.R_drewN | apply Kd.R_drew)); exact (Kd.R_mono (Kd.R_far (p := ⟨gb310, 3, none⟩) (Kd.R_far (p := ⟨gb310, 2, none⟩) (Kd.R_far (p := ⟨gb310, 1, none⟩) (Kd.R_far (p := ⟨gb310, 0, none⟩) (Kd.R_types HO_5.out BK310.out (by decide)) (fun _ hk => hk.2) (.string ((rd_T35 l0 x11_1).f0))) (fun _ hk => hk.2) (.string ((rd_T35 l0 x11_1).f1))) (fun _ hk => hk.2) (.int .i64 ((rd_T35 l0 x11_1).f2))) (fun _ hk => hk.2) (.int .i64 ((rd_T35 l0 x11_1).f3))) (fun _ h_ => h_.1))) hb); have n1_ := Aside0.mk (blk_below (g := gb310) (o := .cells #[.string ((rd_T35 l0 x11_1).f0), .string ((rd_T35 l0 x11_1).f1), .int .i64 ((rd_T35 l0 x11_1).f2), .int .i64 ((rd_T35 l0 x11_1).f3)] 35 (0, 0)) (by exact sP4 (sT BK310.out)) hb); have n2_ := sB HB hb; clear HO_5; clear BK310; clear HB; have HO_5 := n0_; have BK310 := n1_; have HB := n2_; clear n0_ n1_ n2_; (try clear hb); (try clear hb2); (try clear hk); (try clear hi)))
      go_roundg k1
      case measure => have := HK1.out; omega
      case rel => exact ⟨(x5_1), (wrap64 (x11_1 + 1)), sr, H', ⟨by have := HK1.out; omega⟩, ⟨by exact sE HO_5.out⟩, ⟨sb⟩⟩
     rw [if_neg c7] at H
     exact absurd H (by simp)
    rw [if_neg c6] at H
    exact absurd H (by simp)
   rw [if_neg c5] at H
   have c5b0 := decide_eq_false c5
   clear c5
   obtain rfl := Option.some.inj H
   go_wp2
   go_ret
   exact ⟨_, sq, by exact sE HO_5.out, sb⟩
end Go.Proofs.Ytabbpnkbhapibaa.PFnExactFinalOf
