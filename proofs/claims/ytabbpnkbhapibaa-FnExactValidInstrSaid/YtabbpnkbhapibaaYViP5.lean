/- Printed functions: impl_within, impl_instrForms, impl_Instr_form. -/
import Derived.Test.YtabbpnkbhapibaaYViP0
namespace Go.Proofs.Ytabbpnkbhapibaa.PFnExactValidInstr
open Go.RowKit Go.Proofs.YtabbpnkbhapibaaG Go.Proofs.YtabbpnkbhapibaaW.PrintWords Go.Proofs.YtabbpnkbhapibaaW.PrintLast Go.Proofs.YtabbpnkbhapibaaW.PrintMore
attribute [local go_sem] max2_int min2_int max_two min_two max_three min_three max_four min_four   -- for this text's walks alone
set_option linter.unusedVariables false
set_option linter.unusedSimpArgs false
/-! ### impl_within: function 92 -/
def impl_within.f (a0 : Int) (a1 : Int) (a2 : Int) : Option (Bool) := if a0 ≥ a1 then (some (decide (a0 ≤ a2))) else (some false)
set_option maxHeartbeats 8000000 in
set_option maxRecDepth 100000 in
theorem impl_within.calls (a0 : Int) (a1 : Int) (a2 : Int) (r : Bool) (w : World) (h : impl_within.f a0 a1 a2 = some r) :
  Calls Try.prog 92 #[.int .i64 a0, .int .i64 a1, .int .i64 a2] w fun e w' => e = .returned (.bool r) ∧ Drawn0 w w' := by
 have H : (if a0 ≥ a1 then (some (decide (a0 ≤ a2))) else (some false)) = some r := h
 clear h
 by_cases c4 : a0 ≥ a1
 ·rw [if_pos c4] at H
  have c4b0 : decide (a1 ≤ a0) = true := decide_eq_true c4
  clear c4
  obtain rfl := Option.some.inj H
  go_enter Try.func92, Try.ntmps92
  go_wp2
  go_ret
  exact ⟨by first | rfl | (simp; done) | (simp [*]; done), by repeat (first | exact Drawn0.refl _ | apply Drawn0.step)⟩
 rw [if_neg c4] at H
 have c4b0 : decide (a1 ≤ a0) = false := decide_eq_false c4
 clear c4
 obtain rfl := Option.some.inj H
 go_enter Try.func92, Try.ntmps92
 go_wp2
 go_ret
 exact ⟨by first | rfl | (simp; done) | (simp [*]; done), by repeat (first | exact Drawn0.refl _ | apply Drawn0.step)⟩

/-! ### impl_instrForms: function 170 -/
def impl_instrForms.f  : Option ((List (S179))) := some (([(⟨(⟨#[115, 116, 101, 112]⟩ : ByteArray), true, 0, 79, false, 0, 0⟩ : S179), (⟨(⟨#[115, 116, 114, 105, 110, 103]⟩ : ByteArray), false, 0, 0, true, 0, 1⟩ : S179), (⟨(⟨#[105, 110, 116, 101, 103, 101, 114]⟩ : ByteArray), true, 0, 1000000000000, false, 0, 1⟩ : S179), (⟨(⟨#[108, 111, 97, 100]⟩ : ByteArray), false, 0, 0, true, 0, 1⟩ : S179), (⟨(⟨#[110, 97, 109, 101, 111, 102]⟩ : ByteArray), false, 0, 0, true, 0, 1⟩ : S179), (⟨(⟨#[100, 101, 102, 101, 114]⟩ : ByteArray), false, 0, 0, true, 0, 1⟩ : S179), (⟨(⟨#[99, 117, 114, 115, 111, 114]⟩ : ByteArray), false, 0, 0, true, 0, 1⟩ : S179), (⟨(⟨#[98, 105, 110, 97, 114, 121]⟩ : ByteArray), true, 6, 11, false, 2, 1⟩ : S179), (⟨(⟨#[110, 101, 103, 97, 116, 101]⟩ : ByteArray), false, 0, 0, false, 1, 1⟩ : S179), (⟨(⟨#[105, 110, 100, 105, 114, 101, 99, 116]⟩ : ByteArray), false, 0, 0, false, 1, 1⟩ : S179), (⟨(⟨#[98, 105, 110, 100]⟩ : ByteArray), true, 21, 22, true, 1, 1⟩ : S179), (⟨(⟨#[101, 108, 101, 109, 101, 110, 116]⟩ : ByteArray), false, 0, 0, false, 2, 1⟩ : S179), (⟨(⟨#[99, 97, 108, 108]⟩ : ByteArray), true, 0, 6, true, 0, 1⟩ : S179), (⟨(⟨#[112, 111, 112]⟩ : ByteArray), false, 0, 0, false, 1, 0⟩ : S179), (⟨(⟨#[116, 111, 110, 97, 109, 101]⟩ : ByteArray), false, 0, 0, false, 1, 1⟩ : S179), (⟨(⟨#[99, 104, 101, 99, 107, 102, 105, 101, 108, 100]⟩ : ByteArray), false, 0, 0, true, 0, 0⟩ : S179), (⟨(⟨#[115, 116, 111, 114, 101]⟩ : ByteArray), false, 0, 0, true, 1, 0⟩ : S179), (⟨(⟨#[115, 116, 111, 114, 101, 110, 97, 109, 101]⟩ : ByteArray), false, 0, 0, false, 2, 0⟩ : S179), (⟨(⟨#[115, 116, 111, 114, 101, 101, 108, 101, 109, 101, 110, 116]⟩ : ByteArray), false, 0, 0, false, 3, 0⟩ : S179), (⟨(⟨#[115, 116, 111, 114, 101, 102, 105, 101, 108, 100]⟩ : ByteArray), false, 0, 0, true, 2, 0⟩ : S179), (⟨(⟨#[112, 101, 101, 107, 110, 97, 109, 101]⟩ : ByteArray), false, 0, 0, false, 1, 2⟩ : S179), (⟨(⟨#[112, 101, 101, 107, 101, 108, 101, 109, 101, 110, 116]⟩ : ByteArray), false, 0, 0, false, 2, 3⟩ : S179), (⟨(⟨#[112, 101, 101, 107, 102, 105, 101, 108, 100]⟩ : ByteArray), false, 0, 0, true, 1, 2⟩ : S179), (⟨(⟨#[109, 97, 116, 99, 104]⟩ : ByteArray), false, 0, 0, false, 2, 0⟩ : S179), (⟨(⟨#[107, 101, 101, 112]⟩ : ByteArray), false, 0, 0, false, 2, 3⟩ : S179), (⟨(⟨#[114, 101, 112, 108, 97, 99, 101]⟩ : ByteArray), false, 0, 0, false, 4, 1⟩ : S179), (⟨(⟨#[106, 117, 109, 112]⟩ : ByteArray), true, 0, 79, false, 0, 0⟩ : S179), (⟨(⟨#[101, 110, 100]⟩ : ByteArray), false, 0, 0, false, 0, 0⟩ : S179), (⟨(⟨#[114, 101, 116, 117, 114, 110]⟩ : ByteArray), false, 0, 0, false, 0, 0⟩ : S179), (⟨(⟨#[102, 114, 101, 116, 117, 114, 110]⟩ : ByteArray), false, 0, 0, false, 0, 0⟩ : S179), (⟨(⟨#[102, 97, 117, 108, 116]⟩ : ByteArray), true, 1, 11, false, 0, 0⟩ : S179)] : List (S179)))
set_option maxHeartbeats 8000000 in
set_option maxRecDepth 100000 in
theorem impl_instrForms.calls  (r : List (S179)) (w : World) (h : impl_instrForms.f  = some r) :
  Calls Try.prog 170 #[] w fun e w' => ∃ v0_ : Value, e = .returned (v0_) ∧ Kd.R k179 179 w' w.heap.size (fun _ => True) v0_ r ∧ Below w.heap.size w w' := by
 have hu179 := Try.underlying179
 have HB := Aside0.mk (Below.refl w.heap.size w)
 have H : (some (([(⟨(⟨#[115, 116, 101, 112]⟩ : ByteArray), true, 0, 79, false, 0, 0⟩ : S179), (⟨(⟨#[115, 116, 114, 105, 110, 103]⟩ : ByteArray), false, 0, 0, true, 0, 1⟩ : S179), (⟨(⟨#[105, 110, 116, 101, 103, 101, 114]⟩ : ByteArray), true, 0, 1000000000000, false, 0, 1⟩ : S179), (⟨(⟨#[108, 111, 97, 100]⟩ : ByteArray), false, 0, 0, true, 0, 1⟩ : S179), (⟨(⟨#[110, 97, 109, 101, 111, 102]⟩ : ByteArray), false, 0, 0, true, 0, 1⟩ : S179), (⟨(⟨#[100, 101, 102, 101, 114]⟩ : ByteArray), false, 0, 0, true, 0, 1⟩ : S179), (⟨(⟨#[99, 117, 114, 115, 111, 114]⟩ : ByteArray), false, 0, 0, true, 0, 1⟩ : S179), (⟨(⟨#[98, 105, 110, 97, 114, 121]⟩ : ByteArray), true, 6, 11, false, 2, 1⟩ : S179), (⟨(⟨#[110, 101, 103, 97, 116, 101]⟩ : ByteArray), false, 0, 0, false, 1, 1⟩ : S179), (⟨(⟨#[105, 110, 100, 105, 114, 101, 99, 116]⟩ : ByteArray), false, 0, 0, false, 1, 1⟩ : S179), (⟨(⟨#[98, 105, 110, 100]⟩ : ByteArray), true, 21, 22, true, 1, 1⟩ : S179), (⟨(⟨#[101, 108, 101, 109, 101, 110, 116]⟩ : ByteArray), false, 0, 0, false, 2, 1⟩ : S179), (⟨(⟨#[99, 97, 108, 108]⟩ : ByteArray), true, 0, 6, true, 0, 1⟩ : S179), (⟨(⟨#[112, 111, 112]⟩ : ByteArray), false, 0, 0, false, 1, 0⟩ : S179), (⟨(⟨#[116, 111, 110, 97, 109, 101]⟩ : ByteArray), false, 0, 0, false, 1, 1⟩ : S179), (⟨(⟨#[99, 104, 101, 99, 107, 102, 105, 101, 108, 100]⟩ : ByteArray), false, 0, 0, true, 0, 0⟩ : S179), (⟨(⟨#[115, 116, 111, 114, 101]⟩ : ByteArray), false, 0, 0, true, 1, 0⟩ : S179), (⟨(⟨#[115, 116, 111, 114, 101, 110, 97, 109, 101]⟩ : ByteArray), false, 0, 0, false, 2, 0⟩ : S179), (⟨(⟨#[115, 116, 111, 114, 101, 101, 108, 101, 109, 101, 110, 116]⟩ : ByteArray), false, 0, 0, false, 3, 0⟩ : S179), (⟨(⟨#[115, 116, 111, 114, 101, 102, 105, 101, 108, 100]⟩ : ByteArray), false, 0, 0, true, 2, 0⟩ : S179), (⟨(⟨#[112, 101, 101, 107, 110, 97, 109, 101]⟩ : ByteArray), false, 0, 0, false, 1, 2⟩ : S179), (⟨(⟨#[112, 101, 101, 107, 101, 108, 101, 109, 101, 110, 116]⟩ : ByteArray), false, 0, 0, false, 2, 3⟩ : S179), (⟨(⟨#[112, 101, 101, 107, 102, 105, 101, 108, 100]⟩ : ByteArray), false, 0, 0, true, 1, 2⟩ : S179), (⟨(⟨#[109, 97, 116, 99, 104]⟩ : ByteArray), false, 0, 0, false, 2, 0⟩ : S179), (⟨(⟨#[107, 101, 101, 112]⟩ : ByteArray), false, 0, 0, false, 2, 3⟩ : S179), (⟨(⟨#[114, 101, 112, 108, 97, 99, 101]⟩ : ByteArray), false, 0, 0, false, 4, 1⟩ : S179), (⟨(⟨#[106, 117, 109, 112]⟩ : ByteArray), true, 0, 79, false, 0, 0⟩ : S179), (⟨(⟨#[101, 110, 100]⟩ : ByteArray), false, 0, 0, false, 0, 0⟩ : S179), (⟨(⟨#[114, 101, 116, 117, 114, 110]⟩ : ByteArray), false, 0, 0, false, 0, 0⟩ : S179), (⟨(⟨#[102, 114, 101, 116, 117, 114, 110]⟩ : ByteArray), false, 0, 0, false, 0, 0⟩ : S179), (⟨(⟨#[102, 97, 117, 108, 116]⟩ : ByteArray), true, 1, 11, false, 0, 0⟩ : S179)] : List (S179)))) = some r := h
 clear h
 obtain ⟨y126, hy126⟩ : ∃ y_ : List (S179), y_ = (([(⟨(⟨#[115, 116, 101, 112]⟩ : ByteArray), true, 0, 79, false, 0, 0⟩ : S179), (⟨(⟨#[115, 116, 114, 105, 110, 103]⟩ : ByteArray), false, 0, 0, true, 0, 1⟩ : S179), (⟨(⟨#[105, 110, 116, 101, 103, 101, 114]⟩ : ByteArray), true, 0, 1000000000000, false, 0, 1⟩ : S179), (⟨(⟨#[108, 111, 97, 100]⟩ : ByteArray), false, 0, 0, true, 0, 1⟩ : S179), (⟨(⟨#[110, 97, 109, 101, 111, 102]⟩ : ByteArray), false, 0, 0, true, 0, 1⟩ : S179), (⟨(⟨#[100, 101, 102, 101, 114]⟩ : ByteArray), false, 0, 0, true, 0, 1⟩ : S179), (⟨(⟨#[99, 117, 114, 115, 111, 114]⟩ : ByteArray), false, 0, 0, true, 0, 1⟩ : S179), (⟨(⟨#[98, 105, 110, 97, 114, 121]⟩ : ByteArray), true, 6, 11, false, 2, 1⟩ : S179), (⟨(⟨#[110, 101, 103, 97, 116, 101]⟩ : ByteArray), false, 0, 0, false, 1, 1⟩ : S179), (⟨(⟨#[105, 110, 100, 105, 114, 101, 99, 116]⟩ : ByteArray), false, 0, 0, false, 1, 1⟩ : S179), (⟨(⟨#[98, 105, 110, 100]⟩ : ByteArray), true, 21, 22, true, 1, 1⟩ : S179), (⟨(⟨#[101, 108, 101, 109, 101, 110, 116]⟩ : ByteArray), false, 0, 0, false, 2, 1⟩ : S179), (⟨(⟨#[99, 97, 108, 108]⟩ : ByteArray), true, 0, 6, true, 0, 1⟩ : S179), (⟨(⟨#[112, 111, 112]⟩ : ByteArray), false, 0, 0, false, 1, 0⟩ : S179), (⟨(⟨#[116, 111, 110, 97, 109, 101]⟩ : ByteArray), false, 0, 0, false, 1, 1⟩ : S179), (⟨(⟨#[99, 104, 101, 99, 107, 102, 105, 101, 108, 100]⟩ : ByteArray), false, 0, 0, true, 0, 0⟩ : S179), (⟨(⟨#[115, 116, 111, 114, 101]⟩ : ByteArray), false, 0, 0, true, 1, 0⟩ : S179), (⟨(⟨#[115, 116, 111, 114, 101, 110, 97, 109, 101]⟩ : ByteArray), false, 0, 0, false, 2, 0⟩ : S179), (⟨(⟨#[115, 116, 111, 114, 101, 101, 108, 101, 109, 101, 110, 116]⟩ : ByteArray), false, 0, 0, false, 3, 0⟩ : S179), (⟨(⟨#[115, 116, 111, 114, 101, 102, 105, 101, 108, 100]⟩ : ByteArray), false, 0, 0, true, 2, 0⟩ : S179), (⟨(⟨#[112, 101, 101, 107, 110, 97, 109, 101]⟩ : ByteArray), false, 0, 0, false, 1, 2⟩ : S179), (⟨(⟨#[112, 101, 101, 107, 101, 108, 101, 109, 101, 110, 116]⟩ : ByteArray), false, 0, 0, false, 2, 3⟩ : S179), (⟨(⟨#[112, 101, 101, 107, 102, 105, 101, 108, 100]⟩ : ByteArray), false, 0, 0, true, 1, 2⟩ : S179), (⟨(⟨#[109, 97, 116, 99, 104]⟩ : ByteArray), false, 0, 0, false, 2, 0⟩ : S179), (⟨(⟨#[107, 101, 101, 112]⟩ : ByteArray), false, 0, 0, false, 2, 3⟩ : S179), (⟨(⟨#[114, 101, 112, 108, 97, 99, 101]⟩ : ByteArray), false, 0, 0, false, 4, 1⟩ : S179), (⟨(⟨#[106, 117, 109, 112]⟩ : ByteArray), true, 0, 79, false, 0, 0⟩ : S179), (⟨(⟨#[101, 110, 100]⟩ : ByteArray), false, 0, 0, false, 0, 0⟩ : S179), (⟨(⟨#[114, 101, 116, 117, 114, 110]⟩ : ByteArray), false, 0, 0, false, 0, 0⟩ : S179), (⟨(⟨#[102, 114, 101, 116, 117, 114, 110]⟩ : ByteArray), false, 0, 0, false, 0, 0⟩ : S179), (⟨(⟨#[102, 97, 117, 108, 116]⟩ : ByteArray), true, 1, 11, false, 0, 0⟩ : S179)] : List (S179))) := ⟨_, rfl⟩
 replace H : (some y126) = some r := by first | (rw [hy126]; with_reducible exact H) | (have H2_ := (Option.bind_some _ _).symm.trans H; rw [hy126]; with_reducible exact H2_) | (have H2_ := (Option.bind_some _ _).symm.trans H; with_reducible exact H2_) | with_reducible exact H | (rw [hy126]; exact H) | exact H
 have Ny126 := Aside0.mk hy126
 clear hy126
 obtain rfl := Option.some.inj H
 go_enter Try.func170, Try.ntmps170
 go_wp2_with (first | ((with_reducible refine gate_dst (N := 32) rfl ?_); refine Kd.R_lit k179 _ 179 ?hg (N := 32) ?hd (xs := ([(⟨(⟨#[115, 116, 101, 112]⟩ : ByteArray), true, 0, 79, false, 0, 0⟩ : S179), (⟨(⟨#[115, 116, 114, 105, 110, 103]⟩ : ByteArray), false, 0, 0, true, 0, 1⟩ : S179), (⟨(⟨#[105, 110, 116, 101, 103, 101, 114]⟩ : ByteArray), true, 0, 1000000000000, false, 0, 1⟩ : S179), (⟨(⟨#[108, 111, 97, 100]⟩ : ByteArray), false, 0, 0, true, 0, 1⟩ : S179), (⟨(⟨#[110, 97, 109, 101, 111, 102]⟩ : ByteArray), false, 0, 0, true, 0, 1⟩ : S179), (⟨(⟨#[100, 101, 102, 101, 114]⟩ : ByteArray), false, 0, 0, true, 0, 1⟩ : S179), (⟨(⟨#[99, 117, 114, 115, 111, 114]⟩ : ByteArray), false, 0, 0, true, 0, 1⟩ : S179), (⟨(⟨#[98, 105, 110, 97, 114, 121]⟩ : ByteArray), true, 6, 11, false, 2, 1⟩ : S179), (⟨(⟨#[110, 101, 103, 97, 116, 101]⟩ : ByteArray), false, 0, 0, false, 1, 1⟩ : S179), (⟨(⟨#[105, 110, 100, 105, 114, 101, 99, 116]⟩ : ByteArray), false, 0, 0, false, 1, 1⟩ : S179), (⟨(⟨#[98, 105, 110, 100]⟩ : ByteArray), true, 21, 22, true, 1, 1⟩ : S179), (⟨(⟨#[101, 108, 101, 109, 101, 110, 116]⟩ : ByteArray), false, 0, 0, false, 2, 1⟩ : S179), (⟨(⟨#[99, 97, 108, 108]⟩ : ByteArray), true, 0, 6, true, 0, 1⟩ : S179), (⟨(⟨#[112, 111, 112]⟩ : ByteArray), false, 0, 0, false, 1, 0⟩ : S179), (⟨(⟨#[116, 111, 110, 97, 109, 101]⟩ : ByteArray), false, 0, 0, false, 1, 1⟩ : S179), (⟨(⟨#[99, 104, 101, 99, 107, 102, 105, 101, 108, 100]⟩ : ByteArray), false, 0, 0, true, 0, 0⟩ : S179), (⟨(⟨#[115, 116, 111, 114, 101]⟩ : ByteArray), false, 0, 0, true, 1, 0⟩ : S179), (⟨(⟨#[115, 116, 111, 114, 101, 110, 97, 109, 101]⟩ : ByteArray), false, 0, 0, false, 2, 0⟩ : S179), (⟨(⟨#[115, 116, 111, 114, 101, 101, 108, 101, 109, 101, 110, 116]⟩ : ByteArray), false, 0, 0, false, 3, 0⟩ : S179), (⟨(⟨#[115, 116, 111, 114, 101, 102, 105, 101, 108, 100]⟩ : ByteArray), false, 0, 0, true, 2, 0⟩ : S179), (⟨(⟨#[112, 101, 101, 107, 110, 97, 109, 101]⟩ : ByteArray), false, 0, 0, false, 1, 2⟩ : S179), (⟨(⟨#[112, 101, 101, 107, 101, 108, 101, 109, 101, 110, 116]⟩ : ByteArray), false, 0, 0, false, 2, 3⟩ : S179), (⟨(⟨#[112, 101, 101, 107, 102, 105, 101, 108, 100]⟩ : ByteArray), false, 0, 0, true, 1, 2⟩ : S179), (⟨(⟨#[109, 97, 116, 99, 104]⟩ : ByteArray), false, 0, 0, false, 2, 0⟩ : S179), (⟨(⟨#[107, 101, 101, 112]⟩ : ByteArray), false, 0, 0, false, 2, 3⟩ : S179), (⟨(⟨#[114, 101, 112, 108, 97, 99, 101]⟩ : ByteArray), false, 0, 0, false, 4, 1⟩ : S179), (⟨(⟨#[106, 117, 109, 112]⟩ : ByteArray), true, 0, 79, false, 0, 0⟩ : S179), (⟨(⟨#[101, 110, 100]⟩ : ByteArray), false, 0, 0, false, 0, 0⟩ : S179), (⟨(⟨#[114, 101, 116, 117, 114, 110]⟩ : ByteArray), false, 0, 0, false, 0, 0⟩ : S179), (⟨(⟨#[102, 114, 101, 116, 117, 114, 110]⟩ : ByteArray), false, 0, 0, false, 0, 0⟩ : S179), (⟨(⟨#[102, 97, 117, 108, 116]⟩ : ByteArray), true, 1, 11, false, 0, 0⟩ : S179)] : List (S179))) (inner := [.string (⟨#[115, 116, 101, 112]⟩ : ByteArray), .bool true, .int .i64 0, .int .i64 79, .bool false, .int .i64 0, .int .i64 0, .string (⟨#[115, 116, 114, 105, 110, 103]⟩ : ByteArray), .bool false, .int .i64 0, .int .i64 0, .bool true, .int .i64 0, .int .i64 1, .string (⟨#[105, 110, 116, 101, 103, 101, 114]⟩ : ByteArray), .bool true, .int .i64 0, .int .i64 1000000000000, .bool false, .int .i64 0, .int .i64 1, .string (⟨#[108, 111, 97, 100]⟩ : ByteArray), .bool false, .int .i64 0, .int .i64 0, .bool true, .int .i64 0, .int .i64 1, .string (⟨#[110, 97, 109, 101, 111, 102]⟩ : ByteArray), .bool false, .int .i64 0, .int .i64 0, .bool true, .int .i64 0, .int .i64 1, .string (⟨#[100, 101, 102, 101, 114]⟩ : ByteArray), .bool false, .int .i64 0, .int .i64 0, .bool true, .int .i64 0, .int .i64 1, .string (⟨#[99, 117, 114, 115, 111, 114]⟩ : ByteArray), .bool false, .int .i64 0, .int .i64 0, .bool true, .int .i64 0, .int .i64 1, .string (⟨#[98, 105, 110, 97, 114, 121]⟩ : ByteArray), .bool true, .int .i64 6, .int .i64 11, .bool false, .int .i64 2, .int .i64 1, .string (⟨#[110, 101, 103, 97, 116, 101]⟩ : ByteArray), .bool false, .int .i64 0, .int .i64 0, .bool false, .int .i64 1, .int .i64 1, .string (⟨#[105, 110, 100, 105, 114, 101, 99, 116]⟩ : ByteArray), .bool false, .int .i64 0, .int .i64 0, .bool false, .int .i64 1, .int .i64 1, .string (⟨#[98, 105, 110, 100]⟩ : ByteArray), .bool true, .int .i64 21, .int .i64 22, .bool true, .int .i64 1, .int .i64 1, .string (⟨#[101, 108, 101, 109, 101, 110, 116]⟩ : ByteArray), .bool false, .int .i64 0, .int .i64 0, .bool false, .int .i64 2, .int .i64 1, .string (⟨#[99, 97, 108, 108]⟩ : ByteArray), .bool true, .int .i64 0, .int .i64 6, .bool true, .int .i64 0, .int .i64 1, .string (⟨#[112, 111, 112]⟩ : ByteArray), .bool false, .int .i64 0, .int .i64 0, .bool false, .int .i64 1, .int .i64 0, .string (⟨#[116, 111, 110, 97, 109, 101]⟩ : ByteArray), .bool false, .int .i64 0, .int .i64 0, .bool false, .int .i64 1, .int .i64 1, .string (⟨#[99, 104, 101, 99, 107, 102, 105, 101, 108, 100]⟩ : ByteArray), .bool false, .int .i64 0, .int .i64 0, .bool true, .int .i64 0, .int .i64 0, .string (⟨#[115, 116, 111, 114, 101]⟩ : ByteArray), .bool false, .int .i64 0, .int .i64 0, .bool true, .int .i64 1, .int .i64 0, .string (⟨#[115, 116, 111, 114, 101, 110, 97, 109, 101]⟩ : ByteArray), .bool false, .int .i64 0, .int .i64 0, .bool false, .int .i64 2, .int .i64 0, .string (⟨#[115, 116, 111, 114, 101, 101, 108, 101, 109, 101, 110, 116]⟩ : ByteArray), .bool false, .int .i64 0, .int .i64 0, .bool false, .int .i64 3, .int .i64 0, .string (⟨#[115, 116, 111, 114, 101, 102, 105, 101, 108, 100]⟩ : ByteArray), .bool false, .int .i64 0, .int .i64 0, .bool true, .int .i64 2, .int .i64 0, .string (⟨#[112, 101, 101, 107, 110, 97, 109, 101]⟩ : ByteArray), .bool false, .int .i64 0, .int .i64 0, .bool false, .int .i64 1, .int .i64 2, .string (⟨#[112, 101, 101, 107, 101, 108, 101, 109, 101, 110, 116]⟩ : ByteArray), .bool false, .int .i64 0, .int .i64 0, .bool false, .int .i64 2, .int .i64 3, .string (⟨#[112, 101, 101, 107, 102, 105, 101, 108, 100]⟩ : ByteArray), .bool false, .int .i64 0, .int .i64 0, .bool true, .int .i64 1, .int .i64 2, .string (⟨#[109, 97, 116, 99, 104]⟩ : ByteArray), .bool false, .int .i64 0, .int .i64 0, .bool false, .int .i64 2, .int .i64 0, .string (⟨#[107, 101, 101, 112]⟩ : ByteArray), .bool false, .int .i64 0, .int .i64 0, .bool false, .int .i64 2, .int .i64 3, .string (⟨#[114, 101, 112, 108, 97, 99, 101]⟩ : ByteArray), .bool false, .int .i64 0, .int .i64 0, .bool false, .int .i64 4, .int .i64 1, .string (⟨#[106, 117, 109, 112]⟩ : ByteArray), .bool true, .int .i64 0, .int .i64 79, .bool false, .int .i64 0, .int .i64 0, .string (⟨#[101, 110, 100]⟩ : ByteArray), .bool false, .int .i64 0, .int .i64 0, .bool false, .int .i64 0, .int .i64 0, .string (⟨#[114, 101, 116, 117, 114, 110]⟩ : ByteArray), .bool false, .int .i64 0, .int .i64 0, .bool false, .int .i64 0, .int .i64 0, .string (⟨#[102, 114, 101, 116, 117, 114, 110]⟩ : ByteArray), .bool false, .int .i64 0, .int .i64 0, .bool false, .int .i64 0, .int .i64 0, .string (⟨#[102, 97, 117, 108, 116]⟩ : ByteArray), .bool true, .int .i64 1, .int .i64 11, .bool false, .int .i64 0, .int .i64 0]) (ok := fun _ => True) (okp := fun _ => True) ?hr ?hp (fun _ hk => hk) trivial (Below.refl _ _) (Nat.le_refl _) (by simp) ?_; (case hd => rfl); (case hg => rfl); (case hr => kernel_rfl); (case hp => exact (Reps.c7 (show Kd.M k179 _ _ _ (⟨(⟨#[115, 116, 101, 112]⟩ : ByteArray), true, 0, 79, false, 0, 0⟩ : S179) [.string (⟨#[115, 116, 101, 112]⟩ : ByteArray), .bool true, .int .i64 0, .int .i64 79, .bool false, .int .i64 0, .int .i64 0] from (k179_mkM _ _ _ (⟨(⟨#[115, 116, 101, 112]⟩ : ByteArray), true, 0, 79, false, 0, 0⟩ : S179) )) (Reps.c7 (show Kd.M k179 _ _ _ (⟨(⟨#[115, 116, 114, 105, 110, 103]⟩ : ByteArray), false, 0, 0, true, 0, 1⟩ : S179) [.string (⟨#[115, 116, 114, 105, 110, 103]⟩ : ByteArray), .bool false, .int .i64 0, .int .i64 0, .bool true, .int .i64 0, .int .i64 1] from (k179_mkM _ _ _ (⟨(⟨#[115, 116, 114, 105, 110, 103]⟩ : ByteArray), false, 0, 0, true, 0, 1⟩ : S179) )) (Reps.c7 (show Kd.M k179 _ _ _ (⟨(⟨#[105, 110, 116, 101, 103, 101, 114]⟩ : ByteArray), true, 0, 1000000000000, false, 0, 1⟩ : S179) [.string (⟨#[105, 110, 116, 101, 103, 101, 114]⟩ : ByteArray), .bool true, .int .i64 0, .int .i64 1000000000000, .bool false, .int .i64 0, .int .i64 1] from (k179_mkM _ _ _ (⟨(⟨#[105, 110, 116, 101, 103, 101, 114]⟩ : ByteArray), true, 0, 1000000000000, false, 0, 1⟩ : S179) )) (Reps.c7 (show Kd.M k179 _ _ _ (⟨(⟨#[108, 111, 97, 100]⟩ : ByteArray), false, 0, 0, true, 0, 1⟩ : S179) [.string (⟨#[108, 111, 97, 100]⟩ : ByteArray), .bool false, .int .i64 0, .int .i64 0, .bool true, .int .i64 0, .int .i64 1] from (k179_mkM _ _ _ (⟨(⟨#[108, 111, 97, 100]⟩ : ByteArray), false, 0, 0, true, 0, 1⟩ : S179) )) (Reps.c7 (show Kd.M k179 _ _ _ (⟨(⟨#[110, 97, 109, 101, 111, 102]⟩ : ByteArray), false, 0, 0, true, 0, 1⟩ : S179) [.string (⟨#[110, 97, 109, 101, 111, 102]⟩ : ByteArray), .bool false, .int .i64 0, .int .i64 0, .bool true, .int .i64 0, .int .i64 1] from (k179_mkM _ _ _ (⟨(⟨#[110, 97, 109, 101, 111, 102]⟩ : ByteArray), false, 0, 0, true, 0, 1⟩ : S179) )) (Reps.c7 (show Kd.M k179 _ _ _ (⟨(⟨#[100, 101, 102, 101, 114]⟩ : ByteArray), false, 0, 0, true, 0, 1⟩ : S179) [.string (⟨#[100, 101, 102, 101, 114]⟩ : ByteArray), .bool false, .int .i64 0, .int .i64 0, .bool true, .int .i64 0, .int .i64 1] from (k179_mkM _ _ _ (⟨(⟨#[100, 101, 102, 101, 114]⟩ : ByteArray), false, 0, 0, true, 0, 1⟩ : S179) )) (Reps.c7 (show Kd.M k179 _ _ _ (⟨(⟨#[99, 117, 114, 115, 111, 114]⟩ : ByteArray), false, 0, 0, true, 0, 1⟩ : S179) [.string (⟨#[99, 117, 114, 115, 111, 114]⟩ : ByteArray), .bool false, .int .i64 0, .int .i64 0, .bool true, .int .i64 0, .int .i64 1] from (k179_mkM _ _ _ (⟨(⟨#[99, 117, 114, 115, 111, 114]⟩ : ByteArray), false, 0, 0, true, 0, 1⟩ : S179) )) (Reps.c7 (show Kd.M k179 _ _ _ (⟨(⟨#[98, 105, 110, 97, 114, 121]⟩ : ByteArray), true, 6, 11, false, 2, 1⟩ : S179) [.string (⟨#[98, 105, 110, 97, 114, 121]⟩ : ByteArray), .bool true, .int .i64 6, .int .i64 11, .bool false, .int .i64 2, .int .i64 1] from (k179_mkM _ _ _ (⟨(⟨#[98, 105, 110, 97, 114, 121]⟩ : ByteArray), true, 6, 11, false, 2, 1⟩ : S179) )) (Reps.c7 (show Kd.M k179 _ _ _ (⟨(⟨#[110, 101, 103, 97, 116, 101]⟩ : ByteArray), false, 0, 0, false, 1, 1⟩ : S179) [.string (⟨#[110, 101, 103, 97, 116, 101]⟩ : ByteArray), .bool false, .int .i64 0, .int .i64 0, .bool false, .int .i64 1, .int .i64 1] from (k179_mkM _ _ _ (⟨(⟨#[110, 101, 103, 97, 116, 101]⟩ : ByteArray), false, 0, 0, false, 1, 1⟩ : S179) )) (Reps.c7 (show Kd.M k179 _ _ _ (⟨(⟨#[105, 110, 100, 105, 114, 101, 99, 116]⟩ : ByteArray), false, 0, 0, false, 1, 1⟩ : S179) [.string (⟨#[105, 110, 100, 105, 114, 101, 99, 116]⟩ : ByteArray), .bool false, .int .i64 0, .int .i64 0, .bool false, .int .i64 1, .int .i64 1] from (k179_mkM _ _ _ (⟨(⟨#[105, 110, 100, 105, 114, 101, 99, 116]⟩ : ByteArray), false, 0, 0, false, 1, 1⟩ : S179) )) (Reps.c7 (show Kd.M k179 _ _ _ (⟨(⟨#[98, 105, 110, 100]⟩ : ByteArray), true, 21, 22, true, 1, 1⟩ : S179) [.string (⟨#[98, 105, 110, 100]⟩ : ByteArray), .bool true, .int .i64 21, .int .i64 22, .bool true, .int .i64 1, .int .i64 1] from (k179_mkM _ _ _ (⟨(⟨#[98, 105, 110, 100]⟩ : ByteArray), true, 21, 22, true, 1, 1⟩ : S179) )) (Reps.c7 (show Kd.M k179 _ _ _ (⟨(⟨#[101, 108, 101, 109, 101, 110, 116]⟩ : ByteArray), false, 0, 0, false, 2, 1⟩ : S179) [.string (⟨#[101, 108, 101, 109, 101, 110, 116]⟩ : ByteArray), .bool false, .int .i64 0, .int .i64 0, .bool false, .int .i64 2, .int .i64 1] from (k179_mkM _ _ _ (⟨(⟨#[101, 108, 101, 109, 101, 110, 116]⟩ : ByteArray), false, 0, 0, false, 2, 1⟩ : S179) )) (Reps.c7 (show Kd.M k179 _ _ _ (⟨(⟨#[99, 97, 108, 108]⟩ : ByteArray), true, 0, 6, true, 0, 1⟩ : S179) [.string (⟨#[99, 97, 108, 108]⟩ : ByteArray), .bool true, .int .i64 0, .int .i64 6, .bool true, .int .i64 0, .int .i64 1] from (k179_mkM _ _ _ (⟨(⟨#[99, 97, 108, 108]⟩ : ByteArray), true, 0, 6, true, 0, 1⟩ : S179) )) (Reps.c7 (show Kd.M k179 _ _ _ (⟨(⟨#[112, 111, 112]⟩ : ByteArray), false, 0, 0, false, 1, 0⟩ : S179) [.string (⟨#[112, 111, 112]⟩ : ByteArray), .bool false, .int .i64 0, .int .i64 0, .bool false, .int .i64 1, .int .i64 0] from (k179_mkM _ _ _ (⟨(⟨#[112, 111, 112]⟩ : ByteArray), false, 0, 0, false, 1, 0⟩ : S179) )) (Reps.c7 (show Kd.M k179 _ _ _ (⟨(⟨#[116, 111, 110, 97, 109, 101]⟩ : ByteArray), false, 0, 0, false, 1, 1⟩ : S179) [.string (⟨#[116, 111, 110, 97, 109, 101]⟩ : ByteArray), .bool false, .int .i64 0, .int .i64 0, .bool false, .int .i64 1, .int .i64 1] from (k179_mkM _ _ _ (⟨(⟨#[116, 111, 110, 97, 109, 101]⟩ : ByteArray), false, 0, 0, false, 1, 1⟩ : S179) )) (Reps.c7 (show Kd.M k179 _ _ _ (⟨(⟨#[99, 104, 101, 99, 107, 102, 105, 101, 108, 100]⟩ : ByteArray), false, 0, 0, true, 0, 0⟩ : S179) [.string (⟨#[99, 104, 101, 99, 107, 102, 105, 101, 108, 100]⟩ : ByteArray), .bool false, .int .i64 0, .int .i64 0, .bool true, .int .i64 0, .int .i64 0] from (k179_mkM _ _ _ (⟨(⟨#[99, 104, 101, 99, 107, 102, 105, 101, 108, 100]⟩ : ByteArray), false, 0, 0, true, 0, 0⟩ : S179) )) (Reps.c7 (show Kd.M k179 _ _ _ (⟨(⟨#[115, 116, 111, 114, 101]⟩ : ByteArray), false, 0, 0, true, 1, 0⟩ : S179) [.string (⟨#[115, 116, 111, 114, 101]⟩ : ByteArray), .bool false, .int .i64 0, .int .i64 0, .bool true, .int .i64 1, .int .i64 0] from (k179_mkM _ _ _ (⟨(⟨#[115, 116, 111, 114, 101]⟩ : ByteArray), false, 0, 0, true, 1, 0⟩ : S179) )) (Reps.c7 (show Kd.M k179 _ _ _ (⟨(⟨#[115, 116, 111, 114, 101, 110, 97, 109, 101]⟩ : ByteArray), false, 0, 0, false, 2, 0⟩ : S179) [.string (⟨#[115, 116, 111, 114, 101, 110, 97, 109, 101]⟩ : ByteArray), .bool false, .int .i64 0, .int .i64 0, .bool false, .int .i64 2, .int .i64 0] from (k179_mkM _ _ _ (⟨(⟨#[115, 116, 111, 114, 101, 110, 97, 109, 101]⟩ : ByteArray), false, 0, 0, false, 2, 0⟩ : S179) )) (Reps.c7 (show Kd.M k179 _ _ _ (⟨(⟨#[115, 116, 111, 114, 101, 101, 108, 101, 109, 101, 110, 116]⟩ : ByteArray), false, 0, 0, false, 3, 0⟩ : S179) [.string (⟨#[115, 116, 111, 114, 101, 101, 108, 101, 109, 101, 110, 116]⟩ : ByteArray), .bool false, .int .i64 0, .int .i64 0, .bool false, .int .i64 3, .int .i64 0] from (k179_mkM _ _ _ (⟨(⟨#[115, 116, 111, 114, 101, 101, 108, 101, 109, 101, 110, 116]⟩ : ByteArray), false, 0, 0, false, 3, 0⟩ : S179) )) (Reps.c7 (show Kd.M k179 _ _ _ (⟨(⟨#[115, 116, 111, 114, 101, 102, 105, 101, 108, 100]⟩ : ByteArray), false, 0, 0, true, 2, 0⟩ : S179) [.string (⟨#[115, 116, 111, 114, 101, 102, 105, 101, 108, 100]⟩ : ByteArray), .bool false, .int .i64 0, .int .i64 0, .bool true, .int .i64 2, .int .i64 0] from (k179_mkM _ _ _ (⟨(⟨#[115, 116, 111, 114, 101, 102, 105, 101, 108, 100]⟩ : ByteArray), false, 0, 0, true, 2, 0⟩ : S179) )) (Reps.c7 (show Kd.M k179 _ _ _ (⟨(⟨#[112, 101, 101, 107, 110, 97, 109, 101]⟩ : ByteArray), false, 0, 0, false, 1, 2⟩ : S179) [.string (⟨#[112, 101, 101, 107, 110, 97, 109, 101]⟩ : ByteArray), .bool false, .int .i64 0, .int .i64 0, .bool false, .int .i64 1, .int .i64 2] from (k179_mkM _ _ _ (⟨(⟨#[112, 101, 101, 107, 110, 97, 109, 101]⟩ : ByteArray), false, 0, 0, false, 1, 2⟩ : S179) )) (Reps.c7 (show Kd.M k179 _ _ _ (⟨(⟨#[112, 101, 101, 107, 101, 108, 101, 109, 101, 110, 116]⟩ : ByteArray), false, 0, 0, false, 2, 3⟩ : S179) [.string (⟨#[112, 101, 101, 107, 101, 108, 101, 109, 101, 110, 116]⟩ : ByteArray), .bool false, .int .i64 0, .int .i64 0, .bool false, .int .i64 2, .int .i64 3] from (k179_mkM _ _ _ (⟨(⟨#[112, 101, 101, 107, 101, 108, 101, 109, 101, 110, 116]⟩ : ByteArray), false, 0, 0, false, 2, 3⟩ : S179) )) (Reps.c7 (show Kd.M k179 _ _ _ (⟨(⟨#[112, 101, 101, 107, 102, 105, 101, 108, 100]⟩ : ByteArray), false, 0, 0, true, 1, 2⟩ : S179) [.string (⟨#[112, 101, 101, 107, 102, 105, 101, 108, 100]⟩ : ByteArray), .bool false, .int .i64 0, .int .i64 0, .bool true, .int .i64 1, .int .i64 2] from (k179_mkM _ _ _ (⟨(⟨#[112, 101, 101, 107, 102, 105, 101, 108, 100]⟩ : ByteArray), false, 0, 0, true, 1, 2⟩ : S179) )) (Reps.c7 (show Kd.M k179 _ _ _ (⟨(⟨#[109, 97, 116, 99, 104]⟩ : ByteArray), false, 0, 0, false, 2, 0⟩ : S179) [.string (⟨#[109, 97, 116, 99, 104]⟩ : ByteArray), .bool false, .int .i64 0, .int .i64 0, .bool false, .int .i64 2, .int .i64 0] from (k179_mkM _ _ _ (⟨(⟨#[109, 97, 116, 99, 104]⟩ : ByteArray), false, 0, 0, false, 2, 0⟩ : S179) )) (Reps.c7 (show Kd.M k179 _ _ _ (⟨(⟨#[107, 101, 101, 112]⟩ : ByteArray), false, 0, 0, false, 2, 3⟩ : S179) [.string (⟨#[107, 101, 101, 112]⟩ : ByteArray), .bool false, .int .i64 0, .int .i64 0, .bool false, .int .i64 2, .int .i64 3] from (k179_mkM _ _ _ (⟨(⟨#[107, 101, 101, 112]⟩ : ByteArray), false, 0, 0, false, 2, 3⟩ : S179) )) (Reps.c7 (show Kd.M k179 _ _ _ (⟨(⟨#[114, 101, 112, 108, 97, 99, 101]⟩ : ByteArray), false, 0, 0, false, 4, 1⟩ : S179) [.string (⟨#[114, 101, 112, 108, 97, 99, 101]⟩ : ByteArray), .bool false, .int .i64 0, .int .i64 0, .bool false, .int .i64 4, .int .i64 1] from (k179_mkM _ _ _ (⟨(⟨#[114, 101, 112, 108, 97, 99, 101]⟩ : ByteArray), false, 0, 0, false, 4, 1⟩ : S179) )) (Reps.c7 (show Kd.M k179 _ _ _ (⟨(⟨#[106, 117, 109, 112]⟩ : ByteArray), true, 0, 79, false, 0, 0⟩ : S179) [.string (⟨#[106, 117, 109, 112]⟩ : ByteArray), .bool true, .int .i64 0, .int .i64 79, .bool false, .int .i64 0, .int .i64 0] from (k179_mkM _ _ _ (⟨(⟨#[106, 117, 109, 112]⟩ : ByteArray), true, 0, 79, false, 0, 0⟩ : S179) )) (Reps.c7 (show Kd.M k179 _ _ _ (⟨(⟨#[101, 110, 100]⟩ : ByteArray), false, 0, 0, false, 0, 0⟩ : S179) [.string (⟨#[101, 110, 100]⟩ : ByteArray), .bool false, .int .i64 0, .int .i64 0, .bool false, .int .i64 0, .int .i64 0] from (k179_mkM _ _ _ (⟨(⟨#[101, 110, 100]⟩ : ByteArray), false, 0, 0, false, 0, 0⟩ : S179) )) (Reps.c7 (show Kd.M k179 _ _ _ (⟨(⟨#[114, 101, 116, 117, 114, 110]⟩ : ByteArray), false, 0, 0, false, 0, 0⟩ : S179) [.string (⟨#[114, 101, 116, 117, 114, 110]⟩ : ByteArray), .bool false, .int .i64 0, .int .i64 0, .bool false, .int .i64 0, .int .i64 0] from (k179_mkM _ _ _ (⟨(⟨#[114, 101, 116, 117, 114, 110]⟩ : ByteArray), false, 0, 0, false, 0, 0⟩ : S179) )) (Reps.c7 (show Kd.M k179 _ _ _ (⟨(⟨#[102, 114, 101, 116, 117, 114, 110]⟩ : ByteArray), false, 0, 0, false, 0, 0⟩ : S179) [.string (⟨#[102, 114, 101, 116, 117, 114, 110]⟩ : ByteArray), .bool false, .int .i64 0, .int .i64 0, .bool false, .int .i64 0, .int .i64 0] from (k179_mkM _ _ _ (⟨(⟨#[102, 114, 101, 116, 117, 114, 110]⟩ : ByteArray), false, 0, 0, false, 0, 0⟩ : S179) )) (Reps.c7 (show Kd.M k179 _ _ _ (⟨(⟨#[102, 97, 117, 108, 116]⟩ : ByteArray), true, 1, 11, false, 0, 0⟩ : S179) [.string (⟨#[102, 97, 117, 108, 116]⟩ : ByteArray), .bool true, .int .i64 1, .int .i64 11, .bool false, .int .i64 0, .int .i64 0] from (k179_mkM _ _ _ (⟨(⟨#[102, 97, 117, 108, 116]⟩ : ByteArray), true, 1, 11, false, 0, 0⟩ : S179) )) (Reps.none _ _))))))))))))))))))))))))))))))))); intro v127 w1 ho2 hb hg_ hnew_; clear hg_ hnew_; (first | rw [← Ny126.out] at ho2 | (simp only [Int.reduceToNat] at ho2; rw [← Ny126.out] at ho2)); have n0_ := Aside0.mk (Kd.R_lower ho2 (below_size (sH HB.out))); have n1_ := sB HB hb; clear HB; have HO128 := n0_; have HB := n1_; clear n0_ n1_; clear hb ho2))
 go_ret
 exact ⟨_, sq, by exact sE HO128.out, sb⟩

/-! ### impl_Instr_form: function 115 -/
def impl_Instr_form.f (a0_0 : Int) (a0_1 : Int) (a0_2 : ByteArray) : Option (ByteArray × Bool × Int × Int × Bool × Int × Int) := (impl_instrForms.f).bind fun t131 => (if 0 ≤ (wrap64 (a0_0 - 1)) then (if (wrap64 (a0_0 - 1)) < (t131.length : Int) then (some ((rd_T179 t131 (wrap64 (a0_0 - 1))).f0, (rd_T179 t131 (wrap64 (a0_0 - 1))).f1, (rd_T179 t131 (wrap64 (a0_0 - 1))).f2, (rd_T179 t131 (wrap64 (a0_0 - 1))).f3, (rd_T179 t131 (wrap64 (a0_0 - 1))).f4, (rd_T179 t131 (wrap64 (a0_0 - 1))).f5, (rd_T179 t131 (wrap64 (a0_0 - 1))).f6)) else (none)) else (none))
set_option maxHeartbeats 8000000 in
set_option maxRecDepth 100000 in
theorem impl_Instr_form.calls (a0_0 : Int) (a0_1 : Int) (a0_2 : ByteArray) (r1 : ByteArray) (r2 : Bool) (r3 : Int) (r4 : Int) (r5 : Bool) (r6 : Int) (r7 : Int) (w : World) (h : impl_Instr_form.f a0_0 a0_1 a0_2 = some (r1, r2, r3, r4, r5, r6, r7)) :
  Calls Try.prog 115 #[.agg #[.int .i64 a0_0, .int .i64 a0_1, .string a0_2]] w fun e w' => e = .returned (.agg #[.string r1, .bool r2, .int .i64 r3, .int .i64 r4, .bool r5, .int .i64 r6, .int .i64 r7]) ∧ Below w.heap.size w w' := by
 have hu106 := Try.underlying106
 have hu179 := Try.underlying179
 have HB := Aside0.mk (Below.refl w.heap.size w)
 have H : ((impl_instrForms.f).bind fun t131 => (if 0 ≤ (wrap64 (a0_0 - 1)) then (if (wrap64 (a0_0 - 1)) < (t131.length : Int) then (some ((rd_T179 t131 (wrap64 (a0_0 - 1))).f0, (rd_T179 t131 (wrap64 (a0_0 - 1))).f1, (rd_T179 t131 (wrap64 (a0_0 - 1))).f2, (rd_T179 t131 (wrap64 (a0_0 - 1))).f3, (rd_T179 t131 (wrap64 (a0_0 - 1))).f4, (rd_T179 t131 (wrap64 (a0_0 - 1))).f5, (rd_T179 t131 (wrap64 (a0_0 - 1))).f6)) else (none)) else (none))) = some (r1, r2, r3, r4, r5, r6, r7) := h
 clear h
 obtain ⟨t131, A2, H⟩ := sO H
 obtain ⟨ji3, hji3⟩ : ∃ j_ : Int, (wrap64 (a0_0 - 1)) = j_ := ⟨_, rfl⟩
 replace H : (if 0 ≤ (ji3) then (if (ji3) < (t131.length : Int) then (some ((rd_T179 t131 (ji3)).f0, (rd_T179 t131 (ji3)).f1, (rd_T179 t131 (ji3)).f2, (rd_T179 t131 (ji3)).f3, (rd_T179 t131 (ji3)).f4, (rd_T179 t131 (ji3)).f5, (rd_T179 t131 (ji3)).f6)) else (none)) else (none)) = some (r1, r2, r3, r4, r5, r6, r7) := by first | (rw [hji3] at H; exact H) | (simp only [hji3] at H ⊢; exact H)
 (try rw [hji3] at A2)
 have hji3w : (IntKind.i64.wrap (a0_0 - 1)) = ji3 := (i64_w _).trans hji3
 by_cases c4 : 0 ≤ (ji3)
 ·rw [if_pos c4] at H
  have c4b0 := decide_eq_true c4
  clear c4
  by_cases c5 : (ji3) < (t131.length : Int)
  ·rw [if_pos c5] at H
   have c5b0 := decide_eq_true c5
   clear c5
   simp only [Option.some.injEq, Prod.mk.injEq] at H
   obtain ⟨rfl, rfl, rfl, rfl, rfl, rfl, rfl⟩ := H
   go_enter Try.func115, Try.ntmps115
   try go_wp2_with (first | ((with_reducible refine gate_dst (N := 1) rfl ?_); refine sV (N := 1) (cs := #[.int .i64 a0_0, .int .i64 a0_1, .string a0_2]) (t := 106) ?_; intro gb129 hg w6 hbox hb; have n0_ := sB HB hb; have n1_ := Aside0.mk (hbox); have n2_ := sG HB hg; have n3_ := sG HB hg; clear HB; have HB := n0_; have BK129 := n1_; have GW129 := n2_; have GE129 := n3_; clear n0_ n1_ n2_ n3_; clear hb hbox hg) | ((with_reducible refine gate_dst (N := 2) rfl ?_); refine sV (N := 2) (cs := #[.string (⟨#[]⟩ : ByteArray), .bool false, .int .i64 0, .int .i64 0, .bool false, .int .i64 0, .int .i64 0]) (t := 179) ?_; intro gb130 hg w7 hbox hb; have n0_ := sK BK129 hb; have n1_ := sB HB hb; have n2_ := Aside0.mk (hbox); have n3_ := sG HB hg; have n4_ := sG HB hg; have n5_ := sN BK129 hg; have n6_ := sM BK129 hg; clear BK129; clear HB; have BK129 := n0_; have HB := n1_; have BK130 := n2_; have GW130 := n3_; have GE130 := n4_; have NB129_130 := n5_; have NB130_129 := n6_; clear n0_ n1_ n2_ n3_ n4_ n5_ n6_; clear hb hbox hg))
   have n0_ := Aside0.mk (blk_drew BK129.out)
   have n1_ := Aside0.mk (blk_drew BK130.out)
   have n2_ := Aside0.mk (below_drew1 HB.out)
   clear BK129
   clear BK130
   clear HB
   have BK129 := n0_
   have BK130 := n1_
   have HB := n2_
   clear n0_ n1_ n2_
   refine start_ (n := 7) (S := fun w' => w'.cell? ⟨gb129, 0, none⟩ = some (.int .i64 a0_0) ∧ w'.cell? ⟨gb129, 1, none⟩ = some (.int .i64 a0_1) ∧ w'.cell? ⟨gb129, 2, none⟩ = some (.string a0_2)) (ds := [5]) #[false, false, false, false, false, false, false] (by kernel_rfl) rfl rfl ⟨(blk_cell BK129.out 0).trans rfl, (blk_cell BK129.out 1).trans rfl, (blk_cell BK129.out 2).trans rfl⟩ (fun hHeld => ?_)
   generalize w7.drew = w8 at BK129 BK130 HB hHeld ⊢
   refine pure_ (i := 1) (N := some 4) (v := ?_) (a' := ?_) #[false, true, false, false, false, false, false] rfl rfl (by kernel_rfl) (fun _ _ _ h => h) (Or.inl ⟨by rfl, ?_⟩) ?_ ?_
   rotate_left
   ·intro w'
    go_simp
    with_reducible rfl
   rotate_left
   ·simp only [Act.put, List.setIfInBounds_toArray, List.set_cons_zero, List.set_cons_succ, i64_w, i32_w]
    rfl
   refine take_ (i := 2) (N := some 5) (v := ?_) (a' := ?_) #[false, true, true, false, false, false, false] rfl rfl (by kernel_rfl) (fun _ _ _ h => h) (Or.inl ⟨by rfl, ?_⟩) hHeld ?_ ?_
   rotate_left
   ·rintro w' ⟨s0, s1, s2⟩
    go_simp
    with_reducible rfl
   rotate_left
   ·simp only [Act.put, List.setIfInBounds_toArray, List.set_cons_zero, List.set_cons_succ, i64_w, i32_w]
    rfl
   refine pure_ (i := 3) (N := some 6) (v := ?_) (a' := ?_) #[false, true, true, true, false, false, false] rfl rfl (by kernel_rfl) (fun _ _ _ h => h) (Or.inl ⟨by rfl, ?_⟩) ?_ ?_
   rotate_left
   ·intro w'
    go_simp
    with_reducible rfl
   rotate_left
   ·simp only [Act.put, List.setIfInBounds_toArray, List.set_cons_zero, List.set_cons_succ, i64_w, i32_w]
    rfl
   refine one_ (i := 0) (N := some 3) #[true, true, true, true, false, false, false] rfl rfl (by kernel_rfl) (by decide) (fun K hK => ?_)
   refine goes_ Try.func170 (by kernel_rfl) rfl #[] (by rfl) rfl rfl (by (try simp only [List.map_toArray, List.map_cons, List.map_nil]); first | done | rfl | (simp only [List.length_drop, List.length_take]; rfl)) ?_
   with_reducible refine (impl_instrForms.calls  t131 _ A2.out).mono ?_
   rintro e w9 ⟨v132, rfl, ho0, hb⟩
   refine ⟨_, rfl, ?_⟩
   have n0_ := Aside0.mk (Kd.R_lower (Kd.R_newB ho0 (g := gb130) (o := .cells #[.string (⟨#[]⟩ : ByteArray), .bool false, .int .i64 0, .int .i64 0, .bool false, .int .i64 0, .int .i64 0] 179 (0, 0)) (sT BK130.out)) (below_size (by repeat (first | (with_reducible first | exact HB.out | apply below_alloc | apply pw_below_drewN | apply below_drew1 | refine below_set ?_ GE129.out | refine below_set ?_ GE130.out) | exact HB.out))))
   have n1_ := sK BK129 hb
   have n2_ := sK BK130 hb
   have n3_ := sB HB hb
   clear BK129
   clear BK130
   clear HB
   have HO133 := n0_
   have BK129 := n1_
   have BK130 := n2_
   have HB := n3_
   clear n0_ n1_ n2_ n3_
   (try clear hb)
   (try clear hb2)
   (try clear hk)
   (try clear hi)
   (try clear ho0)
   obtain ⟨Ao10, co10, eo10⟩ := Kd.R_slice HO133.out
   (first | subst eo10 | (injection eo10 with f1_ f2_ f3_; have f4_ := f1_.symm; have f5_ := f3_.symm; clear f1_ f2_ f3_; subst f4_; subst f5_))
   have p134 : 0 ≤ ((ji3) : Int) := of_decide_eq_true (by first | (with_reducible assumption) | assumption)
   have q134 : (ji3) < (t131.length : Int) := of_decide_eq_true (by first | (with_reducible assumption) | assumption)
   obtain ⟨ad134, e134, hx134_0, hx134_1, hx134_2, hx134_3, hx134_4, hx134_5, hx134_6⟩ := at_T179 (Kd.R_reads' HO133.out).2.2 (ji3) p134 q134
   cases e134
   replace p134 := eq_true p134
   replace q134 := eq_true q134
   refine hK.out _ _ ⟨(blk_cell BK129.out 0).trans rfl, (blk_cell BK129.out 1).trans rfl, (blk_cell BK129.out 2).trans rfl⟩ (fun hHeld => ?_)
   clear hK K
   refine norm_ (a' := ?_) ?_ ?_
   rotate_left
   ·show Act.put _ (some 3) _ = _
    simp only [Act.put, List.setIfInBounds_toArray, List.set_cons_zero, List.set_cons_succ, i64_w, i32_w]
    rfl
   refine pure_ (i := 4) (N := some 7) (v := ?_) (a' := ?_) #[true, true, true, true, true, false, false] rfl rfl (by kernel_rfl) (fun _ _ _ h => h) (Or.inl ⟨by rfl, ?_⟩) ?_ ?_
   rotate_left
   ·intro w'
    go_simp
    with_reducible rfl
   rotate_left
   ·simp only [Act.put, List.setIfInBounds_toArray, List.set_cons_zero, List.set_cons_succ, i64_w, i32_w]
    rfl
   refine last_ (i := 5) (N := some 8) #[true, true, true, true, true, true, false] rfl rfl (by kernel_rfl) (by decide) (fun K hK => ?_)
   refine value_ (w1 := ?_) (v := ?_) (by rfl) rfl ?_ ?_
   rotate_left 2
   ·go_simp
    constructor
    ·rfl
    ·rfl
   refine hK.out _ _ ?_
   clear hK K
   refine norm_ (a' := ?_) ?_ ?_
   rotate_left
   ·show Act.put _ (some 8) _ = _
    simp only [Act.put, List.setIfInBounds_toArray, List.set_cons_zero, List.set_cons_succ, i64_w, i32_w]
    rfl
   refine one_ (i := 6) (N := none) #[true, true, true, true, true, true, true] rfl rfl (by kernel_rfl) (by decide) (fun K hK => ?_)
   have hs11 : w9.cell? ⟨gb130, 0, none⟩ = some (.string (⟨#[]⟩ : ByteArray)) := (blk_cell BK130.out 0).trans rfl
   have hfs11 := blk_frozen BK130.out 0
   have hns11_0 := NB129_130.out
   have hms11_0 := NB130_129.out
   have hs12 : w9.cell? ⟨gb130, 1, none⟩ = some (.bool false) := (blk_cell BK130.out 1).trans rfl
   have hfs12 := blk_frozen BK130.out 1
   have hns12_0 := NB129_130.out
   have hms12_0 := NB130_129.out
   have hs13 : w9.cell? ⟨gb130, 2, none⟩ = some (.int .i64 0) := (blk_cell BK130.out 2).trans rfl
   have hfs13 := blk_frozen BK130.out 2
   have hns13_0 := NB129_130.out
   have hms13_0 := NB130_129.out
   have hs14 : w9.cell? ⟨gb130, 3, none⟩ = some (.int .i64 0) := (blk_cell BK130.out 3).trans rfl
   have hfs14 := blk_frozen BK130.out 3
   have hns14_0 := NB129_130.out
   have hms14_0 := NB130_129.out
   have hs15 : w9.cell? ⟨gb130, 4, none⟩ = some (.bool false) := (blk_cell BK130.out 4).trans rfl
   have hfs15 := blk_frozen BK130.out 4
   have hns15_0 := NB129_130.out
   have hms15_0 := NB130_129.out
   have hs16 : w9.cell? ⟨gb130, 5, none⟩ = some (.int .i64 0) := (blk_cell BK130.out 5).trans rfl
   have hfs16 := blk_frozen BK130.out 5
   have hns16_0 := NB129_130.out
   have hms16_0 := NB130_129.out
   have hs17 : w9.cell? ⟨gb130, 6, none⟩ = some (.int .i64 0) := (blk_cell BK130.out 6).trans rfl
   have hfs17 := blk_frozen BK130.out 6
   have hns17_0 := NB129_130.out
   have hms17_0 := NB130_129.out
   refine skip_ (w1 := ?_) (by rfl) rfl ?_ ?_
   rotate_left
   ·go_simp
    rfl
   refine hK.out _ _ ⟨(sQ7 (g := gb130) NB129_130.out (hHeld.1)), (sQ7 (g := gb130) NB129_130.out (hHeld.2.1)), (sQ7 (g := gb130) NB129_130.out (hHeld.2.2))⟩ (fun hHeld => ?_)
   clear hK K
   refine done_ (by kernel_rfl) ?_
   try go_wp2
   refine bodyPost_ret (results_cell_row rfl _ _ gb130 179 #[.string ((rd_T179 t131 (ji3)).f0), .bool ((rd_T179 t131 (ji3)).f1), .int .i64 ((rd_T179 t131 (ji3)).f2), .int .i64 ((rd_T179 t131 (ji3)).f3), .bool ((rd_T179 t131 (ji3)).f4), .int .i64 ((rd_T179 t131 (ji3)).f5), .int .i64 ((rd_T179 t131 (ji3)).f6)] (0, 0) _ rfl (by exact sP7 (sT BK130.out)) Try.underlying179 rfl (by kernel_rfl)) rfl ?_
   exact ⟨by first | rfl | (simp [errW_none, errW_some] <;> rfl) | (simp only [← hji3]; first | rfl | (simp [errW_none, errW_some] <;> rfl)) | (simp [*, errW_none, errW_some] <;> rfl), sb⟩
  rw [if_neg c5] at H
  exact absurd H (by simp)
 rw [if_neg c4] at H
 exact absurd H (by simp)
end Go.Proofs.Ytabbpnkbhapibaa.PFnExactValidInstr
