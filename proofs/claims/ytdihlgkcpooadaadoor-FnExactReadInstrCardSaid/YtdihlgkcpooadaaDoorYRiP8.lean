/- Printed functions: strings_Cut, impl_instrForms, impl_Instr_form. -/
import Derived.Test.YtdihlgkcpooadaaDoorYRiP0
namespace Go.Proofs.YtdihlgkcpooadaaDoor.PFnExactReadInstr
open Go.RowKit Go.Proofs.YtdihlgkcpooadaaDoorG Go.Proofs.YtdihlgkcpooadaaDoorW.PrintWords Go.Proofs.YtdihlgkcpooadaaDoorW.PrintLast Go.Proofs.YtdihlgkcpooadaaDoorW.PrintMore
attribute [local go_sem] max2_int min2_int max_two min_two max_three min_three max_four min_four   -- for this text's walks alone
set_option linter.unusedVariables false
set_option linter.unusedSimpArgs false
/-! ### strings_Cut: function 13 -/
def strings_Cut.f (a0 : ByteArray) (a1 : ByteArray) : Option (ByteArray × ByteArray × Bool) := if a1.toList = ([32] : List UInt8) then (if a0.size < 4294967281 then some (⟨(Lib.cut a0.data.toList [32]).1.toArray⟩, ⟨(Lib.cut a0.data.toList [32]).2.1.toArray⟩, (Lib.cut a0.data.toList [32]).2.2) else (none)) else (none)
theorem strings_Cut.calls (a0 : ByteArray) (a1 : ByteArray) (r1 : ByteArray) (r2 : ByteArray) (r3 : Bool) (w : World) (h : strings_Cut.f a0 a1 = some (r1, r2, r3)) (HT : EnvT w) :
  Calls Tryd.prog 13 #[.string a0, .string a1] w fun e w' => e = .returned (.tuple #[.string r1, .string r2, .bool r3]) ∧ Below w.heap.size w w' := by
 unfold strings_Cut.f at h
 split at h
 · rename_i h1
   obtain rfl : a1 = ⟨#[32]⟩ := by
    rw [Go.ByteArray.toList_eq] at h1
    exact ByteArray.ext (Array.toList_inj.1 h1)
   split at h
   · rename_i h2
     have h3 := Option.some.inj h
     simp only [Prod.mk.injEq] at h3
     obtain ⟨rfl, rfl, rfl⟩ := h3
     refine (cut_calls a0 ⟨#[32]⟩ w HT h2).mono ?_
     rintro e w' ⟨he, n, rfl⟩
     exact ⟨he, pw_below_drewN (Below.refl _ _) n⟩
   · cases h
 · cases h

/-! ### impl_instrForms: function 15 -/
def impl_instrForms.f  : Option ((List (S43))) := some (([(⟨(⟨#[115, 116, 101, 112]⟩ : ByteArray), true, 0, 79, false, 0, 0⟩ : S43), (⟨(⟨#[115, 116, 114, 105, 110, 103]⟩ : ByteArray), false, 0, 0, true, 0, 1⟩ : S43), (⟨(⟨#[105, 110, 116, 101, 103, 101, 114]⟩ : ByteArray), true, 0, 1000000000000, false, 0, 1⟩ : S43), (⟨(⟨#[108, 111, 97, 100]⟩ : ByteArray), false, 0, 0, true, 0, 1⟩ : S43), (⟨(⟨#[110, 97, 109, 101, 111, 102]⟩ : ByteArray), false, 0, 0, true, 0, 1⟩ : S43), (⟨(⟨#[100, 101, 102, 101, 114]⟩ : ByteArray), false, 0, 0, true, 0, 1⟩ : S43), (⟨(⟨#[99, 117, 114, 115, 111, 114]⟩ : ByteArray), false, 0, 0, true, 0, 1⟩ : S43), (⟨(⟨#[98, 105, 110, 97, 114, 121]⟩ : ByteArray), true, 6, 11, false, 2, 1⟩ : S43), (⟨(⟨#[110, 101, 103, 97, 116, 101]⟩ : ByteArray), false, 0, 0, false, 1, 1⟩ : S43), (⟨(⟨#[105, 110, 100, 105, 114, 101, 99, 116]⟩ : ByteArray), false, 0, 0, false, 1, 1⟩ : S43), (⟨(⟨#[98, 105, 110, 100]⟩ : ByteArray), true, 21, 22, true, 1, 1⟩ : S43), (⟨(⟨#[101, 108, 101, 109, 101, 110, 116]⟩ : ByteArray), false, 0, 0, false, 2, 1⟩ : S43), (⟨(⟨#[99, 97, 108, 108]⟩ : ByteArray), true, 0, 6, true, 0, 1⟩ : S43), (⟨(⟨#[112, 111, 112]⟩ : ByteArray), false, 0, 0, false, 1, 0⟩ : S43), (⟨(⟨#[116, 111, 110, 97, 109, 101]⟩ : ByteArray), false, 0, 0, false, 1, 1⟩ : S43), (⟨(⟨#[99, 104, 101, 99, 107, 102, 105, 101, 108, 100]⟩ : ByteArray), false, 0, 0, true, 0, 0⟩ : S43), (⟨(⟨#[115, 116, 111, 114, 101]⟩ : ByteArray), false, 0, 0, true, 1, 0⟩ : S43), (⟨(⟨#[115, 116, 111, 114, 101, 110, 97, 109, 101]⟩ : ByteArray), false, 0, 0, false, 2, 0⟩ : S43), (⟨(⟨#[115, 116, 111, 114, 101, 101, 108, 101, 109, 101, 110, 116]⟩ : ByteArray), false, 0, 0, false, 3, 0⟩ : S43), (⟨(⟨#[115, 116, 111, 114, 101, 102, 105, 101, 108, 100]⟩ : ByteArray), false, 0, 0, true, 2, 0⟩ : S43), (⟨(⟨#[112, 101, 101, 107, 110, 97, 109, 101]⟩ : ByteArray), false, 0, 0, false, 1, 2⟩ : S43), (⟨(⟨#[112, 101, 101, 107, 101, 108, 101, 109, 101, 110, 116]⟩ : ByteArray), false, 0, 0, false, 2, 3⟩ : S43), (⟨(⟨#[112, 101, 101, 107, 102, 105, 101, 108, 100]⟩ : ByteArray), false, 0, 0, true, 1, 2⟩ : S43), (⟨(⟨#[109, 97, 116, 99, 104]⟩ : ByteArray), false, 0, 0, false, 2, 0⟩ : S43), (⟨(⟨#[107, 101, 101, 112]⟩ : ByteArray), false, 0, 0, false, 2, 3⟩ : S43), (⟨(⟨#[114, 101, 112, 108, 97, 99, 101]⟩ : ByteArray), false, 0, 0, false, 4, 1⟩ : S43), (⟨(⟨#[106, 117, 109, 112]⟩ : ByteArray), true, 0, 79, false, 0, 0⟩ : S43), (⟨(⟨#[101, 110, 100]⟩ : ByteArray), false, 0, 0, false, 0, 0⟩ : S43), (⟨(⟨#[114, 101, 116, 117, 114, 110]⟩ : ByteArray), false, 0, 0, false, 0, 0⟩ : S43), (⟨(⟨#[102, 114, 101, 116, 117, 114, 110]⟩ : ByteArray), false, 0, 0, false, 0, 0⟩ : S43), (⟨(⟨#[102, 97, 117, 108, 116]⟩ : ByteArray), true, 1, 11, false, 0, 0⟩ : S43)] : List (S43)))
set_option maxHeartbeats 8000000 in
set_option maxRecDepth 100000 in
theorem impl_instrForms.calls  (r : List (S43)) (w : World) (h : impl_instrForms.f  = some r) :
  Calls Tryd.prog 15 #[] w fun e w' => ∃ v0_ : Value, e = .returned (v0_) ∧ Kd.R k43 43 w' w.heap.size (fun _ => True) v0_ r ∧ Below w.heap.size w w' := by
 have hu43 := Tryd.underlying43
 have HB := Aside0.mk (Below.refl w.heap.size w)
 have H : (some (([(⟨(⟨#[115, 116, 101, 112]⟩ : ByteArray), true, 0, 79, false, 0, 0⟩ : S43), (⟨(⟨#[115, 116, 114, 105, 110, 103]⟩ : ByteArray), false, 0, 0, true, 0, 1⟩ : S43), (⟨(⟨#[105, 110, 116, 101, 103, 101, 114]⟩ : ByteArray), true, 0, 1000000000000, false, 0, 1⟩ : S43), (⟨(⟨#[108, 111, 97, 100]⟩ : ByteArray), false, 0, 0, true, 0, 1⟩ : S43), (⟨(⟨#[110, 97, 109, 101, 111, 102]⟩ : ByteArray), false, 0, 0, true, 0, 1⟩ : S43), (⟨(⟨#[100, 101, 102, 101, 114]⟩ : ByteArray), false, 0, 0, true, 0, 1⟩ : S43), (⟨(⟨#[99, 117, 114, 115, 111, 114]⟩ : ByteArray), false, 0, 0, true, 0, 1⟩ : S43), (⟨(⟨#[98, 105, 110, 97, 114, 121]⟩ : ByteArray), true, 6, 11, false, 2, 1⟩ : S43), (⟨(⟨#[110, 101, 103, 97, 116, 101]⟩ : ByteArray), false, 0, 0, false, 1, 1⟩ : S43), (⟨(⟨#[105, 110, 100, 105, 114, 101, 99, 116]⟩ : ByteArray), false, 0, 0, false, 1, 1⟩ : S43), (⟨(⟨#[98, 105, 110, 100]⟩ : ByteArray), true, 21, 22, true, 1, 1⟩ : S43), (⟨(⟨#[101, 108, 101, 109, 101, 110, 116]⟩ : ByteArray), false, 0, 0, false, 2, 1⟩ : S43), (⟨(⟨#[99, 97, 108, 108]⟩ : ByteArray), true, 0, 6, true, 0, 1⟩ : S43), (⟨(⟨#[112, 111, 112]⟩ : ByteArray), false, 0, 0, false, 1, 0⟩ : S43), (⟨(⟨#[116, 111, 110, 97, 109, 101]⟩ : ByteArray), false, 0, 0, false, 1, 1⟩ : S43), (⟨(⟨#[99, 104, 101, 99, 107, 102, 105, 101, 108, 100]⟩ : ByteArray), false, 0, 0, true, 0, 0⟩ : S43), (⟨(⟨#[115, 116, 111, 114, 101]⟩ : ByteArray), false, 0, 0, true, 1, 0⟩ : S43), (⟨(⟨#[115, 116, 111, 114, 101, 110, 97, 109, 101]⟩ : ByteArray), false, 0, 0, false, 2, 0⟩ : S43), (⟨(⟨#[115, 116, 111, 114, 101, 101, 108, 101, 109, 101, 110, 116]⟩ : ByteArray), false, 0, 0, false, 3, 0⟩ : S43), (⟨(⟨#[115, 116, 111, 114, 101, 102, 105, 101, 108, 100]⟩ : ByteArray), false, 0, 0, true, 2, 0⟩ : S43), (⟨(⟨#[112, 101, 101, 107, 110, 97, 109, 101]⟩ : ByteArray), false, 0, 0, false, 1, 2⟩ : S43), (⟨(⟨#[112, 101, 101, 107, 101, 108, 101, 109, 101, 110, 116]⟩ : ByteArray), false, 0, 0, false, 2, 3⟩ : S43), (⟨(⟨#[112, 101, 101, 107, 102, 105, 101, 108, 100]⟩ : ByteArray), false, 0, 0, true, 1, 2⟩ : S43), (⟨(⟨#[109, 97, 116, 99, 104]⟩ : ByteArray), false, 0, 0, false, 2, 0⟩ : S43), (⟨(⟨#[107, 101, 101, 112]⟩ : ByteArray), false, 0, 0, false, 2, 3⟩ : S43), (⟨(⟨#[114, 101, 112, 108, 97, 99, 101]⟩ : ByteArray), false, 0, 0, false, 4, 1⟩ : S43), (⟨(⟨#[106, 117, 109, 112]⟩ : ByteArray), true, 0, 79, false, 0, 0⟩ : S43), (⟨(⟨#[101, 110, 100]⟩ : ByteArray), false, 0, 0, false, 0, 0⟩ : S43), (⟨(⟨#[114, 101, 116, 117, 114, 110]⟩ : ByteArray), false, 0, 0, false, 0, 0⟩ : S43), (⟨(⟨#[102, 114, 101, 116, 117, 114, 110]⟩ : ByteArray), false, 0, 0, false, 0, 0⟩ : S43), (⟨(⟨#[102, 97, 117, 108, 116]⟩ : ByteArray), true, 1, 11, false, 0, 0⟩ : S43)] : List (S43)))) = some r := h
 clear h
 obtain ⟨y163, hy163⟩ : ∃ y_ : List (S43), y_ = (([(⟨(⟨#[115, 116, 101, 112]⟩ : ByteArray), true, 0, 79, false, 0, 0⟩ : S43), (⟨(⟨#[115, 116, 114, 105, 110, 103]⟩ : ByteArray), false, 0, 0, true, 0, 1⟩ : S43), (⟨(⟨#[105, 110, 116, 101, 103, 101, 114]⟩ : ByteArray), true, 0, 1000000000000, false, 0, 1⟩ : S43), (⟨(⟨#[108, 111, 97, 100]⟩ : ByteArray), false, 0, 0, true, 0, 1⟩ : S43), (⟨(⟨#[110, 97, 109, 101, 111, 102]⟩ : ByteArray), false, 0, 0, true, 0, 1⟩ : S43), (⟨(⟨#[100, 101, 102, 101, 114]⟩ : ByteArray), false, 0, 0, true, 0, 1⟩ : S43), (⟨(⟨#[99, 117, 114, 115, 111, 114]⟩ : ByteArray), false, 0, 0, true, 0, 1⟩ : S43), (⟨(⟨#[98, 105, 110, 97, 114, 121]⟩ : ByteArray), true, 6, 11, false, 2, 1⟩ : S43), (⟨(⟨#[110, 101, 103, 97, 116, 101]⟩ : ByteArray), false, 0, 0, false, 1, 1⟩ : S43), (⟨(⟨#[105, 110, 100, 105, 114, 101, 99, 116]⟩ : ByteArray), false, 0, 0, false, 1, 1⟩ : S43), (⟨(⟨#[98, 105, 110, 100]⟩ : ByteArray), true, 21, 22, true, 1, 1⟩ : S43), (⟨(⟨#[101, 108, 101, 109, 101, 110, 116]⟩ : ByteArray), false, 0, 0, false, 2, 1⟩ : S43), (⟨(⟨#[99, 97, 108, 108]⟩ : ByteArray), true, 0, 6, true, 0, 1⟩ : S43), (⟨(⟨#[112, 111, 112]⟩ : ByteArray), false, 0, 0, false, 1, 0⟩ : S43), (⟨(⟨#[116, 111, 110, 97, 109, 101]⟩ : ByteArray), false, 0, 0, false, 1, 1⟩ : S43), (⟨(⟨#[99, 104, 101, 99, 107, 102, 105, 101, 108, 100]⟩ : ByteArray), false, 0, 0, true, 0, 0⟩ : S43), (⟨(⟨#[115, 116, 111, 114, 101]⟩ : ByteArray), false, 0, 0, true, 1, 0⟩ : S43), (⟨(⟨#[115, 116, 111, 114, 101, 110, 97, 109, 101]⟩ : ByteArray), false, 0, 0, false, 2, 0⟩ : S43), (⟨(⟨#[115, 116, 111, 114, 101, 101, 108, 101, 109, 101, 110, 116]⟩ : ByteArray), false, 0, 0, false, 3, 0⟩ : S43), (⟨(⟨#[115, 116, 111, 114, 101, 102, 105, 101, 108, 100]⟩ : ByteArray), false, 0, 0, true, 2, 0⟩ : S43), (⟨(⟨#[112, 101, 101, 107, 110, 97, 109, 101]⟩ : ByteArray), false, 0, 0, false, 1, 2⟩ : S43), (⟨(⟨#[112, 101, 101, 107, 101, 108, 101, 109, 101, 110, 116]⟩ : ByteArray), false, 0, 0, false, 2, 3⟩ : S43), (⟨(⟨#[112, 101, 101, 107, 102, 105, 101, 108, 100]⟩ : ByteArray), false, 0, 0, true, 1, 2⟩ : S43), (⟨(⟨#[109, 97, 116, 99, 104]⟩ : ByteArray), false, 0, 0, false, 2, 0⟩ : S43), (⟨(⟨#[107, 101, 101, 112]⟩ : ByteArray), false, 0, 0, false, 2, 3⟩ : S43), (⟨(⟨#[114, 101, 112, 108, 97, 99, 101]⟩ : ByteArray), false, 0, 0, false, 4, 1⟩ : S43), (⟨(⟨#[106, 117, 109, 112]⟩ : ByteArray), true, 0, 79, false, 0, 0⟩ : S43), (⟨(⟨#[101, 110, 100]⟩ : ByteArray), false, 0, 0, false, 0, 0⟩ : S43), (⟨(⟨#[114, 101, 116, 117, 114, 110]⟩ : ByteArray), false, 0, 0, false, 0, 0⟩ : S43), (⟨(⟨#[102, 114, 101, 116, 117, 114, 110]⟩ : ByteArray), false, 0, 0, false, 0, 0⟩ : S43), (⟨(⟨#[102, 97, 117, 108, 116]⟩ : ByteArray), true, 1, 11, false, 0, 0⟩ : S43)] : List (S43))) := ⟨_, rfl⟩
 replace H : (some y163) = some r := by first | (rw [hy163]; with_reducible exact H) | (have H2_ := (Option.bind_some _ _).symm.trans H; rw [hy163]; with_reducible exact H2_) | (have H2_ := (Option.bind_some _ _).symm.trans H; with_reducible exact H2_) | with_reducible exact H | (rw [hy163]; exact H) | exact H
 have Ny163 := Aside0.mk hy163
 clear hy163
 obtain rfl := Option.some.inj H
 go_enter Tryd.func15, Tryd.ntmps15
 go_wp2_with (first | ((with_reducible refine gate_dst (N := 32) rfl ?_); refine Kd.R_lit k43 _ 43 ?hg (N := 32) ?hd (xs := ([(⟨(⟨#[115, 116, 101, 112]⟩ : ByteArray), true, 0, 79, false, 0, 0⟩ : S43), (⟨(⟨#[115, 116, 114, 105, 110, 103]⟩ : ByteArray), false, 0, 0, true, 0, 1⟩ : S43), (⟨(⟨#[105, 110, 116, 101, 103, 101, 114]⟩ : ByteArray), true, 0, 1000000000000, false, 0, 1⟩ : S43), (⟨(⟨#[108, 111, 97, 100]⟩ : ByteArray), false, 0, 0, true, 0, 1⟩ : S43), (⟨(⟨#[110, 97, 109, 101, 111, 102]⟩ : ByteArray), false, 0, 0, true, 0, 1⟩ : S43), (⟨(⟨#[100, 101, 102, 101, 114]⟩ : ByteArray), false, 0, 0, true, 0, 1⟩ : S43), (⟨(⟨#[99, 117, 114, 115, 111, 114]⟩ : ByteArray), false, 0, 0, true, 0, 1⟩ : S43), (⟨(⟨#[98, 105, 110, 97, 114, 121]⟩ : ByteArray), true, 6, 11, false, 2, 1⟩ : S43), (⟨(⟨#[110, 101, 103, 97, 116, 101]⟩ : ByteArray), false, 0, 0, false, 1, 1⟩ : S43), (⟨(⟨#[105, 110, 100, 105, 114, 101, 99, 116]⟩ : ByteArray), false, 0, 0, false, 1, 1⟩ : S43), (⟨(⟨#[98, 105, 110, 100]⟩ : ByteArray), true, 21, 22, true, 1, 1⟩ : S43), (⟨(⟨#[101, 108, 101, 109, 101, 110, 116]⟩ : ByteArray), false, 0, 0, false, 2, 1⟩ : S43), (⟨(⟨#[99, 97, 108, 108]⟩ : ByteArray), true, 0, 6, true, 0, 1⟩ : S43), (⟨(⟨#[112, 111, 112]⟩ : ByteArray), false, 0, 0, false, 1, 0⟩ : S43), (⟨(⟨#[116, 111, 110, 97, 109, 101]⟩ : ByteArray), false, 0, 0, false, 1, 1⟩ : S43), (⟨(⟨#[99, 104, 101, 99, 107, 102, 105, 101, 108, 100]⟩ : ByteArray), false, 0, 0, true, 0, 0⟩ : S43), (⟨(⟨#[115, 116, 111, 114, 101]⟩ : ByteArray), false, 0, 0, true, 1, 0⟩ : S43), (⟨(⟨#[115, 116, 111, 114, 101, 110, 97, 109, 101]⟩ : ByteArray), false, 0, 0, false, 2, 0⟩ : S43), (⟨(⟨#[115, 116, 111, 114, 101, 101, 108, 101, 109, 101, 110, 116]⟩ : ByteArray), false, 0, 0, false, 3, 0⟩ : S43), (⟨(⟨#[115, 116, 111, 114, 101, 102, 105, 101, 108, 100]⟩ : ByteArray), false, 0, 0, true, 2, 0⟩ : S43), (⟨(⟨#[112, 101, 101, 107, 110, 97, 109, 101]⟩ : ByteArray), false, 0, 0, false, 1, 2⟩ : S43), (⟨(⟨#[112, 101, 101, 107, 101, 108, 101, 109, 101, 110, 116]⟩ : ByteArray), false, 0, 0, false, 2, 3⟩ : S43), (⟨(⟨#[112, 101, 101, 107, 102, 105, 101, 108, 100]⟩ : ByteArray), false, 0, 0, true, 1, 2⟩ : S43), (⟨(⟨#[109, 97, 116, 99, 104]⟩ : ByteArray), false, 0, 0, false, 2, 0⟩ : S43), (⟨(⟨#[107, 101, 101, 112]⟩ : ByteArray), false, 0, 0, false, 2, 3⟩ : S43), (⟨(⟨#[114, 101, 112, 108, 97, 99, 101]⟩ : ByteArray), false, 0, 0, false, 4, 1⟩ : S43), (⟨(⟨#[106, 117, 109, 112]⟩ : ByteArray), true, 0, 79, false, 0, 0⟩ : S43), (⟨(⟨#[101, 110, 100]⟩ : ByteArray), false, 0, 0, false, 0, 0⟩ : S43), (⟨(⟨#[114, 101, 116, 117, 114, 110]⟩ : ByteArray), false, 0, 0, false, 0, 0⟩ : S43), (⟨(⟨#[102, 114, 101, 116, 117, 114, 110]⟩ : ByteArray), false, 0, 0, false, 0, 0⟩ : S43), (⟨(⟨#[102, 97, 117, 108, 116]⟩ : ByteArray), true, 1, 11, false, 0, 0⟩ : S43)] : List (S43))) (inner := [.string (⟨#[115, 116, 101, 112]⟩ : ByteArray), .bool true, .int .i64 0, .int .i64 79, .bool false, .int .i64 0, .int .i64 0, .string (⟨#[115, 116, 114, 105, 110, 103]⟩ : ByteArray), .bool false, .int .i64 0, .int .i64 0, .bool true, .int .i64 0, .int .i64 1, .string (⟨#[105, 110, 116, 101, 103, 101, 114]⟩ : ByteArray), .bool true, .int .i64 0, .int .i64 1000000000000, .bool false, .int .i64 0, .int .i64 1, .string (⟨#[108, 111, 97, 100]⟩ : ByteArray), .bool false, .int .i64 0, .int .i64 0, .bool true, .int .i64 0, .int .i64 1, .string (⟨#[110, 97, 109, 101, 111, 102]⟩ : ByteArray), .bool false, .int .i64 0, .int .i64 0, .bool true, .int .i64 0, .int .i64 1, .string (⟨#[100, 101, 102, 101, 114]⟩ : ByteArray), .bool false, .int .i64 0, .int .i64 0, .bool true, .int .i64 0, .int .i64 1, .string (⟨#[99, 117, 114, 115, 111, 114]⟩ : ByteArray), .bool false, .int .i64 0, .int .i64 0, .bool true, .int .i64 0, .int .i64 1, .string (⟨#[98, 105, 110, 97, 114, 121]⟩ : ByteArray), .bool true, .int .i64 6, .int .i64 11, .bool false, .int .i64 2, .int .i64 1, .string (⟨#[110, 101, 103, 97, 116, 101]⟩ : ByteArray), .bool false, .int .i64 0, .int .i64 0, .bool false, .int .i64 1, .int .i64 1, .string (⟨#[105, 110, 100, 105, 114, 101, 99, 116]⟩ : ByteArray), .bool false, .int .i64 0, .int .i64 0, .bool false, .int .i64 1, .int .i64 1, .string (⟨#[98, 105, 110, 100]⟩ : ByteArray), .bool true, .int .i64 21, .int .i64 22, .bool true, .int .i64 1, .int .i64 1, .string (⟨#[101, 108, 101, 109, 101, 110, 116]⟩ : ByteArray), .bool false, .int .i64 0, .int .i64 0, .bool false, .int .i64 2, .int .i64 1, .string (⟨#[99, 97, 108, 108]⟩ : ByteArray), .bool true, .int .i64 0, .int .i64 6, .bool true, .int .i64 0, .int .i64 1, .string (⟨#[112, 111, 112]⟩ : ByteArray), .bool false, .int .i64 0, .int .i64 0, .bool false, .int .i64 1, .int .i64 0, .string (⟨#[116, 111, 110, 97, 109, 101]⟩ : ByteArray), .bool false, .int .i64 0, .int .i64 0, .bool false, .int .i64 1, .int .i64 1, .string (⟨#[99, 104, 101, 99, 107, 102, 105, 101, 108, 100]⟩ : ByteArray), .bool false, .int .i64 0, .int .i64 0, .bool true, .int .i64 0, .int .i64 0, .string (⟨#[115, 116, 111, 114, 101]⟩ : ByteArray), .bool false, .int .i64 0, .int .i64 0, .bool true, .int .i64 1, .int .i64 0, .string (⟨#[115, 116, 111, 114, 101, 110, 97, 109, 101]⟩ : ByteArray), .bool false, .int .i64 0, .int .i64 0, .bool false, .int .i64 2, .int .i64 0, .string (⟨#[115, 116, 111, 114, 101, 101, 108, 101, 109, 101, 110, 116]⟩ : ByteArray), .bool false, .int .i64 0, .int .i64 0, .bool false, .int .i64 3, .int .i64 0, .string (⟨#[115, 116, 111, 114, 101, 102, 105, 101, 108, 100]⟩ : ByteArray), .bool false, .int .i64 0, .int .i64 0, .bool true, .int .i64 2, .int .i64 0, .string (⟨#[112, 101, 101, 107, 110, 97, 109, 101]⟩ : ByteArray), .bool false, .int .i64 0, .int .i64 0, .bool false, .int .i64 1, .int .i64 2, .string (⟨#[112, 101, 101, 107, 101, 108, 101, 109, 101, 110, 116]⟩ : ByteArray), .bool false, .int .i64 0, .int .i64 0, .bool false, .int .i64 2, .int .i64 3, .string (⟨#[112, 101, 101, 107, 102, 105, 101, 108, 100]⟩ : ByteArray), .bool false, .int .i64 0, .int .i64 0, .bool true, .int .i64 1, .int .i64 2, .string (⟨#[109, 97, 116, 99, 104]⟩ : ByteArray), .bool false, .int .i64 0, .int .i64 0, .bool false, .int .i64 2, .int .i64 0, .string (⟨#[107, 101, 101, 112]⟩ : ByteArray), .bool false, .int .i64 0, .int .i64 0, .bool false, .int .i64 2, .int .i64 3, .string (⟨#[114, 101, 112, 108, 97, 99, 101]⟩ : ByteArray), .bool false, .int .i64 0, .int .i64 0, .bool false, .int .i64 4, .int .i64 1, .string (⟨#[106, 117, 109, 112]⟩ : ByteArray), .bool true, .int .i64 0, .int .i64 79, .bool false, .int .i64 0, .int .i64 0, .string (⟨#[101, 110, 100]⟩ : ByteArray), .bool false, .int .i64 0, .int .i64 0, .bool false, .int .i64 0, .int .i64 0, .string (⟨#[114, 101, 116, 117, 114, 110]⟩ : ByteArray), .bool false, .int .i64 0, .int .i64 0, .bool false, .int .i64 0, .int .i64 0, .string (⟨#[102, 114, 101, 116, 117, 114, 110]⟩ : ByteArray), .bool false, .int .i64 0, .int .i64 0, .bool false, .int .i64 0, .int .i64 0, .string (⟨#[102, 97, 117, 108, 116]⟩ : ByteArray), .bool true, .int .i64 1, .int .i64 11, .bool false, .int .i64 0, .int .i64 0]) (ok := fun _ => True) (okp := fun _ => True) ?hr ?hp (fun _ hk => hk) trivial (Below.refl _ _) (Nat.le_refl _) (by simp) ?_; (case hd => rfl); (case hg => rfl); (case hr => kernel_rfl); (case hp => exact (Reps.c7 (show Kd.M k43 _ _ _ (⟨(⟨#[115, 116, 101, 112]⟩ : ByteArray), true, 0, 79, false, 0, 0⟩ : S43) [.string (⟨#[115, 116, 101, 112]⟩ : ByteArray), .bool true, .int .i64 0, .int .i64 79, .bool false, .int .i64 0, .int .i64 0] from (k43_mkM _ _ _ (⟨(⟨#[115, 116, 101, 112]⟩ : ByteArray), true, 0, 79, false, 0, 0⟩ : S43) )) (Reps.c7 (show Kd.M k43 _ _ _ (⟨(⟨#[115, 116, 114, 105, 110, 103]⟩ : ByteArray), false, 0, 0, true, 0, 1⟩ : S43) [.string (⟨#[115, 116, 114, 105, 110, 103]⟩ : ByteArray), .bool false, .int .i64 0, .int .i64 0, .bool true, .int .i64 0, .int .i64 1] from (k43_mkM _ _ _ (⟨(⟨#[115, 116, 114, 105, 110, 103]⟩ : ByteArray), false, 0, 0, true, 0, 1⟩ : S43) )) (Reps.c7 (show Kd.M k43 _ _ _ (⟨(⟨#[105, 110, 116, 101, 103, 101, 114]⟩ : ByteArray), true, 0, 1000000000000, false, 0, 1⟩ : S43) [.string (⟨#[105, 110, 116, 101, 103, 101, 114]⟩ : ByteArray), .bool true, .int .i64 0, .int .i64 1000000000000, .bool false, .int .i64 0, .int .i64 1] from (k43_mkM _ _ _ (⟨(⟨#[105, 110, 116, 101, 103, 101, 114]⟩ : ByteArray), true, 0, 1000000000000, false, 0, 1⟩ : S43) )) (Reps.c7 (show Kd.M k43 _ _ _ (⟨(⟨#[108, 111, 97, 100]⟩ : ByteArray), false, 0, 0, true, 0, 1⟩ : S43) [.string (⟨#[108, 111, 97, 100]⟩ : ByteArray), .bool false, .int .i64 0, .int .i64 0, .bool true, .int .i64 0, .int .i64 1] from (k43_mkM _ _ _ (⟨(⟨#[108, 111, 97, 100]⟩ : ByteArray), false, 0, 0, true, 0, 1⟩ : S43) )) (Reps.c7 (show Kd.M k43 _ _ _ (⟨(⟨#[110, 97, 109, 101, 111, 102]⟩ : ByteArray), false, 0, 0, true, 0, 1⟩ : S43) [.string (⟨#[110, 97, 109, 101, 111, 102]⟩ : ByteArray), .bool false, .int .i64 0, .int .i64 0, .bool true, .int .i64 0, .int .i64 1] from (k43_mkM _ _ _ (⟨(⟨#[110, 97, 109, 101, 111, 102]⟩ : ByteArray), false, 0, 0, true, 0, 1⟩ : S43) )) (Reps.c7 (show Kd.M k43 _ _ _ (⟨(⟨#[100, 101, 102, 101, 114]⟩ : ByteArray), false, 0, 0, true, 0, 1⟩ : S43) [.string (⟨#[100, 101, 102, 101, 114]⟩ : ByteArray), .bool false, .int .i64 0, .int .i64 0, .bool true, .int .i64 0, .int .i64 1] from (k43_mkM _ _ _ (⟨(⟨#[100, 101, 102, 101, 114]⟩ : ByteArray), false, 0, 0, true, 0, 1⟩ : S43) )) (Reps.c7 (show Kd.M k43 _ _ _ (⟨(⟨#[99, 117, 114, 115, 111, 114]⟩ : ByteArray), false, 0, 0, true, 0, 1⟩ : S43) [.string (⟨#[99, 117, 114, 115, 111, 114]⟩ : ByteArray), .bool false, .int .i64 0, .int .i64 0, .bool true, .int .i64 0, .int .i64 1] from (k43_mkM _ _ _ (⟨(⟨#[99, 117, 114, 115, 111, 114]⟩ : ByteArray), false, 0, 0, true, 0, 1⟩ : S43) )) (Reps.c7 (show Kd.M k43 _ _ _ (⟨(⟨#[98, 105, 110, 97, 114, 121]⟩ : ByteArray), true, 6, 11, false, 2, 1⟩ : S43) [.string (⟨#[98, 105, 110, 97, 114, 121]⟩ : ByteArray), .bool true, .int .i64 6, .int .i64 11, .bool false, .int .i64 2, .int .i64 1] from (k43_mkM _ _ _ (⟨(⟨#[98, 105, 110, 97, 114, 121]⟩ : ByteArray), true, 6, 11, false, 2, 1⟩ : S43) )) (Reps.c7 (show Kd.M k43 _ _ _ (⟨(⟨#[110, 101, 103, 97, 116, 101]⟩ : ByteArray), false, 0, 0, false, 1, 1⟩ : S43) [.string (⟨#[110, 101, 103, 97, 116, 101]⟩ : ByteArray), .bool false, .int .i64 0, .int .i64 0, .bool false, .int .i64 1, .int .i64 1] from (k43_mkM _ _ _ (⟨(⟨#[110, 101, 103, 97, 116, 101]⟩ : ByteArray), false, 0, 0, false, 1, 1⟩ : S43) )) (Reps.c7 (show Kd.M k43 _ _ _ (⟨(⟨#[105, 110, 100, 105, 114, 101, 99, 116]⟩ : ByteArray), false, 0, 0, false, 1, 1⟩ : S43) [.string (⟨#[105, 110, 100, 105, 114, 101, 99, 116]⟩ : ByteArray), .bool false, .int .i64 0, .int .i64 0, .bool false, .int .i64 1, .int .i64 1] from (k43_mkM _ _ _ (⟨(⟨#[105, 110, 100, 105, 114, 101, 99, 116]⟩ : ByteArray), false, 0, 0, false, 1, 1⟩ : S43) )) (Reps.c7 (show Kd.M k43 _ _ _ (⟨(⟨#[98, 105, 110, 100]⟩ : ByteArray), true, 21, 22, true, 1, 1⟩ : S43) [.string (⟨#[98, 105, 110, 100]⟩ : ByteArray), .bool true, .int .i64 21, .int .i64 22, .bool true, .int .i64 1, .int .i64 1] from (k43_mkM _ _ _ (⟨(⟨#[98, 105, 110, 100]⟩ : ByteArray), true, 21, 22, true, 1, 1⟩ : S43) )) (Reps.c7 (show Kd.M k43 _ _ _ (⟨(⟨#[101, 108, 101, 109, 101, 110, 116]⟩ : ByteArray), false, 0, 0, false, 2, 1⟩ : S43) [.string (⟨#[101, 108, 101, 109, 101, 110, 116]⟩ : ByteArray), .bool false, .int .i64 0, .int .i64 0, .bool false, .int .i64 2, .int .i64 1] from (k43_mkM _ _ _ (⟨(⟨#[101, 108, 101, 109, 101, 110, 116]⟩ : ByteArray), false, 0, 0, false, 2, 1⟩ : S43) )) (Reps.c7 (show Kd.M k43 _ _ _ (⟨(⟨#[99, 97, 108, 108]⟩ : ByteArray), true, 0, 6, true, 0, 1⟩ : S43) [.string (⟨#[99, 97, 108, 108]⟩ : ByteArray), .bool true, .int .i64 0, .int .i64 6, .bool true, .int .i64 0, .int .i64 1] from (k43_mkM _ _ _ (⟨(⟨#[99, 97, 108, 108]⟩ : ByteArray), true, 0, 6, true, 0, 1⟩ : S43) )) (Reps.c7 (show Kd.M k43 _ _ _ (⟨(⟨#[112, 111, 112]⟩ : ByteArray), false, 0, 0, false, 1, 0⟩ : S43) [.string (⟨#[112, 111, 112]⟩ : ByteArray), .bool false, .int .i64 0, .int .i64 0, .bool false, .int .i64 1, .int .i64 0] from (k43_mkM _ _ _ (⟨(⟨#[112, 111, 112]⟩ : ByteArray), false, 0, 0, false, 1, 0⟩ : S43) )) (Reps.c7 (show Kd.M k43 _ _ _ (⟨(⟨#[116, 111, 110, 97, 109, 101]⟩ : ByteArray), false, 0, 0, false, 1, 1⟩ : S43) [.string (⟨#[116, 111, 110, 97, 109, 101]⟩ : ByteArray), .bool false, .int .i64 0, .int .i64 0, .bool false, .int .i64 1, .int .i64 1] from (k43_mkM _ _ _ (⟨(⟨#[116, 111, 110, 97, 109, 101]⟩ : ByteArray), false, 0, 0, false, 1, 1⟩ : S43) )) (Reps.c7 (show Kd.M k43 _ _ _ (⟨(⟨#[99, 104, 101, 99, 107, 102, 105, 101, 108, 100]⟩ : ByteArray), false, 0, 0, true, 0, 0⟩ : S43) [.string (⟨#[99, 104, 101, 99, 107, 102, 105, 101, 108, 100]⟩ : ByteArray), .bool false, .int .i64 0, .int .i64 0, .bool true, .int .i64 0, .int .i64 0] from (k43_mkM _ _ _ (⟨(⟨#[99, 104, 101, 99, 107, 102, 105, 101, 108, 100]⟩ : ByteArray), false, 0, 0, true, 0, 0⟩ : S43) )) (Reps.c7 (show Kd.M k43 _ _ _ (⟨(⟨#[115, 116, 111, 114, 101]⟩ : ByteArray), false, 0, 0, true, 1, 0⟩ : S43) [.string (⟨#[115, 116, 111, 114, 101]⟩ : ByteArray), .bool false, .int .i64 0, .int .i64 0, .bool true, .int .i64 1, .int .i64 0] from (k43_mkM _ _ _ (⟨(⟨#[115, 116, 111, 114, 101]⟩ : ByteArray), false, 0, 0, true, 1, 0⟩ : S43) )) (Reps.c7 (show Kd.M k43 _ _ _ (⟨(⟨#[115, 116, 111, 114, 101, 110, 97, 109, 101]⟩ : ByteArray), false, 0, 0, false, 2, 0⟩ : S43) [.string (⟨#[115, 116, 111, 114, 101, 110, 97, 109, 101]⟩ : ByteArray), .bool false, .int .i64 0, .int .i64 0, .bool false, .int .i64 2, .int .i64 0] from (k43_mkM _ _ _ (⟨(⟨#[115, 116, 111, 114, 101, 110, 97, 109, 101]⟩ : ByteArray), false, 0, 0, false, 2, 0⟩ : S43) )) (Reps.c7 (show Kd.M k43 _ _ _ (⟨(⟨#[115, 116, 111, 114, 101, 101, 108, 101, 109, 101, 110, 116]⟩ : ByteArray), false, 0, 0, false, 3, 0⟩ : S43) [.string (⟨#[115, 116, 111, 114, 101, 101, 108, 101, 109, 101, 110, 116]⟩ : ByteArray), .bool false, .int .i64 0, .int .i64 0, .bool false, .int .i64 3, .int .i64 0] from (k43_mkM _ _ _ (⟨(⟨#[115, 116, 111, 114, 101, 101, 108, 101, 109, 101, 110, 116]⟩ : ByteArray), false, 0, 0, false, 3, 0⟩ : S43) )) (Reps.c7 (show Kd.M k43 _ _ _ (⟨(⟨#[115, 116, 111, 114, 101, 102, 105, 101, 108, 100]⟩ : ByteArray), false, 0, 0, true, 2, 0⟩ : S43) [.string (⟨#[115, 116, 111, 114, 101, 102, 105, 101, 108, 100]⟩ : ByteArray), .bool false, .int .i64 0, .int .i64 0, .bool true, .int .i64 2, .int .i64 0] from (k43_mkM _ _ _ (⟨(⟨#[115, 116, 111, 114, 101, 102, 105, 101, 108, 100]⟩ : ByteArray), false, 0, 0, true, 2, 0⟩ : S43) )) (Reps.c7 (show Kd.M k43 _ _ _ (⟨(⟨#[112, 101, 101, 107, 110, 97, 109, 101]⟩ : ByteArray), false, 0, 0, false, 1, 2⟩ : S43) [.string (⟨#[112, 101, 101, 107, 110, 97, 109, 101]⟩ : ByteArray), .bool false, .int .i64 0, .int .i64 0, .bool false, .int .i64 1, .int .i64 2] from (k43_mkM _ _ _ (⟨(⟨#[112, 101, 101, 107, 110, 97, 109, 101]⟩ : ByteArray), false, 0, 0, false, 1, 2⟩ : S43) )) (Reps.c7 (show Kd.M k43 _ _ _ (⟨(⟨#[112, 101, 101, 107, 101, 108, 101, 109, 101, 110, 116]⟩ : ByteArray), false, 0, 0, false, 2, 3⟩ : S43) [.string (⟨#[112, 101, 101, 107, 101, 108, 101, 109, 101, 110, 116]⟩ : ByteArray), .bool false, .int .i64 0, .int .i64 0, .bool false, .int .i64 2, .int .i64 3] from (k43_mkM _ _ _ (⟨(⟨#[112, 101, 101, 107, 101, 108, 101, 109, 101, 110, 116]⟩ : ByteArray), false, 0, 0, false, 2, 3⟩ : S43) )) (Reps.c7 (show Kd.M k43 _ _ _ (⟨(⟨#[112, 101, 101, 107, 102, 105, 101, 108, 100]⟩ : ByteArray), false, 0, 0, true, 1, 2⟩ : S43) [.string (⟨#[112, 101, 101, 107, 102, 105, 101, 108, 100]⟩ : ByteArray), .bool false, .int .i64 0, .int .i64 0, .bool true, .int .i64 1, .int .i64 2] from (k43_mkM _ _ _ (⟨(⟨#[112, 101, 101, 107, 102, 105, 101, 108, 100]⟩ : ByteArray), false, 0, 0, true, 1, 2⟩ : S43) )) (Reps.c7 (show Kd.M k43 _ _ _ (⟨(⟨#[109, 97, 116, 99, 104]⟩ : ByteArray), false, 0, 0, false, 2, 0⟩ : S43) [.string (⟨#[109, 97, 116, 99, 104]⟩ : ByteArray), .bool false, .int .i64 0, .int .i64 0, .bool false, .int .i64 2, .int .i64 0] from (k43_mkM _ _ _ (⟨(⟨#[109, 97, 116, 99, 104]⟩ : ByteArray), false, 0, 0, false, 2, 0⟩ : S43) )) (Reps.c7 (show Kd.M k43 _ _ _ (⟨(⟨#[107, 101, 101, 112]⟩ : ByteArray), false, 0, 0, false, 2, 3⟩ : S43) [.string (⟨#[107, 101, 101, 112]⟩ : ByteArray), .bool false, .int .i64 0, .int .i64 0, .bool false, .int .i64 2, .int .i64 3] from (k43_mkM _ _ _ (⟨(⟨#[107, 101, 101, 112]⟩ : ByteArray), false, 0, 0, false, 2, 3⟩ : S43) )) (Reps.c7 (show Kd.M k43 _ _ _ (⟨(⟨#[114, 101, 112, 108, 97, 99, 101]⟩ : ByteArray), false, 0, 0, false, 4, 1⟩ : S43) [.string (⟨#[114, 101, 112, 108, 97, 99, 101]⟩ : ByteArray), .bool false, .int .i64 0, .int .i64 0, .bool false, .int .i64 4, .int .i64 1] from (k43_mkM _ _ _ (⟨(⟨#[114, 101, 112, 108, 97, 99, 101]⟩ : ByteArray), false, 0, 0, false, 4, 1⟩ : S43) )) (Reps.c7 (show Kd.M k43 _ _ _ (⟨(⟨#[106, 117, 109, 112]⟩ : ByteArray), true, 0, 79, false, 0, 0⟩ : S43) [.string (⟨#[106, 117, 109, 112]⟩ : ByteArray), .bool true, .int .i64 0, .int .i64 79, .bool false, .int .i64 0, .int .i64 0] from (k43_mkM _ _ _ (⟨(⟨#[106, 117, 109, 112]⟩ : ByteArray), true, 0, 79, false, 0, 0⟩ : S43) )) (Reps.c7 (show Kd.M k43 _ _ _ (⟨(⟨#[101, 110, 100]⟩ : ByteArray), false, 0, 0, false, 0, 0⟩ : S43) [.string (⟨#[101, 110, 100]⟩ : ByteArray), .bool false, .int .i64 0, .int .i64 0, .bool false, .int .i64 0, .int .i64 0] from (k43_mkM _ _ _ (⟨(⟨#[101, 110, 100]⟩ : ByteArray), false, 0, 0, false, 0, 0⟩ : S43) )) (Reps.c7 (show Kd.M k43 _ _ _ (⟨(⟨#[114, 101, 116, 117, 114, 110]⟩ : ByteArray), false, 0, 0, false, 0, 0⟩ : S43) [.string (⟨#[114, 101, 116, 117, 114, 110]⟩ : ByteArray), .bool false, .int .i64 0, .int .i64 0, .bool false, .int .i64 0, .int .i64 0] from (k43_mkM _ _ _ (⟨(⟨#[114, 101, 116, 117, 114, 110]⟩ : ByteArray), false, 0, 0, false, 0, 0⟩ : S43) )) (Reps.c7 (show Kd.M k43 _ _ _ (⟨(⟨#[102, 114, 101, 116, 117, 114, 110]⟩ : ByteArray), false, 0, 0, false, 0, 0⟩ : S43) [.string (⟨#[102, 114, 101, 116, 117, 114, 110]⟩ : ByteArray), .bool false, .int .i64 0, .int .i64 0, .bool false, .int .i64 0, .int .i64 0] from (k43_mkM _ _ _ (⟨(⟨#[102, 114, 101, 116, 117, 114, 110]⟩ : ByteArray), false, 0, 0, false, 0, 0⟩ : S43) )) (Reps.c7 (show Kd.M k43 _ _ _ (⟨(⟨#[102, 97, 117, 108, 116]⟩ : ByteArray), true, 1, 11, false, 0, 0⟩ : S43) [.string (⟨#[102, 97, 117, 108, 116]⟩ : ByteArray), .bool true, .int .i64 1, .int .i64 11, .bool false, .int .i64 0, .int .i64 0] from (k43_mkM _ _ _ (⟨(⟨#[102, 97, 117, 108, 116]⟩ : ByteArray), true, 1, 11, false, 0, 0⟩ : S43) )) (Reps.none _ _))))))))))))))))))))))))))))))))); intro v164 w1 ho2 hb hg_ hnew_; clear hg_ hnew_; (first | rw [← Ny163.out] at ho2 | (simp only [Int.reduceToNat] at ho2; rw [← Ny163.out] at ho2)); have n0_ := Aside0.mk (Kd.R_lower ho2 (below_size (sH HB.out))); have n1_ := sB HB hb; clear HB; have HO165 := n0_; have HB := n1_; clear n0_ n1_; clear hb ho2))
 go_ret
 exact ⟨_, sq, by exact sE HO165.out, sb⟩

/-! ### impl_Instr_form: function 17 -/
def impl_Instr_form.f (a0_0 : Int) (a0_1 : Int) (a0_2 : ByteArray) : Option (ByteArray × Bool × Int × Int × Bool × Int × Int) := (impl_instrForms.f).bind fun t172 => (if 0 ≤ (wrap64 (a0_0 - 1)) then (if (wrap64 (a0_0 - 1)) < (t172.length : Int) then (some ((rd_T43 t172 (wrap64 (a0_0 - 1))).f0, (rd_T43 t172 (wrap64 (a0_0 - 1))).f1, (rd_T43 t172 (wrap64 (a0_0 - 1))).f2, (rd_T43 t172 (wrap64 (a0_0 - 1))).f3, (rd_T43 t172 (wrap64 (a0_0 - 1))).f4, (rd_T43 t172 (wrap64 (a0_0 - 1))).f5, (rd_T43 t172 (wrap64 (a0_0 - 1))).f6)) else (none)) else (none))
set_option maxHeartbeats 8000000 in
set_option maxRecDepth 100000 in
theorem impl_Instr_form.calls (a0_0 : Int) (a0_1 : Int) (a0_2 : ByteArray) (r1 : ByteArray) (r2 : Bool) (r3 : Int) (r4 : Int) (r5 : Bool) (r6 : Int) (r7 : Int) (w : World) (h : impl_Instr_form.f a0_0 a0_1 a0_2 = some (r1, r2, r3, r4, r5, r6, r7)) :
  Calls Tryd.prog 17 #[.agg #[.int .i64 a0_0, .int .i64 a0_1, .string a0_2]] w fun e w' => e = .returned (.agg #[.string r1, .bool r2, .int .i64 r3, .int .i64 r4, .bool r5, .int .i64 r6, .int .i64 r7]) ∧ Below w.heap.size w w' := by
 have hu23 := Tryd.underlying23
 have hu43 := Tryd.underlying43
 have HB := Aside0.mk (Below.refl w.heap.size w)
 have H : ((impl_instrForms.f).bind fun t172 => (if 0 ≤ (wrap64 (a0_0 - 1)) then (if (wrap64 (a0_0 - 1)) < (t172.length : Int) then (some ((rd_T43 t172 (wrap64 (a0_0 - 1))).f0, (rd_T43 t172 (wrap64 (a0_0 - 1))).f1, (rd_T43 t172 (wrap64 (a0_0 - 1))).f2, (rd_T43 t172 (wrap64 (a0_0 - 1))).f3, (rd_T43 t172 (wrap64 (a0_0 - 1))).f4, (rd_T43 t172 (wrap64 (a0_0 - 1))).f5, (rd_T43 t172 (wrap64 (a0_0 - 1))).f6)) else (none)) else (none))) = some (r1, r2, r3, r4, r5, r6, r7) := h
 clear h
 obtain ⟨t172, A2, H⟩ := sO H
 obtain ⟨ji3, hji3⟩ : ∃ j_ : Int, (wrap64 (a0_0 - 1)) = j_ := ⟨_, rfl⟩
 replace H : (if 0 ≤ (ji3) then (if (ji3) < (t172.length : Int) then (some ((rd_T43 t172 (ji3)).f0, (rd_T43 t172 (ji3)).f1, (rd_T43 t172 (ji3)).f2, (rd_T43 t172 (ji3)).f3, (rd_T43 t172 (ji3)).f4, (rd_T43 t172 (ji3)).f5, (rd_T43 t172 (ji3)).f6)) else (none)) else (none)) = some (r1, r2, r3, r4, r5, r6, r7) := by first | (rw [hji3] at H; exact H) | (simp only [hji3] at H ⊢; exact H)
 (try rw [hji3] at A2)
 have hji3w : (IntKind.i64.wrap (a0_0 - 1)) = ji3 := (i64_w _).trans hji3
 by_cases c4 : 0 ≤ (ji3)
 ·rw [if_pos c4] at H
  have c4b0 := decide_eq_true c4
  clear c4
  by_cases c5 : (ji3) < (t172.length : Int)
  ·rw [if_pos c5] at H
   have c5b0 := decide_eq_true c5
   clear c5
   simp only [Option.some.injEq, Prod.mk.injEq] at H
   obtain ⟨rfl, rfl, rfl, rfl, rfl, rfl, rfl⟩ := H
   go_enter Tryd.func17, Tryd.ntmps17
   try go_wp2_with (first | ((with_reducible refine gate_dst (N := 1) rfl ?_); refine sV (N := 1) (cs := #[.int .i64 a0_0, .int .i64 a0_1, .string a0_2]) (t := 23) ?_; intro gb170 hg w6 hbox hb; have n0_ := sB HB hb; have n1_ := Aside0.mk (hbox); have n2_ := sG HB hg; have n3_ := sG HB hg; clear HB; have HB := n0_; have BK170 := n1_; have GW170 := n2_; have GE170 := n3_; clear n0_ n1_ n2_ n3_; clear hb hbox hg) | ((with_reducible refine gate_dst (N := 2) rfl ?_); refine sV (N := 2) (cs := #[.string (⟨#[]⟩ : ByteArray), .bool false, .int .i64 0, .int .i64 0, .bool false, .int .i64 0, .int .i64 0]) (t := 43) ?_; intro gb171 hg w7 hbox hb; have n0_ := sK BK170 hb; have n1_ := sB HB hb; have n2_ := Aside0.mk (hbox); have n3_ := sG HB hg; have n4_ := sG HB hg; have n5_ := sN BK170 hg; have n6_ := sM BK170 hg; clear BK170; clear HB; have BK170 := n0_; have HB := n1_; have BK171 := n2_; have GW171 := n3_; have GE171 := n4_; have NB170_171 := n5_; have NB171_170 := n6_; clear n0_ n1_ n2_ n3_ n4_ n5_ n6_; clear hb hbox hg))
   have n0_ := Aside0.mk (blk_drew BK170.out)
   have n1_ := Aside0.mk (blk_drew BK171.out)
   have n2_ := Aside0.mk (below_drew1 HB.out)
   clear BK170
   clear BK171
   clear HB
   have BK170 := n0_
   have BK171 := n1_
   have HB := n2_
   clear n0_ n1_ n2_
   refine start_ (n := 7) (S := fun w' => w'.cell? ⟨gb170, 0, none⟩ = some (.int .i64 a0_0) ∧ w'.cell? ⟨gb170, 1, none⟩ = some (.int .i64 a0_1) ∧ w'.cell? ⟨gb170, 2, none⟩ = some (.string a0_2)) (ds := [5]) #[false, false, false, false, false, false, false] (by kernel_rfl) rfl rfl ⟨(blk_cell BK170.out 0).trans rfl, (blk_cell BK170.out 1).trans rfl, (blk_cell BK170.out 2).trans rfl⟩ (fun hHeld => ?_)
   generalize w7.drew = w8 at BK170 BK171 HB hHeld ⊢
   refine pure_ (i := 1) (N := some 4) (v := ?_) (a' := ?_) #[false, true, false, false, false, false, false] rfl rfl (by kernel_rfl) (fun _ _ _ h => h) (Or.inl ⟨by rfl, ?_⟩) ?_ ?_
   rotate_left
   ·intro w'
    go_simp
    with_reducible rfl
   rotate_left
   ·simp only [Act.put, List.setIfInBounds_toArray, List.set_cons_zero, List.set_cons_succ, i64_w, i32_w]
    rfl
   refine take_ (i := 2) (N := some 5) (v := ?_) (a' := ?_) #[false, true, true, false, false, false, false] rfl rfl (by kernel_rfl) (fun _ _ _ h => h) (Or.inl ⟨by rfl, ?_⟩) hHeld ?_ ?_
   rotate_left
   ·rintro w' ⟨s0, s1, s2⟩
    go_simp
    with_reducible rfl
   rotate_left
   ·simp only [Act.put, List.setIfInBounds_toArray, List.set_cons_zero, List.set_cons_succ, i64_w, i32_w]
    rfl
   refine pure_ (i := 3) (N := some 6) (v := ?_) (a' := ?_) #[false, true, true, true, false, false, false] rfl rfl (by kernel_rfl) (fun _ _ _ h => h) (Or.inl ⟨by rfl, ?_⟩) ?_ ?_
   rotate_left
   ·intro w'
    go_simp
    with_reducible rfl
   rotate_left
   ·simp only [Act.put, List.setIfInBounds_toArray, List.set_cons_zero, List.set_cons_succ, i64_w, i32_w]
    rfl
   refine one_ (i := 0) (N := some 3) #[true, true, true, true, false, false, false] rfl rfl (by kernel_rfl) (by decide) (fun K hK => ?_)
   refine goes_ Tryd.func15 (by kernel_rfl) rfl #[] (by rfl) rfl rfl (by (try simp only [List.map_toArray, List.map_cons, List.map_nil]); first | done | rfl | (simp only [List.length_drop, List.length_take]; rfl)) ?_
   with_reducible refine (impl_instrForms.calls  t172 _ A2.out).mono ?_
   rintro e w9 ⟨v173, rfl, ho0, hb⟩
   refine ⟨_, rfl, ?_⟩
   have n0_ := Aside0.mk (Kd.R_lower (Kd.R_newB ho0 (g := gb171) (o := .cells #[.string (⟨#[]⟩ : ByteArray), .bool false, .int .i64 0, .int .i64 0, .bool false, .int .i64 0, .int .i64 0] 43 (0, 0)) (sT BK171.out)) (below_size (by repeat (first | (with_reducible first | exact HB.out | apply below_alloc | apply pw_below_drewN | apply below_drew1 | refine below_set ?_ GE170.out | refine below_set ?_ GE171.out) | exact HB.out))))
   have n1_ := sK BK170 hb
   have n2_ := sK BK171 hb
   have n3_ := sB HB hb
   clear BK170
   clear BK171
   clear HB
   have HO174 := n0_
   have BK170 := n1_
   have BK171 := n2_
   have HB := n3_
   clear n0_ n1_ n2_ n3_
   (try clear hb)
   (try clear hb2)
   (try clear hk)
   (try clear hi)
   (try clear ho0)
   obtain ⟨Ao10, co10, eo10⟩ := Kd.R_slice HO174.out
   (first | subst eo10 | (injection eo10 with f1_ f2_ f3_; have f4_ := f1_.symm; have f5_ := f3_.symm; clear f1_ f2_ f3_; subst f4_; subst f5_))
   have p175 : 0 ≤ ((ji3) : Int) := of_decide_eq_true (by first | (with_reducible assumption) | assumption)
   have q175 : (ji3) < (t172.length : Int) := of_decide_eq_true (by first | (with_reducible assumption) | assumption)
   obtain ⟨ad175, e175, hx175_0, hx175_1, hx175_2, hx175_3, hx175_4, hx175_5, hx175_6⟩ := at_T43 (Kd.R_reads' HO174.out).2.2 (ji3) p175 q175
   cases e175
   replace p175 := eq_true p175
   replace q175 := eq_true q175
   refine hK.out _ _ ⟨(blk_cell BK170.out 0).trans rfl, (blk_cell BK170.out 1).trans rfl, (blk_cell BK170.out 2).trans rfl⟩ (fun hHeld => ?_)
   clear hK K
   refine norm_ (a' := ?_) ?_ ?_
   rotate_left
   ·show Act.put _ (some 3) _ = _
    simp only [Act.put, List.setIfInBounds_toArray, List.set_cons_zero, List.set_cons_succ, i64_w, i32_w]
    rfl
   refine pure_ (i := 4) (N := some 7) (v := ?_) (a' := ?_) #[true, true, true, true, true, false, false] rfl rfl (by kernel_rfl) (fun _ _ _ h => h) (Or.inl ⟨by rfl, ?_⟩) ?_ ?_
   rotate_left
   ·intro w'
    go_simp
    with_reducible rfl
   rotate_left
   ·simp only [Act.put, List.setIfInBounds_toArray, List.set_cons_zero, List.set_cons_succ, i64_w, i32_w]
    rfl
   refine last_ (i := 5) (N := some 8) #[true, true, true, true, true, true, false] rfl rfl (by kernel_rfl) (by decide) (fun K hK => ?_)
   refine value_ (w1 := ?_) (v := ?_) (by rfl) rfl ?_ ?_
   rotate_left 2
   ·go_simp
    constructor
    ·rfl
    ·rfl
   refine hK.out _ _ ?_
   clear hK K
   refine norm_ (a' := ?_) ?_ ?_
   rotate_left
   ·show Act.put _ (some 8) _ = _
    simp only [Act.put, List.setIfInBounds_toArray, List.set_cons_zero, List.set_cons_succ, i64_w, i32_w]
    rfl
   refine one_ (i := 6) (N := none) #[true, true, true, true, true, true, true] rfl rfl (by kernel_rfl) (by decide) (fun K hK => ?_)
   have hs11 : w9.cell? ⟨gb171, 0, none⟩ = some (.string (⟨#[]⟩ : ByteArray)) := (blk_cell BK171.out 0).trans rfl
   have hfs11 := blk_frozen BK171.out 0
   have hns11_0 := NB170_171.out
   have hms11_0 := NB171_170.out
   have hs12 : w9.cell? ⟨gb171, 1, none⟩ = some (.bool false) := (blk_cell BK171.out 1).trans rfl
   have hfs12 := blk_frozen BK171.out 1
   have hns12_0 := NB170_171.out
   have hms12_0 := NB171_170.out
   have hs13 : w9.cell? ⟨gb171, 2, none⟩ = some (.int .i64 0) := (blk_cell BK171.out 2).trans rfl
   have hfs13 := blk_frozen BK171.out 2
   have hns13_0 := NB170_171.out
   have hms13_0 := NB171_170.out
   have hs14 : w9.cell? ⟨gb171, 3, none⟩ = some (.int .i64 0) := (blk_cell BK171.out 3).trans rfl
   have hfs14 := blk_frozen BK171.out 3
   have hns14_0 := NB170_171.out
   have hms14_0 := NB171_170.out
   have hs15 : w9.cell? ⟨gb171, 4, none⟩ = some (.bool false) := (blk_cell BK171.out 4).trans rfl
   have hfs15 := blk_frozen BK171.out 4
   have hns15_0 := NB170_171.out
   have hms15_0 := NB171_170.out
   have hs16 : w9.cell? ⟨gb171, 5, none⟩ = some (.int .i64 0) := (blk_cell BK171.out 5).trans rfl
   have hfs16 := blk_frozen BK171.out 5
   have hns16_0 := NB170_171.out
   have hms16_0 := NB171_170.out
   have hs17 : w9.cell? ⟨gb171, 6, none⟩ = some (.int .i64 0) := (blk_cell BK171.out 6).trans rfl
   have hfs17 := blk_frozen BK171.out 6
   have hns17_0 := NB170_171.out
   have hms17_0 := NB171_170.out
   refine skip_ (w1 := ?_) (by rfl) rfl ?_ ?_
   rotate_left
   ·go_simp
    rfl
   refine hK.out _ _ ⟨(sQ7 (g := gb171) NB170_171.out (hHeld.1)), (sQ7 (g := gb171) NB170_171.out (hHeld.2.1)), (sQ7 (g := gb171) NB170_171.out (hHeld.2.2))⟩ (fun hHeld => ?_)
   clear hK K
   refine done_ (by kernel_rfl) ?_
   try go_wp2
   refine bodyPost_ret (results_cell_row rfl _ _ gb171 43 #[.string ((rd_T43 t172 (ji3)).f0), .bool ((rd_T43 t172 (ji3)).f1), .int .i64 ((rd_T43 t172 (ji3)).f2), .int .i64 ((rd_T43 t172 (ji3)).f3), .bool ((rd_T43 t172 (ji3)).f4), .int .i64 ((rd_T43 t172 (ji3)).f5), .int .i64 ((rd_T43 t172 (ji3)).f6)] (0, 0) _ rfl (by exact sP7 (sT BK171.out)) Tryd.underlying43 rfl (by kernel_rfl)) rfl ?_
   exact ⟨by first | rfl | (simp [errW_none, errW_some] <;> rfl) | (simp only [← hji3]; first | rfl | (simp [errW_none, errW_some] <;> rfl)) | (simp [*, errW_none, errW_some] <;> rfl), sb⟩
  rw [if_neg c5] at H
  exact absurd H (by simp)
 rw [if_neg c4] at H
 exact absurd H (by simp)
end Go.Proofs.YtdihlgkcpooadaaDoor.PFnExactReadInstr
