/- The law FnExactValidConsole holds of the program, for every input: its plain statement, carried over by the printed contracts; no condition. -/
import Derived.Test.YtabbpnkbhapibaaRows
import Derived.Test.YtabbpnkbhapibaaYValidConsoleO
import Derived.Test.YtabbpnkbhapibaaYValidConsolePure
import Derived.WalkKit
import Derived.ProofKit
import Derived.OpenShut
import Derived.ShutString
import Derived.ChangeOld
import Derived.Below
import Derived.SizedLaws
import Derived.Test.YtabbpnkbhapibaaYVcW3
namespace Go.Proofs.Ytabbpnkbhapibaa.fnExactValidConsole
open Go.ChangeShapes Go.WideShapes Go.ChangeAt Go.RowKit Go.Proofs.YtabbpnkbhapibaaG
open Go.ChangeMaps (open_string shut_string)
set_option linter.unusedVariables false
theorem own : ownKnob Try.prog.godebug = none := by kernel_rfl
theorem laidOut : laidOutB Try.prog = true := by kernel_rfl
set_option maxRecDepth 100000 in
theorem lifted (os : Os) (started : os.Started) (H : Type) (enc : TypeId × Value → H) :
    ReturnsInHanded {} Try.checked os 8 .any (Rows.fnExactValidConsoleSpec.pre6 enc Try.prog Try.f8 Rows.fnExactValidConsoleRow.domain false) (Rows.fnExactValidConsoleSpec.post enc Try.prog Try.f8 false true false false) := by
  refine returnsInHanded_of_change_sized (C := Try.checked) own started (by kernel_rfl) Try.func8
    (ChangeSpec.witness6 (enc := enc) (C := Try.checked) false ⟨#[], #[(.agg #[(.slice none 0 0), (.int .i64 0), (.slice none 0 0), (.slice none 0 0), (.slice none 0 0)])], []⟩ 30 (by kernel_rfl) (by kernel_rfl) (by kernel_rfl) (by kernel_rfl)) ?_
  intro W base args ds gs before hval0 hW hcnd _ _
  have hval : ∀ (j : Nat) t v, Try.f8.params[j]? = some t → args[j]? = some v → Value.okWide Try.prog W .any base t v := hval0
  have hW' := hW
  obtain ⟨p, q, hA0, hV, rfl, hfz, hnd⟩ := hW
  have hA : DataW.TrodAll enc Try.prog W 0 (fun _ => true) true Try.f8.params.toList args.toList ds p := hA0
  rw [Try.params8] at hA hval
  obtain ⟨v0, vs0, d0, ds0, p0, q0, hargs, rfl, rfl, h0, r0⟩ := trodAll_cons hA
  obtain ⟨rfl, rfl, rfl⟩ := trodAll_nil r0
  obtain rfl : args = #[v0] := by cases args; simp_all
  obtain ⟨rfl, rfl⟩ := trodVars_none hV
  have k0 := h0
  have lt0 : ∀ x ∈ p0, x.block < W.heap.size := by obtain ⟨m, hm⟩ := k0; exact DataW.trod_lt m _ _ _ hm
  obtain ⟨cs0, rfl, _⟩ := okWide_struct Try.underlying69 (hval 0 69 v0 rfl rfl)
  obtain ⟨fuel0, hf0⟩ := h0
  obtain ⟨x0, hK0, hw0⟩ := PFnExactValidConsole.opens69 fuel0 H enc W _ _ hf0
  obtain ⟨A0_0, c0_0, A0_2, c0_2, A0_3, c0_3, A0_4, c0_4, hcs0, hl0_0, hr0_0, hl0_2, hr0_2, hl0_3, hr0_3, hl0_4, hr0_4⟩ := PFnExactValidConsole.k69_open hK0
  obtain rfl : cs0 = #[.slice A0_0 x0.f0.length c0_0, .int .i64 x0.f1, .slice A0_2 x0.f2.length c0_2, .slice A0_3 x0.f3.length c0_3, .slice A0_4 x0.f4.length c0_4] := Array.toList_inj.1 hcs0
  clear hA0 hval0
  obtain ⟨k, h⟩ := Pure.FnExactValidConsole x0 hw0
  refine (PFnExactValidConsole.laws_FnExactValidConsole.calls k A0_0 c0_0 x0.f0 x0.f1 A0_2 c0_2 x0.f2 A0_3 c0_3 x0.f3 A0_4 c0_4 x0.f4 W hr0_0 hl0_0 hr0_2 hl0_2 hr0_3 hl0_3 hr0_4 hl0_4 h).mono fun e W' ⟨he, hd⟩ => ?_
  have bel : Below W.heap.size W W' := hd
  subst he
  exact ⟨_, rfl, _, _, _, [], _, [], hW', trodAll_mk1 (shut_bool Try.underlying4 _), (trodAll_cons_mk (Below.trod laidOut (by kernel_rfl) (of_decide_eq_true (by kernel_rfl)) k0 bel lt0) trodAll_mk0), rfl, bel.frame _, fun h => by cases h⟩
theorem over : Rows.fnExactValidConsoleRow.holds Try.pinned (OpenSpec.ofChange Rows.fnExactValidConsoleSpec) :=
  OpenClaim.holds_of_wide 8 Try.f8 rfl rfl rfl rfl rfl rfl rfl ⟨rfl, rfl, rfl, rfl, rfl⟩ rfl rfl rfl rfl rfl (by kernel_rfl) Try.func8 (by kernel_rfl)
    (of_decide_eq_true (by kernel_rfl)) (by unfold Func.isWrapper; first | (rw [if_pos (by decide +kernel)]; kernel_rfl) | (rw [if_neg (by decide +kernel)]; exact ⟨rfl, rfl⟩))
    (fun os started H enc _ => lifted os started H enc)
theorem proved : Rows.FnExactValidConsoleSaid := over
#print axioms proved
end Go.Proofs.Ytabbpnkbhapibaa.fnExactValidConsole
namespace Go.Proofs.Ytabbpnkbhapibaa
/-- The row, under a short name, for the claim. -/
theorem fnExactValidConsole_holds : Rows.FnExactValidConsoleSaid := fnExactValidConsole.proved
end Go.Proofs.Ytabbpnkbhapibaa
