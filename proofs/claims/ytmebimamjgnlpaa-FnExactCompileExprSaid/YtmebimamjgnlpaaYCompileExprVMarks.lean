/- What the helpers of the law FnExactCompileExpr come to: budgets, copies, comparisons; no condition. -/
import Derived.Test.YtmebimamjgnlpaaYCompileExprO
import Derived.Test.YtmebimamjgnlpaaYCeW3
import Derived.Test.YtmebimamjgnlpaaYCeP0
import Derived.Test.YtmebimamjgnlpaaYCeP15
import Derived.Test.YtmebimamjgnlpaaYCeP17
import Derived.Test.YtmebimamjgnlpaaYCeP18
import Derived.Test.YtmebimamjgnlpaaYCeP19
namespace Go.Proofs.Ytmebimamjgnlpaa.PureFnExactCompileExpr
open Go.RowKit Go.Proofs.YtmebimamjgnlpaaG Go.Proofs.Ytmebimamjgnlpaa.PFnExactCompileExpr Go.Proofs.YtmebimamjgnlpaaW.PrintWords Go.Proofs.YtmebimamjgnlpaaW.PrintLast Go.Proofs.YtmebimamjgnlpaaW.PrintMore
set_option linter.unusedVariables false
set_option linter.unusedSimpArgs false

instance : FineC S89 := ⟨fun x => Fine x.f0 ∧ Fine x.f1 ∧ Fine x.f2⟩
theorem laws_eqInstr_rf (a0_0 : Int) (a0_1 : Int) (a0_2 : ByteArray) (g_a0_0 : Fine a0_0) (g_a0_1 : Fine a0_1) (g_a0_2 : Fine a0_2) : Ev (fun k => laws_eqInstr.f a0_0 a0_1 a0_2 a0_0 a0_1 a0_2) true := by
  simp only [laws_eqInstr.f]
  refine ev_pos (by trivial) ?_
  refine ev_pos (by trivial) ?_
  refine ev_pos (by trivial) ?_
  exact ev_some _
theorem laws_eqInstrS_rf (l0 : List (S89)) (g_l0 : Fine l0) : Ev (fun k => laws_eqInstrS.f k l0 l0) true := by
  simp only [laws_eqInstrS.f]
  refine ev_pos (by trivial) ?_
  exact eq_loop laws_eqInstrS.l0 (fun k x y => laws_eqInstr.f (x.f0) (x.f1) (x.f2) (y.f0) (y.f1) (y.f2)) rd_T89 (fun k xs ys i => by simp only [laws_eqInstrS.l0]) (fun xs i h => getD_get _ xs i h) l0 g_l0.len (fun x hx => by
    have g := g_l0.mem hx
    exact laws_eqInstr_rf x.f0 x.f1 x.f2 (show Fine x.f0 ∧ Fine x.f1 ∧ Fine x.f2 from g).1 (show Fine x.f0 ∧ Fine x.f1 ∧ Fine x.f2 from g).2.1 (show Fine x.f0 ∧ Fine x.f1 ∧ Fine x.f2 from g).2.2)
theorem laws_markText_mk (n : Int) (hn : n ≤ 1000000000000000000) : ∃ t, Ev (fun k => laws_markText.f k n) t := by
  simp only [laws_markText.f]
  by_cases c : n ≤ 0
  · exact ⟨_, ev_pos c (ev_some _)⟩
  · suffices h : ∀ (d : Nat) (x : Int) (s : ByteArray), 0 ≤ x → x < (10 : Int) ^ d → x ≤ 1000000000000000000 → s.size + d + 2 ≤ 9223372036854775807 → ∃ t, Ev (fun k => laws_markText.l0 k x s) t by
      obtain ⟨t, ht⟩ := h 19 n ⟨#[]⟩ (by omega) (by rw [show (10 : Int) ^ 19 = 10000000000000000000 from by decide]; omega) hn (by show 0 + 19 + 2 ≤ _; omega)
      exact ⟨t, ev_neg c ht⟩
    intro d
    induction d with
    | zero =>
      intro x s h0 h1 _ hs
      have e : x = 0 := by rw [Int.pow_zero] at h1; omega
      subst e
      refine ⟨(⟨#[109]⟩ : ByteArray) ++ s, ev_shift ?_⟩
      simp only [laws_markText.l0]
      exact ev_neg (by omega) (ev_pos (by omega) (ev_some _))
    | succ d ih =>
      intro x s h0 h1 h2 hs
      by_cases c : x > 0
      · have e : wrap64 (Int.tdiv x 10) = x / 10 := by rw [Int.tdiv_eq_ediv_of_nonneg h0]; exact wrap_id (by omega) (by omega)
        have hz : ∀ y : Int, ((strOfNums [y]) ++ s).size = 1 + s.size := fun y => by rw [ByteArray.size_append]; rfl
        have hz1 : ∀ y : Int, (strOfNums [y]).size = 1 := fun y => rfl
        rw [Int.pow_succ] at h1
        obtain ⟨t, ht⟩ := ih (x / 10) ((strOfNums [(wrap64 (48 + (Int.tmod x 10))) % 256]) ++ s) (by omega) (by omega) (by omega) (by rw [hz]; omega)
        refine ⟨t, ev_shift ?_⟩
        simp only [laws_markText.l0]
        refine ev_pos c (ev_bindc rfl (ev_pos (by rw [hz1]; omega) ?_))
        rw [e]; exact ht
      · refine ⟨(⟨#[109]⟩ : ByteArray) ++ s, ev_shift ?_⟩
        simp only [laws_markText.l0]
        exact ev_neg c (ev_pos (by omega) (ev_some _))
def H_InstrS (x : S89) (n : Int) : Prop := ∃ t0 : ByteArray, Ev (fun k => laws_markText.f k (n + 2)) t0 ∧ x = (⟨n, (n + 1), t0⟩ : S89)
theorem laws_markInstrS_mk (l : List S89) (g : Fine l) (n : Int) (h0 : 0 ≤ n) (h1 : n ≤ 100000000000000) : ∃ ys, Ev (fun k => laws_markInstrS.f k l n) (n + 3 * (l.length : Int), ys) ∧ ys.length = l.length ∧ ∀ i (hi : i < ys.length), H_InstrS ys[i] (n + 3 * (i : Int)) := by
  simp only [laws_markInstrS.f]
  have hl := g.len
  refine mark_loop (fun k xs n i => laws_markInstrS.l0 k xs n i) (H_InstrS) 3 200000000000000 (by omega) ?_ ?_ l hl n h0 (by omega)
  · intro k xs n; simp only [laws_markInstrS.l0]; exact if_neg (by omega)
  · intro n h0 h1 xs i hi hl
    obtain ⟨t0, e_t0⟩ := laws_markText_mk (n + 2) (by omega)
    refine ⟨⟨n, (n + 1), t0⟩, ⟨t0, e_t0, rfl⟩, fun r hr => ev_shift ?_⟩
    have w1 : wrap64 (n + 1) = n + 1 := by rw [wrap_id (by omega) (by omega)]
    have w2 : wrap64 (n + 1 + 1) = n + 2 := by rw [wrap_id (by omega) (by omega)]; omega
    have w3 : wrap64 (n + 2 + 1) = n + 3 := by rw [wrap_id (by omega) (by omega)]; omega
    have wi : wrap64 ((i : Int) + 1) = (i : Int) + 1 := wrap_id (by omega) (by omega)
    have hset : ∀ a, rd_T89 (xs.set ((i : Int)).toNat a) (i : Int) = a := fun a => getD_set _ xs i hi a
    simp only [laws_markInstrS.l0, Option.bind_some, w1, w2, w3, wi, hset, List.set_set]
    rw [Int.toNat_natCast] at *
    repeat (first | exact hr | refine ev_pos (by omega) ?_ | refine ev_bind e_t0 ?_)
theorem laws_heldInstrS_hd (l : List S89) (hl : l.length ≤ 1048576) (n : Int) (h0 : 0 ≤ n) (h1 : n ≤ 100000000000000) (h : ∀ i (hi : i < l.length), H_InstrS l[i] (n + 3 * (i : Int))) : Ev (fun k => laws_heldInstrS.f k l n) (n + 3 * (l.length : Int)) := by
  simp only [laws_heldInstrS.f]
  refine held_loop (fun k xs n i => laws_heldInstrS.l0 k xs n i) (H_InstrS) 3 200000000000000 (by omega) ?_ ?_ l hl n h0 (by omega) h
  · intro k xs n; simp only [laws_heldInstrS.l0]; exact if_neg (by omega)
  · intro n h0 h1 xs i hi hl hx r hr
    obtain ⟨t0, e_t0, hx⟩ := hx
    refine ev_shift ?_
    have w1 : wrap64 (n + 1) = n + 1 := by rw [wrap_id (by omega) (by omega)]
    have w2 : wrap64 (n + 1 + 1) = n + 2 := by rw [wrap_id (by omega) (by omega)]; omega
    have w3 : wrap64 (n + 2 + 1) = n + 3 := by rw [wrap_id (by omega) (by omega)]; omega
    have wi : wrap64 ((i : Int) + 1) = (i : Int) + 1 := wrap_id (by omega) (by omega)
    have hrd : rd_T89 xs (i : Int) = ⟨n, (n + 1), t0⟩ := ((fun xs i h => getD_get _ xs i h) xs i hi).trans hx
    simp only [laws_heldInstrS.l0, Option.bind_some, w1, w2, w3, wi, hrd]
    repeat (first | exact hr | refine ev_pos trivial ?_ | refine ev_pos rfl ?_ | refine ev_neg (bne_ff _) ?_ | refine ev_bind e_t0 ?_ | refine ev_pos (by omega) ?_)

end Go.Proofs.Ytmebimamjgnlpaa.PureFnExactCompileExpr
