/- Budgets, copies and comparisons of expressions (a recursive type), with a bound on how deep they are. No condition. -/
import Derived.Test.YtfpkngdoijpafaaYValidGenO
import Derived.Test.YtfpkngdoijpafaaYVgW3
import Derived.Test.YtfpkngdoijpafaaYVgP0
import Derived.Test.YtfpkngdoijpafaaYVgP1
import Derived.Test.YtfpkngdoijpafaaYVgP2
import Derived.Test.YtfpkngdoijpafaaYVgP3
import Derived.Test.YtfpkngdoijpafaaYVgP13
import Derived.Test.YtfpkngdoijpafaaYVgP16
namespace Go.Proofs.Ytfpkngdoijpafaa.PureFnExactValidGen
open Go.RowKit Go.Proofs.YtfpkngdoijpafaaG Go.Proofs.Ytfpkngdoijpafaa.PFnExactValidGen Go.Proofs.YtfpkngdoijpafaaW.PrintWords Go.Proofs.YtfpkngdoijpafaaW.PrintLast Go.Proofs.YtfpkngdoijpafaaW.PrintMore
set_option linter.unusedSimpArgs false
set_option linter.unusedVariables false

def smG : Nat → S26 → Prop
  | 0, _ => False
  | n + 1, x => x.f4.length ≤ 1048576 ∧ ∀ y, y ∈ x.f4 → smG n y
def smV : Nat → S32 → Prop
  | 0, _ => False
  | n + 1, x => x.f4.length ≤ 1048576 ∧ ∀ y, y ∈ x.f4 → smV n y
theorem smG_up : ∀ (n : Nat) (x : S26), smG n x → smG (n + 1) x
  | 0, _, h => False.elim h
  | n + 1, x, h => ⟨h.1, fun y hy => smG_up n y (h.2 y hy)⟩
theorem smG_le {m n : Nat} (h : m ≤ n) {x : S26} (hx : smG m x) : smG n x := by
  induction h with
  | refl => exact hx
  | step _ ih => exact smG_up _ _ ih
theorem sz_shift {g : Nat → Option Int} {a : Int} {P : Prop} (h : Sz (fun k => g (k + 1)) a P) : Sz g a P := by
  obtain ⟨v, hv, r⟩ := h
  exact ⟨v, ev_shift hv, r⟩
theorem sz_gens (l : List S26) (hl : l.length ≤ 9223372036854775807) (ih : ∀ y, y ∈ l → ∀ a, 0 ≤ a → a ≤ 1048576 → Sz (fun k => laws_szGen.f k y.f0 y.f1 y.f2 y.f3.f0 y.f3.f1 y.f3.f2 y.f3.f3 y.f4 a) a (smG (a.toNat + 1) y)) (a : Int) (ha : 0 ≤ a) (ha1 : a ≤ 1048576) :
    Sz (fun k => laws_szGenS.f k l a) a (l.length ≤ 1048576 ∧ ∀ y, y ∈ l → smG a.toNat y) := by
  refine sz_shift ?_
  simp only [laws_szGenS.f]
  refine sz_if ha ha ha1 (by omega) (by omega) fun b1 d1 e1 => ?_
  obtain ⟨v, hv, hle, hq⟩ := sz_loop laws_szGenS.l0 (fun k x n => laws_szGen.f k x.f0 x.f1 x.f2 x.f3.f0 x.f3.f1 x.f3.f2 x.f3.f3 x.f4 n) rd_T26 (fun x => smG a.toNat x) (fun k xs n i => by simp only [laws_szGenS.l0]) (fun xs i h => getD_get _ xs i h) l hl (wrap64 (a - (l.length : Int))) (by omega)
    (fun x hx m hm hm1 => sz_mono (ih x hx m hm (by omega)) (fun h => smG_le (by have := List.length_pos_of_mem hx; omega) h))
  exact ⟨v, hv, by omega, fun h => ⟨by omega, hq h⟩⟩
theorem sz_gen (x : S26) (w : wf26 x) : ∀ a, 0 ≤ a → a ≤ 1048576 → Sz (fun k => laws_szGen.f k x.f0 x.f1 x.f2 x.f3.f0 x.f3.f1 x.f3.f2 x.f3.f3 x.f4 a) a (smG (a.toNat + 1) x) := by
  induction w with
  | mk x h0 h1 h2 h3 l4 h4 ih =>
    intro a ha ha1
    have u2 : x.f2.size ≤ 9223372036854775807 := h2
    have u3 : x.f3.f2.size ≤ 9223372036854775807 := h3.2.2.1
    refine sz_shift ?_
    simp only [laws_szGen.f]
    refine sz_if ha ha ha1 (by omega) (by omega) fun b1 d1 e1 => ?_
    refine sz_bind (a := a - (x.f2.size : Int)) (Q := True) ha ?_ fun v b2 d2 _ => ?_
    · simp only [laws_szValue.f, e1]
      exact sz_if (by omega) (by omega) (by omega) (by omega) (by omega) fun b d e => ⟨_, ev_some _, by omega, fun _ => trivial⟩
    · refine sz_bind ha (sz_gens x.f4 l4 ih v b2 (by omega)) fun v' b3 d3 q => ?_
      exact ⟨_, ev_some _, by omega, fun _ => ⟨q.1, fun y hy => smG_le (by omega) (q.2 y hy)⟩⟩
theorem to_gens (n : Nat) (l : List S26) (hl : l.length ≤ 1048576) (ih : ∀ y, y ∈ l → ∃ v : S32, Ev (fun k => laws_toGen.f k y.f0 y.f1 y.f2 y.f3.f0 y.f3.f1 y.f3.f2 y.f3.f3 y.f4) (v.f0, v.f1, v.f2, v.f3.f0, v.f3.f1, v.f3.f2, v.f3.f3, v.f4) ∧ smV n v) :
    ∃ ys : List S32, Ev (fun k => laws_toGenS.f k l) ys ∧ ys.length ≤ 1048576 ∧ ∀ y, y ∈ ys → smV n y := by
  letI : FineC S32 := ⟨smV n⟩
  obtain ⟨ys, hy, gy⟩ := to_loop laws_toGenS.l0 (fun k x => (laws_toGen.f k x.f0 x.f1 x.f2 x.f3.f0 x.f3.f1 x.f3.f2 x.f3.f3 x.f4).bind fun t => some (⟨t.1, t.2.1, t.2.2.1, (⟨t.2.2.2.1, t.2.2.2.2.1, t.2.2.2.2.2.1, t.2.2.2.2.2.2.1⟩ : S29), t.2.2.2.2.2.2.2⟩ : S32)) rd_T26 (fun k xs ys i => by simp only [laws_toGenS.l0, Option.bind_assoc, Option.bind_some]) (fun xs i h => getD_get _ xs i h) l hl z32 (fun x hx => by
    obtain ⟨v, hv, gv⟩ := ih x hx
    obtain ⟨_, _, _, ⟨_, _, _, _⟩, _⟩ := v
    exact ⟨_, ev_bind hv (ev_some _), gv⟩)
  refine ⟨ys, ?_, gy.len, fun y hy => gy.mem hy⟩
  refine ev_shift ?_
  simp only [laws_toGenS.f]
  exact ev_pos (by omega) (ev_pos (by omega) hy)
theorem to_gen : ∀ (n : Nat) (x : S26) (w : smG n x), ∃ v : S32, Ev (fun k => laws_toGen.f k x.f0 x.f1 x.f2 x.f3.f0 x.f3.f1 x.f3.f2 x.f3.f3 x.f4) (v.f0, v.f1, v.f2, v.f3.f0, v.f3.f1, v.f3.f2, v.f3.f3, v.f4) ∧ smV n v := by
  intro n
  induction n with
  | zero => exact fun x w => False.elim w
  | succ n ih =>
    intro x w
    obtain ⟨ys, hy, ly, gy⟩ := to_gens n x.f4 w.1 (fun y hy => ih y (w.2 y hy))
    refine ⟨⟨x.f0, x.f1, x.f2, ⟨x.f3.f0, x.f3.f1, x.f3.f2, x.f3.f3⟩, ys⟩, ?_, ly, gy⟩
    refine ev_shift ?_
    simp only [laws_toGen.f, laws_toValue.f, Option.bind_some]
    exact ev_bind hy (ev_some _)
theorem eq_gen : ∀ (n : Nat) (v : S32) (w : smV n v), Ev (fun k => laws_eqGen.f k v.f0 v.f1 v.f2 v.f3.f0 v.f3.f1 v.f3.f2 v.f3.f3 v.f4 v.f0 v.f1 v.f2 v.f3.f0 v.f3.f1 v.f3.f2 v.f3.f3 v.f4) true := by
  intro n
  induction n with
  | zero => exact fun x w => False.elim w
  | succ n ih =>
    intro v w
    obtain ⟨l, h⟩ := w
    have hs : Ev (fun k => laws_eqGenS.f k v.f4 v.f4) true := by
      refine ev_shift ?_
      simp only [laws_eqGenS.f]
      refine ev_pos (by simp) ?_
      have e : allN v.f4.length (fun _ => true) = true := (allN_iff _ _).2 (fun _ _ => rfl)
      rw [← e]
      refine idx_all (g := fun k i => laws_eqGenS.l0 k v.f4 v.f4 i) v.f4.length (fun _ => true) ?_ ?_ ?_
      · refine ev_shift ?_; simp only [laws_eqGenS.l0]; exact ev_neg (by omega) (ev_some _)
      · intro i hi _ r hr
        have e2 : rd_T32 v.f4 (i : Int) = v.f4[i] := getD_get _ _ i hi
        have hh := ih (rd_T32 v.f4 (i : Int)) (h _ (by rw [e2]; exact List.getElem_mem hi))
        refine ev_shift ?_; simp only [laws_eqGenS.l0]
        refine ev_pos (by omega) (ev_pos (by omega) (ev_pos (by omega) (ev_bind hh (ev_pos rfl ?_))))
        rw [wrap_up (by omega) (show (i : Int) < (v.f4.length : Int) by omega) (by omega)]; exact hr
      · intro i hi hp; cases hp
    refine ev_shift ?_
    simp only [laws_eqGen.f]
    refine ev_pos (by simp) (ev_pos (by simp) (ev_pos (by simp) (ev_bindc (show laws_eqValue.f v.f3.f0 v.f3.f1 v.f3.f2 v.f3.f3 v.f3.f0 v.f3.f1 v.f3.f2 v.f3.f3 = some true by simp [laws_eqValue.f]) (ev_pos rfl (ev_bind hs (ev_pos rfl (ev_some _)))))))
end Go.Proofs.Ytfpkngdoijpafaa.PureFnExactValidGen
