/- Budgets, copies and comparisons of expressions (a recursive type), with a bound on how deep they are. No condition. -/
import Derived.Test.YtmebimamjgnlpaaYCompileExprO
import Derived.Test.YtmebimamjgnlpaaYCeW3
import Derived.Test.YtmebimamjgnlpaaYCeP0
import Derived.Test.YtmebimamjgnlpaaYCeP1
import Derived.Test.YtmebimamjgnlpaaYCeP2
import Derived.Test.YtmebimamjgnlpaaYCeP16
namespace Go.Proofs.Ytmebimamjgnlpaa.PureFnExactCompileExpr
open Go.RowKit Go.Proofs.YtmebimamjgnlpaaG Go.Proofs.Ytmebimamjgnlpaa.PFnExactCompileExpr Go.Proofs.YtmebimamjgnlpaaW.PrintWords Go.Proofs.YtmebimamjgnlpaaW.PrintLast Go.Proofs.YtmebimamjgnlpaaW.PrintMore
set_option linter.unusedSimpArgs false
set_option linter.unusedVariables false

def smG : Nat → S38 → Prop
  | 0, _ => False
  | n + 1, x => x.f2.size ≤ 1048576 ∧ x.f3.length ≤ 1048576 ∧ ∀ y, y ∈ x.f3 → smG n y
def smV : Nat → S26 → Prop
  | 0, _ => False
  | n + 1, x => x.f2.size ≤ 1048576 ∧ x.f3.length ≤ 1048576 ∧ ∀ y, y ∈ x.f3 → smV n y
theorem smG_up : ∀ (n : Nat) (x : S38), smG n x → smG (n + 1) x
  | 0, _, h => False.elim h
  | n + 1, x, h => ⟨h.1, h.2.1, fun y hy => smG_up n y (h.2.2 y hy)⟩
theorem smG_le {m n : Nat} (h : m ≤ n) {x : S38} (hx : smG m x) : smG n x := by
  induction h with
  | refl => exact hx
  | step _ ih => exact smG_up _ _ ih
theorem sz_shift {g : Nat → Option Int} {a : Int} {P : Prop} (h : Sz (fun k => g (k + 1)) a P) : Sz g a P := by
  obtain ⟨v, hv, r⟩ := h
  exact ⟨v, ev_shift hv, r⟩
theorem sz_exs (l : List S38) (hl : l.length ≤ 9223372036854775807) (ih : ∀ y, y ∈ l → ∀ a, 0 ≤ a → a ≤ 1048576 → Sz (fun k => laws_szExpr.f k y.f0 y.f1 y.f2 y.f3 a) a (smG (a.toNat + 1) y)) (a : Int) (ha : 0 ≤ a) (ha1 : a ≤ 1048576) :
    Sz (fun k => laws_szExprS.f k l a) a (l.length ≤ 1048576 ∧ ∀ y, y ∈ l → smG a.toNat y) := by
  refine sz_shift ?_
  simp only [laws_szExprS.f]
  refine sz_if ha ha ha1 (by omega) (by omega) fun b1 d1 e1 => ?_
  obtain ⟨v, hv, hle, hq⟩ := sz_loop laws_szExprS.l0 (fun k x n => laws_szExpr.f k x.f0 x.f1 x.f2 x.f3 n) rd_T38 (fun x => smG a.toNat x) (fun k xs n i => by simp only [laws_szExprS.l0]) (fun xs i h => getD_get _ xs i h) l hl (wrap64 (a - (l.length : Int))) (by omega)
    (fun x hx m hm hm1 => sz_mono (ih x hx m hm (by omega)) (fun h => smG_le (by have := List.length_pos_of_mem hx; omega) h))
  exact ⟨v, hv, by omega, fun h => ⟨by omega, hq h⟩⟩
theorem sz_ex (x : S38) (w : wf38 x) : ∀ a, 0 ≤ a → a ≤ 1048576 → Sz (fun k => laws_szExpr.f k x.f0 x.f1 x.f2 x.f3 a) a (smG (a.toNat + 1) x) := by
  induction w with
  | mk x h0 h1 h2 l3 h3 ih =>
    intro a ha ha1
    have u2 : x.f2.size ≤ 9223372036854775807 := h2
    refine sz_shift ?_
    simp only [laws_szExpr.f]
    refine sz_if ha ha ha1 (by omega) (by omega) fun b1 d1 e1 => ?_
    refine sz_bind ha (sz_exs x.f3 l3 ih (wrap64 (a - (x.f2.size : Int))) (by omega) (by omega)) fun v' b3 d3 q => ?_
    exact ⟨_, ev_some _, by omega, fun _ => ⟨by omega, q.1, fun y hy => smG_le (by omega) (q.2 y hy)⟩⟩
theorem to_exs (n : Nat) (l : List S38) (hl : l.length ≤ 1048576) (ih : ∀ y, y ∈ l → ∃ v : S26, Ev (fun k => laws_toExpr.f k y.f0 y.f1 y.f2 y.f3) (v.f0, v.f1, v.f2, v.f3) ∧ smV n v) :
    ∃ ys : List S26, Ev (fun k => laws_toExprS.f k l) ys ∧ ys.length ≤ 1048576 ∧ ∀ y, y ∈ ys → smV n y := by
  letI : FineC S26 := ⟨smV n⟩
  obtain ⟨ys, hy, gy⟩ := to_loop laws_toExprS.l0 (fun k x => (laws_toExpr.f k x.f0 x.f1 x.f2 x.f3).bind fun t => some (⟨t.1, t.2.1, t.2.2.1, t.2.2.2⟩ : S26)) rd_T38 (fun k xs ys i => by simp only [laws_toExprS.l0, Option.bind_assoc, Option.bind_some]) (fun xs i h => getD_get _ xs i h) l hl z26 (fun x hx => by
    obtain ⟨v, hv, gv⟩ := ih x hx
    obtain ⟨_, _, _, _⟩ := v
    exact ⟨_, ev_bind hv (ev_some _), gv⟩)
  refine ⟨ys, ?_, gy.len, fun y hy => gy.mem hy⟩
  refine ev_shift ?_
  simp only [laws_toExprS.f]
  exact ev_pos (by omega) (ev_pos (by omega) hy)
theorem to_ex : ∀ (n : Nat) (x : S38) (w : smG n x), ∃ v : S26, Ev (fun k => laws_toExpr.f k x.f0 x.f1 x.f2 x.f3) (v.f0, v.f1, v.f2, v.f3) ∧ smV n v := by
  intro n
  induction n with
  | zero => exact fun x w => False.elim w
  | succ n ih =>
    intro x w
    obtain ⟨ys, hy, ly, gy⟩ := to_exs n x.f3 w.2.1 (fun y hy => ih y (w.2.2 y hy))
    refine ⟨⟨x.f0, x.f1, x.f2, ys⟩, ?_, w.1, ly, gy⟩
    refine ev_shift ?_
    simp only [laws_toExpr.f]
    exact ev_bind hy (ev_some _)
theorem eq_ex : ∀ (n : Nat) (v : S26) (w : smV n v), Ev (fun k => laws_eqExpr.f k v.f0 v.f1 v.f2 v.f3 v.f0 v.f1 v.f2 v.f3) true := by
  intro n
  induction n with
  | zero => exact fun x w => False.elim w
  | succ n ih =>
    intro v w
    obtain ⟨_, l, h⟩ := w
    have hs : Ev (fun k => laws_eqExprS.f k v.f3 v.f3) true := by
      refine ev_shift ?_
      simp only [laws_eqExprS.f]
      refine ev_pos (by simp) ?_
      have e : allN v.f3.length (fun _ => true) = true := (allN_iff _ _).2 (fun _ _ => rfl)
      rw [← e]
      refine idx_all (g := fun k i => laws_eqExprS.l0 k v.f3 v.f3 i) v.f3.length (fun _ => true) ?_ ?_ ?_
      · refine ev_shift ?_; simp only [laws_eqExprS.l0]; exact ev_neg (by omega) (ev_some _)
      · intro i hi _ r hr
        have e2 : rd_T26 v.f3 (i : Int) = v.f3[i] := getD_get _ _ i hi
        have hh := ih (rd_T26 v.f3 (i : Int)) (h _ (by rw [e2]; exact List.getElem_mem hi))
        refine ev_shift ?_; simp only [laws_eqExprS.l0]
        refine ev_pos (by omega) (ev_pos (by omega) (ev_pos (by omega) (ev_bind hh (ev_pos rfl ?_))))
        rw [wrap_up (by omega) (show (i : Int) < (v.f3.length : Int) by omega) (by omega)]; exact hr
      · intro i hi hp; cases hp
    refine ev_shift ?_
    simp only [laws_eqExpr.f]
    exact ev_pos (by simp) (ev_pos (by simp) (ev_pos (by simp) (ev_bind hs (ev_pos rfl (ev_some _)))))
end Go.Proofs.Ytmebimamjgnlpaa.PureFnExactCompileExpr
