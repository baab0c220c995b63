/- What the helpers of the law FnExactSameCode come to: budgets, copies, comparisons; no condition. -/
import Derived.Test.YtnneadpahjkhgaaOFnExactSameCode
import Derived.Test.YtnneadpahjkhgaaGAuto
namespace Go.Proofs.Ytnneadpahjkhgaa.PureFnExactSameCode
open Go.RowKit Go.Proofs.YtnneadpahjkhgaaG Go.Proofs.Ytnneadpahjkhgaa.PFnExactSameCode Go.Proofs.YtnneadpahjkhgaaW.PrintWords Go.Proofs.YtnneadpahjkhgaaW.PrintLast Go.Proofs.YtnneadpahjkhgaaW.PrintMore
set_option linter.unusedVariables false
set_option linter.unusedSimpArgs false

instance : FineC S78 := ⟨fun x => Fine x.f0 ∧ Fine x.f1 ∧ Fine x.f2⟩
instance : FineC S123 := ⟨fun x => Fine x.f0 ∧ Fine x.f1 ∧ Fine x.f2⟩
instance : FineC S25 := ⟨fun x => Fine x.f0 ∧ Fine x.f1 ∧ Fine x.f2⟩
theorem laws_szInstr_sz (a0_0 : Int) (a0_1 : Int) (a0_2 : ByteArray) (a1 : Int) (w_a0_0 : (WInt .i64) a0_0) (w_a0_1 : (WInt .i64) a0_1) (w_a0_2 : WStr a0_2) (h0 : 0 ≤ a1) (h1 : a1 ≤ 1048576) : Sz (fun k => laws_szInstr.f a0_0 a0_1 a0_2 a1) a1 (Fine a0_0 ∧ Fine a0_1 ∧ Fine a0_2) := by
  simp only [laws_szInstr.f]
  have u_a0_2 : a0_2.size ≤ 9223372036854775807 := w_a0_2
  refine sz_if h0 (by omega) (by omega) (by omega) (by omega) fun b1 d1 e1 => ?_
  exact ⟨_, ev_some _, by omega, fun _ => (And.intro w_a0_0.i64 (And.intro w_a0_1.i64 (show a0_2.size ≤ 1048576 by omega)))⟩
theorem laws_szInstrS_sz (l0 : List (S123)) (a1 : Int) (w_l0 : (WList wf123) l0) (h0 : 0 ≤ a1) (h1 : a1 ≤ 1048576) : Sz (fun k => laws_szInstrS.f k l0 a1) a1 (Fine l0) := by
  simp only [laws_szInstrS.f]
  have u_l0 : l0.length ≤ 9223372036854775807 := w_l0.1
  refine sz_if h0 (by omega) (by omega) (by omega) (by omega) fun b1 d1 e1 => ?_
  obtain ⟨v, hv, hle, hq⟩ := sz_loop laws_szInstrS.l0 (fun k x n => laws_szInstr.f (x.f0) (x.f1) (x.f2) n) rd_T123 (fun x => Fine x) (fun k xs n i => by simp only [laws_szInstrS.l0]) (fun xs i h => getD_get _ xs i h) l0 w_l0.1 (wrap64 (a1 - (l0.length : Int))) (by omega) (fun x hx m hm hm1 => by
    have w := w_l0.2 x hx
    exact sz_mono (laws_szInstr_sz x.f0 x.f1 x.f2 m (show (WInt .i64) x.f0 ∧ (WInt .i64) x.f1 ∧ WStr x.f2 from w).1 (show (WInt .i64) x.f0 ∧ (WInt .i64) x.f1 ∧ WStr x.f2 from w).2.1 (show (WInt .i64) x.f0 ∧ (WInt .i64) x.f1 ∧ WStr x.f2 from w).2.2 hm (by omega)) (fun ⟨g0, g1, g2⟩ => (And.intro g0 (And.intro g1 g2))))
  exact ⟨v, hv, by omega, fun h => Fine.list (by omega) (hq h)⟩
theorem laws_szInt64S_sz (l0 : List Int) (a1 : Int) (w_l0 : (WList (WInt .i64)) l0) (h0 : 0 ≤ a1) (h1 : a1 ≤ 1048576) : Sz (fun k => laws_szInt64S.f l0 a1) a1 (Fine l0) := by
  simp only [laws_szInt64S.f]
  have u_l0 : l0.length ≤ 9223372036854775807 := w_l0.1
  refine sz_if h0 (by omega) (by omega) (by omega) (by omega) fun b1 d1 e1 => ?_
  exact ⟨_, ev_some _, by omega, fun _ => (Fine.list (by omega) (fun a_ ha_ => (w_l0.2 a_ ha_).i64))⟩
theorem laws_szCode_sz (l0_0 : List (S123)) (l0_1 : List Int) (l0_2 : List Int) (a1 : Int) (w_l0_0 : (WList wf123) l0_0) (w_l0_1 : (WList (WInt .i64)) l0_1) (w_l0_2 : (WList (WInt .i64)) l0_2) (h0 : 0 ≤ a1) (h1 : a1 ≤ 1048576) : Sz (fun k => laws_szCode.f k l0_0 l0_1 l0_2 a1) a1 (Fine l0_0 ∧ Fine l0_1 ∧ Fine l0_2) := by
  simp only [laws_szCode.f]
  have u_l0_0 : l0_0.length ≤ 9223372036854775807 := w_l0_0.1
  have u_l0_1 : l0_1.length ≤ 9223372036854775807 := w_l0_1.1
  have u_l0_2 : l0_2.length ≤ 9223372036854775807 := w_l0_2.1
  refine sz_bind h0 (laws_szInstrS_sz l0_0 a1 w_l0_0 (by omega) (by omega)) (fun t105 b1 d1 q1 => ?_)
  have g1_0 := q1
  refine sz_bind h0 (laws_szInt64S_sz l0_1 t105 w_l0_1 (by omega) (by omega)) (fun t106 b2 d2 q2 => ?_)
  have g2_0 := q2
  refine sz_bind h0 (laws_szInt64S_sz l0_2 t106 w_l0_2 (by omega) (by omega)) (fun t107 b3 d3 q3 => ?_)
  have g3_0 := q3
  exact ⟨_, ev_some _, by omega, fun _ => (And.intro g1_0 (And.intro g2_0 g3_0))⟩
theorem laws_toInstr_to (a0_0 : Int) (a0_1 : Int) (a0_2 : ByteArray) (g_a0_0 : Fine a0_0) (g_a0_1 : Fine a0_1) (g_a0_2 : Fine a0_2) : To (fun k => laws_toInstr.f a0_0 a0_1 a0_2) := by
  simp only [laws_toInstr.f]
  exact to_some (And.intro g_a0_0 (And.intro g_a0_1 g_a0_2))
theorem laws_toInstrS_to (l0 : List (S123)) (g_l0 : Fine l0) : To (fun k => laws_toInstrS.f k l0) := by
  simp only [laws_toInstrS.f]
  refine to_if (by omega) (to_if (by have := g_l0.len; omega) ?_)
  exact to_loop laws_toInstrS.l0 (fun k x => (laws_toInstr.f (x.f0) (x.f1) (x.f2)).bind fun bt115 => some (⟨bt115.1, bt115.2.1, bt115.2.2⟩ : S78)) rd_T123 (fun k xs ys i => by simp only [laws_toInstrS.l0, Option.bind_assoc, Option.bind_some]) (fun xs i h => getD_get _ xs i h) l0 g_l0.len _ (fun x hx => by
    have g := g_l0.mem hx
    exact to_bind (laws_toInstr_to (x.f0) (x.f1) (x.f2) (show Fine x.f0 ∧ Fine x.f1 ∧ Fine x.f2 from g).1 (show Fine x.f0 ∧ Fine x.f1 ∧ Fine x.f2 from g).2.1 (show Fine x.f0 ∧ Fine x.f1 ∧ Fine x.f2 from g).2.2) (fun bt115 g_bt115 => to_some (And.intro g_bt115.fst (And.intro g_bt115.snd.fst g_bt115.snd.snd))))
theorem laws_toInt64S_to (l0 : List Int) (g_l0 : Fine l0) : To (fun k => laws_toInt64S.f k l0) := by
  simp only [laws_toInt64S.f]
  refine to_if (by omega) (to_if (by have := g_l0.len; omega) ?_)
  exact to_loop laws_toInt64S.l0 (fun k x => some x) rd (fun k xs ys i => by simp only [laws_toInt64S.l0, Option.bind_some]) (fun xs i h => rd_get xs i h) l0 g_l0.len _ (fun x hx => to_some (g_l0.mem hx))
theorem laws_toCode_to (l0_0 : List (S123)) (l0_1 : List Int) (l0_2 : List Int) (g_l0_0 : Fine l0_0) (g_l0_1 : Fine l0_1) (g_l0_2 : Fine l0_2) : To (fun k => laws_toCode.f k l0_0 l0_1 l0_2) := by
  simp only [laws_toCode.f]
  refine to_bind (laws_toInstrS_to l0_0 g_l0_0) (fun t127 g_t127 => ?_)
  refine to_bind (laws_toInt64S_to l0_1 g_l0_1) (fun t130 g_t130 => ?_)
  refine to_bind (laws_toInt64S_to l0_2 g_l0_2) (fun t133 g_t133 => ?_)
  exact to_some (And.intro g_t127 (And.intro g_t130 g_t133))
theorem laws_eqInstr_rf (a0_0 : Int) (a0_1 : Int) (a0_2 : ByteArray) (g_a0_0 : Fine a0_0) (g_a0_1 : Fine a0_1) (g_a0_2 : Fine a0_2) : Ev (fun k => laws_eqInstr.f a0_0 a0_1 a0_2 a0_0 a0_1 a0_2) true := by
  simp only [laws_eqInstr.f]
  refine ev_pos (by trivial) ?_
  refine ev_pos (by trivial) ?_
  refine ev_pos (by trivial) ?_
  exact ev_some _
theorem laws_eqInstrS_rf (l0 : List (S78)) (g_l0 : Fine l0) : Ev (fun k => laws_eqInstrS.f k l0 l0) true := by
  simp only [laws_eqInstrS.f]
  refine ev_pos (by trivial) ?_
  exact eq_loop laws_eqInstrS.l0 (fun k x y => laws_eqInstr.f (x.f0) (x.f1) (x.f2) (y.f0) (y.f1) (y.f2)) rd_T78 (fun k xs ys i => by simp only [laws_eqInstrS.l0]) (fun xs i h => getD_get _ xs i h) l0 g_l0.len (fun x hx => by
    have g := g_l0.mem hx
    exact laws_eqInstr_rf x.f0 x.f1 x.f2 (show Fine x.f0 ∧ Fine x.f1 ∧ Fine x.f2 from g).1 (show Fine x.f0 ∧ Fine x.f1 ∧ Fine x.f2 from g).2.1 (show Fine x.f0 ∧ Fine x.f1 ∧ Fine x.f2 from g).2.2)
theorem laws_eqInt64S_rf (l0 : List Int) (g_l0 : Fine l0) : Ev (fun k => laws_eqInt64S.f k l0 l0) true := by
  simp only [laws_eqInt64S.f]
  refine ev_pos (by trivial) ?_
  exact eq_loop laws_eqInt64S.l0 (fun k x y => some (decide (x = y))) rd (fun k xs ys i => by simp only [laws_eqInt64S.l0, Option.bind_some, decide_eq_true_eq]) (fun xs i h => rd_get xs i h) l0 g_l0.len (fun x hx => by simpa using ev_some true)
theorem laws_eqCode_rf (l0_0 : List (S78)) (l0_1 : List Int) (l0_2 : List Int) (g_l0_0 : Fine l0_0) (g_l0_1 : Fine l0_1) (g_l0_2 : Fine l0_2) : Ev (fun k => laws_eqCode.f k l0_0 l0_1 l0_2 l0_0 l0_1 l0_2) true := by
  simp only [laws_eqCode.f]
  refine ev_bind (laws_eqInstrS_rf l0_0 g_l0_0) ?_
  refine ev_pos (by trivial) ?_
  refine ev_bind (laws_eqInt64S_rf l0_1 g_l0_1) ?_
  refine ev_pos (by trivial) ?_
  refine ev_bind (laws_eqInt64S_rf l0_2 g_l0_2) ?_
  refine ev_pos (by trivial) ?_
  exact ev_some _
/-- The two functions agree. -/
def laws_FnExactSameCode.Core : Prop := ∀ (l0_0 : List (S78)) (l0_1 : List Int) (l0_2 : List Int) (l1_0 : List (S78)) (l1_1 : List Int) (l1_2 : List Int), Fine l0_0 → Fine l0_1 → Fine l0_2 → Fine l1_0 → Fine l1_1 → Fine l1_2 → ∃ r, Ev (fun k => spec_SameCode.f k l0_0 l0_1 l0_2 l1_0 l1_1 l1_2) r ∧ Ev (fun k => impl_SameCode.f k l0_0 l0_1 l0_2 l1_0 l1_1 l1_2) r ∧ Fine r
theorem close (core : laws_FnExactSameCode.Core) : laws_FnExactSameCode.Pure := by
  intro x0 x1 w_x0 w_x1
  suffices hh : Ev (fun k => laws_FnExactSameCode.f k x0.f0 x0.f1 x0.f2 x1.f0 x1.f1 x1.f2) true by
    obtain ⟨K, hK⟩ := hh
    exact ⟨K, hK K (Nat.le_refl _)⟩
  simp only [laws_FnExactSameCode.f]
  obtain ⟨v1, e1, b1, q1⟩ := laws_szCode_sz x0.f0 x0.f1 x0.f2 1048576 ((show (WList wf123) x0.f0 ∧ (WList (WInt .i64)) x0.f1 ∧ (WList (WInt .i64)) x0.f2 from w_x0).1) ((show (WList wf123) x0.f0 ∧ (WList (WInt .i64)) x0.f1 ∧ (WList (WInt .i64)) x0.f2 from w_x0).2.1) ((show (WList wf123) x0.f0 ∧ (WList (WInt .i64)) x0.f1 ∧ (WList (WInt .i64)) x0.f2 from w_x0).2.2) (by omega) (by omega)
  refine ev_bind e1 (ev_skip fun c1 => ?_)
  obtain ⟨g1_0, g1_1, g1_2⟩ := q1 (by omega)
  obtain ⟨v2, e2, b2, q2⟩ := laws_szCode_sz x1.f0 x1.f1 x1.f2 v1 ((show (WList wf123) x1.f0 ∧ (WList (WInt .i64)) x1.f1 ∧ (WList (WInt .i64)) x1.f2 from w_x1).1) ((show (WList wf123) x1.f0 ∧ (WList (WInt .i64)) x1.f1 ∧ (WList (WInt .i64)) x1.f2 from w_x1).2.1) ((show (WList wf123) x1.f0 ∧ (WList (WInt .i64)) x1.f1 ∧ (WList (WInt .i64)) x1.f2 from w_x1).2.2) (by omega) (by omega)
  refine ev_bind e2 (ev_skip fun c2 => ?_)
  obtain ⟨g2_0, g2_1, g2_2⟩ := q2 (by omega)
  obtain ⟨v3, e3, g3⟩ := laws_toCode_to x0.f0 x0.f1 x0.f2 g1_0 g1_1 g1_2
  refine ev_bind e3 ?_
  obtain ⟨v4, e4, g4⟩ := laws_toCode_to x1.f0 x1.f1 x1.f2 g2_0 g2_1 g2_2
  refine ev_bind e4 ?_
  obtain ⟨r, es, ei, gr⟩ := core v3.1 v3.2.1 v3.2.2 v4.1 v4.2.1 v4.2.2 (g3.fst) (g3.snd.fst) (g3.snd.snd) (g4.fst) (g4.snd.fst) (g4.snd.snd)
  refine ev_bind es ?_
  refine ev_bind e3 ?_
  refine ev_bind e4 ?_
  refine ev_bind ei ?_
  have p0_ : Fine v3.1 := g3.fst
  have p1_ : Fine v3.2.1 := g3.snd.fst
  have p2_ : Fine v3.2.2 := g3.snd.snd
  have p3_ : Fine v4.1 := g4.fst
  have p4_ : Fine v4.2.1 := g4.snd.fst
  have p5_ : Fine v4.2.2 := g4.snd.snd
  have p6_ : Fine r := gr
  repeat (first | exact ev_some _ | refine ev_pos trivial ?_ | refine ev_pos rfl ?_ | refine ev_neg (bne_ff _) ?_ | refine ev_neg Bool.false_ne_true ?_ | refine ev_neg id ?_ | refine ev_bind e3 ?_ | refine ev_bind e4 ?_ | refine ev_bind (laws_eqInstr_rf _ _ _ (by assumption) (by assumption) (by assumption)) ?_ | refine ev_bind (laws_eqInstrS_rf _ (by assumption)) ?_ | refine ev_bind (laws_eqInt64S_rf _ (by assumption)) ?_ | refine ev_bind (laws_eqCode_rf _ _ _ (by assumption) (by assumption) (by assumption)) ?_)
end Go.Proofs.Ytnneadpahjkhgaa.PureFnExactSameCode
