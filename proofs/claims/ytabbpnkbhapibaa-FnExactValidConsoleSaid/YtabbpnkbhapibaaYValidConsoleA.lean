/- What the helpers of the law FnExactValidConsole come to: budgets, copies, comparisons; no condition. -/
import Derived.Test.YtabbpnkbhapibaaYValidConsoleO
import Derived.Test.YtabbpnkbhapibaaYVcW3
namespace Go.Proofs.Ytabbpnkbhapibaa.PureFnExactValidConsole
open Go.RowKit Go.Proofs.YtabbpnkbhapibaaG Go.Proofs.Ytabbpnkbhapibaa.PFnExactValidConsole Go.Proofs.YtabbpnkbhapibaaW.PrintWords Go.Proofs.YtabbpnkbhapibaaW.PrintLast Go.Proofs.YtabbpnkbhapibaaW.PrintMore
set_option linter.unusedVariables false
set_option linter.unusedSimpArgs false

instance : FineC S163 := ⟨fun x => Fine x.f0 ∧ Fine x.f1 ∧ Fine x.f2 ∧ Fine x.f3⟩
instance : FineC S202 := ⟨fun x => Fine x.f0 ∧ Fine x.f1 ∧ Fine x.f2 ∧ Fine x.f3⟩
instance : FineC S69 := ⟨fun x => Fine x.f0 ∧ Fine x.f1 ∧ Fine x.f2 ∧ Fine x.f3 ∧ Fine x.f4⟩
instance : FineC S74 := ⟨fun x => Fine x.f0 ∧ Fine x.f1 ∧ Fine x.f2 ∧ Fine x.f3 ∧ Fine x.f4⟩
theorem laws_szStringS_sz (l0 : List ByteArray) (a1 : Int) (w_l0 : (WList WStr) l0) (h0 : 0 ≤ a1) (h1 : a1 ≤ 1048576) : Sz (fun k => laws_szStringS.f k l0 a1) a1 (Fine l0) := by
  simp only [laws_szStringS.f]
  have u_l0 : l0.length ≤ 9223372036854775807 := w_l0.1
  refine sz_if h0 (by omega) (by omega) (by omega) (by omega) fun b1 d1 e1 => ?_
  obtain ⟨v, hv, hle, hq⟩ := sz_loop laws_szStringS.l0 (fun k x n => if wrap64 (n - (x.size : Int)) < 0 then some (-1) else some (wrap64 (n - (x.size : Int)))) (rdOf ByteArray.empty) (fun x => Fine x) (fun k xs n i => by simp only [laws_szStringS.l0, sz_fold]) (fun xs i h => rdOf_get _ xs i h) l0 w_l0.1 (wrap64 (a1 - (l0.length : Int))) (by omega) (fun x hx m hm hm1 => sz_if hm hm (by omega) (by omega) (by have z_ := w_l0.2 x hx; unfold WStr at z_; omega) (fun b_ d_ e_ => ⟨_, ev_some _, by omega, fun _ => (show x.size ≤ 1048576 by omega)⟩))
  exact ⟨v, hv, by omega, fun h => Fine.list (by omega) (hq h)⟩
theorem laws_szFile_sz (a0_0 : ByteArray) (l0_1 : List ByteArray) (a0_2 : Int) (a0_3 : Int) (a1 : Int) (w_a0_0 : WStr a0_0) (w_l0_1 : (WList WStr) l0_1) (w_a0_2 : (WInt .i64) a0_2) (w_a0_3 : (WInt .i64) a0_3) (h0 : 0 ≤ a1) (h1 : a1 ≤ 1048576) : Sz (fun k => laws_szFile.f k a0_0 l0_1 a0_2 a0_3 a1) a1 (Fine a0_0 ∧ Fine l0_1 ∧ Fine a0_2 ∧ Fine a0_3) := by
  simp only [laws_szFile.f]
  have u_a0_0 : a0_0.size ≤ 9223372036854775807 := w_a0_0
  have u_l0_1 : l0_1.length ≤ 9223372036854775807 := w_l0_1.1
  refine sz_if h0 (by omega) (by omega) (by omega) (by omega) fun b1 d1 e1 => ?_
  refine sz_bind h0 (laws_szStringS_sz l0_1 (wrap64 (a1 - (a0_0.size : Int))) w_l0_1 (by omega) (by omega)) (fun t103 b2 d2 q2 => ?_)
  have g2_0 := q2
  exact ⟨_, ev_some _, by omega, fun _ => (And.intro (show a0_0.size ≤ 1048576 by omega) (And.intro g2_0 (And.intro w_a0_2.i64 w_a0_3.i64)))⟩
theorem laws_szFileS_sz (l0 : List (S202)) (a1 : Int) (w_l0 : (WList wf202) l0) (h0 : 0 ≤ a1) (h1 : a1 ≤ 1048576) : Sz (fun k => laws_szFileS.f k l0 a1) a1 (Fine l0) := by
  simp only [laws_szFileS.f]
  have u_l0 : l0.length ≤ 9223372036854775807 := w_l0.1
  refine sz_if h0 (by omega) (by omega) (by omega) (by omega) fun b1 d1 e1 => ?_
  obtain ⟨v, hv, hle, hq⟩ := sz_loop laws_szFileS.l0 (fun k x n => laws_szFile.f k (x.f0) (x.f1) (x.f2) (x.f3) n) rd_T202 (fun x => Fine x) (fun k xs n i => by simp only [laws_szFileS.l0]) (fun xs i h => getD_get _ xs i h) l0 w_l0.1 (wrap64 (a1 - (l0.length : Int))) (by omega) (fun x hx m hm hm1 => by
    have w := w_l0.2 x hx
    exact sz_mono (laws_szFile_sz x.f0 x.f1 x.f2 x.f3 m (show WStr x.f0 ∧ (WList WStr) x.f1 ∧ (WInt .i64) x.f2 ∧ (WInt .i64) x.f3 from w).1 (show WStr x.f0 ∧ (WList WStr) x.f1 ∧ (WInt .i64) x.f2 ∧ (WInt .i64) x.f3 from w).2.1 (show WStr x.f0 ∧ (WList WStr) x.f1 ∧ (WInt .i64) x.f2 ∧ (WInt .i64) x.f3 from w).2.2.1 (show WStr x.f0 ∧ (WList WStr) x.f1 ∧ (WInt .i64) x.f2 ∧ (WInt .i64) x.f3 from w).2.2.2 hm (by omega)) (fun ⟨g0, g1, g2, g3⟩ => (And.intro g0 (And.intro g1 (And.intro g2 g3)))))
  exact ⟨v, hv, by omega, fun h => Fine.list (by omega) (hq h)⟩
theorem laws_szConsole_sz (l0_0 : List ByteArray) (a0_1 : Int) (l0_2 : List ByteArray) (l0_3 : List (S202)) (l0_4 : List ByteArray) (a1 : Int) (w_l0_0 : (WList WStr) l0_0) (w_a0_1 : (WInt .i64) a0_1) (w_l0_2 : (WList WStr) l0_2) (w_l0_3 : (WList wf202) l0_3) (w_l0_4 : (WList WStr) l0_4) (h0 : 0 ≤ a1) (h1 : a1 ≤ 1048576) : Sz (fun k => laws_szConsole.f k l0_0 a0_1 l0_2 l0_3 l0_4 a1) a1 (Fine l0_0 ∧ Fine a0_1 ∧ Fine l0_2 ∧ Fine l0_3 ∧ Fine l0_4) := by
  simp only [laws_szConsole.f]
  have u_l0_0 : l0_0.length ≤ 9223372036854775807 := w_l0_0.1
  have u_l0_2 : l0_2.length ≤ 9223372036854775807 := w_l0_2.1
  have u_l0_3 : l0_3.length ≤ 9223372036854775807 := w_l0_3.1
  have u_l0_4 : l0_4.length ≤ 9223372036854775807 := w_l0_4.1
  refine sz_bind h0 (laws_szStringS_sz l0_0 a1 w_l0_0 (by omega) (by omega)) (fun t107 b1 d1 q1 => ?_)
  have g1_0 := q1
  refine sz_bind h0 (laws_szStringS_sz l0_2 t107 w_l0_2 (by omega) (by omega)) (fun t108 b2 d2 q2 => ?_)
  have g2_0 := q2
  refine sz_bind h0 (laws_szFileS_sz l0_3 t108 w_l0_3 (by omega) (by omega)) (fun t109 b3 d3 q3 => ?_)
  have g3_0 := q3
  refine sz_bind h0 (laws_szStringS_sz l0_4 t109 w_l0_4 (by omega) (by omega)) (fun t110 b4 d4 q4 => ?_)
  have g4_0 := q4
  exact ⟨_, ev_some _, by omega, fun _ => (And.intro g1_0 (And.intro w_a0_1.i64 (And.intro g2_0 (And.intro g3_0 g4_0))))⟩
theorem laws_toStringS_to (l0 : List ByteArray) (g_l0 : Fine l0) : To (fun k => laws_toStringS.f k l0) := by
  simp only [laws_toStringS.f]
  refine to_if (by omega) (to_if (by have := g_l0.len; omega) ?_)
  exact to_loop laws_toStringS.l0 (fun k x => some x) (rdOf ByteArray.empty) (fun k xs ys i => by simp only [laws_toStringS.l0, Option.bind_some]) (fun xs i h => rdOf_get _ xs i h) l0 g_l0.len _ (fun x hx => to_some (g_l0.mem hx))
theorem laws_toFile_to (a0_0 : ByteArray) (l0_1 : List ByteArray) (a0_2 : Int) (a0_3 : Int) (g_a0_0 : Fine a0_0) (g_l0_1 : Fine l0_1) (g_a0_2 : Fine a0_2) (g_a0_3 : Fine a0_3) : To (fun k => laws_toFile.f k a0_0 l0_1 a0_2 a0_3) := by
  simp only [laws_toFile.f]
  refine to_bind (laws_toStringS_to l0_1 g_l0_1) (fun t119 g_t119 => ?_)
  exact to_some (And.intro g_a0_0 (And.intro g_t119 (And.intro g_a0_2 g_a0_3)))
theorem laws_toFileS_to (l0 : List (S202)) (g_l0 : Fine l0) : To (fun k => laws_toFileS.f k l0) := by
  simp only [laws_toFileS.f]
  refine to_if (by omega) (to_if (by have := g_l0.len; omega) ?_)
  exact to_loop laws_toFileS.l0 (fun k x => (laws_toFile.f k (x.f0) (x.f1) (x.f2) (x.f3)).bind fun bt126 => some (⟨bt126.1, bt126.2.1, bt126.2.2.1, bt126.2.2.2⟩ : S163)) rd_T202 (fun k xs ys i => by simp only [laws_toFileS.l0, Option.bind_assoc, Option.bind_some]) (fun xs i h => getD_get _ xs i h) l0 g_l0.len _ (fun x hx => by
    have g := g_l0.mem hx
    exact to_bind (laws_toFile_to (x.f0) (x.f1) (x.f2) (x.f3) (show Fine x.f0 ∧ Fine x.f1 ∧ Fine x.f2 ∧ Fine x.f3 from g).1 (show Fine x.f0 ∧ Fine x.f1 ∧ Fine x.f2 ∧ Fine x.f3 from g).2.1 (show Fine x.f0 ∧ Fine x.f1 ∧ Fine x.f2 ∧ Fine x.f3 from g).2.2.1 (show Fine x.f0 ∧ Fine x.f1 ∧ Fine x.f2 ∧ Fine x.f3 from g).2.2.2) (fun bt126 g_bt126 => to_some (And.intro g_bt126.fst (And.intro g_bt126.snd.fst (And.intro g_bt126.snd.snd.fst g_bt126.snd.snd.snd)))))
theorem laws_toConsole_to (l0_0 : List ByteArray) (a0_1 : Int) (l0_2 : List ByteArray) (l0_3 : List (S202)) (l0_4 : List ByteArray) (g_l0_0 : Fine l0_0) (g_a0_1 : Fine a0_1) (g_l0_2 : Fine l0_2) (g_l0_3 : Fine l0_3) (g_l0_4 : Fine l0_4) : To (fun k => laws_toConsole.f k l0_0 a0_1 l0_2 l0_3 l0_4) := by
  simp only [laws_toConsole.f]
  refine to_bind (laws_toStringS_to l0_0 g_l0_0) (fun t136 g_t136 => ?_)
  refine to_bind (laws_toStringS_to l0_2 g_l0_2) (fun t139 g_t139 => ?_)
  refine to_bind (laws_toFileS_to l0_3 g_l0_3) (fun t142 g_t142 => ?_)
  refine to_bind (laws_toStringS_to l0_4 g_l0_4) (fun t145 g_t145 => ?_)
  exact to_some (And.intro g_t136 (And.intro g_a0_1 (And.intro g_t139 (And.intro g_t142 g_t145))))
theorem laws_eqStringS_rf (l0 : List ByteArray) (g_l0 : Fine l0) : Ev (fun k => laws_eqStringS.f k l0 l0) true := by
  simp only [laws_eqStringS.f]
  refine ev_pos (by trivial) ?_
  exact eq_loop laws_eqStringS.l0 (fun k x y => some (decide (x.toList = y.toList))) (rdOf ByteArray.empty) (fun k xs ys i => by simp only [laws_eqStringS.l0, Option.bind_some, decide_eq_true_eq]) (fun xs i h => rdOf_get _ xs i h) l0 g_l0.len (fun x hx => by simpa using ev_some true)
theorem laws_eqFile_rf (a0_0 : ByteArray) (l0_1 : List ByteArray) (a0_2 : Int) (a0_3 : Int) (g_a0_0 : Fine a0_0) (g_l0_1 : Fine l0_1) (g_a0_2 : Fine a0_2) (g_a0_3 : Fine a0_3) : Ev (fun k => laws_eqFile.f k a0_0 l0_1 a0_2 a0_3 a0_0 l0_1 a0_2 a0_3) true := by
  simp only [laws_eqFile.f]
  refine ev_pos (by trivial) ?_
  refine ev_bind (laws_eqStringS_rf l0_1 g_l0_1) ?_
  refine ev_pos (by trivial) ?_
  refine ev_pos (by trivial) ?_
  refine ev_pos (by trivial) ?_
  exact ev_some _
theorem laws_eqFileS_rf (l0 : List (S163)) (g_l0 : Fine l0) : Ev (fun k => laws_eqFileS.f k l0 l0) true := by
  simp only [laws_eqFileS.f]
  refine ev_pos (by trivial) ?_
  exact eq_loop laws_eqFileS.l0 (fun k x y => laws_eqFile.f k (x.f0) (x.f1) (x.f2) (x.f3) (y.f0) (y.f1) (y.f2) (y.f3)) rd_T163 (fun k xs ys i => by simp only [laws_eqFileS.l0]) (fun xs i h => getD_get _ xs i h) l0 g_l0.len (fun x hx => by
    have g := g_l0.mem hx
    exact laws_eqFile_rf x.f0 x.f1 x.f2 x.f3 (show Fine x.f0 ∧ Fine x.f1 ∧ Fine x.f2 ∧ Fine x.f3 from g).1 (show Fine x.f0 ∧ Fine x.f1 ∧ Fine x.f2 ∧ Fine x.f3 from g).2.1 (show Fine x.f0 ∧ Fine x.f1 ∧ Fine x.f2 ∧ Fine x.f3 from g).2.2.1 (show Fine x.f0 ∧ Fine x.f1 ∧ Fine x.f2 ∧ Fine x.f3 from g).2.2.2)
theorem laws_eqConsole_rf (l0_0 : List ByteArray) (a0_1 : Int) (l0_2 : List ByteArray) (l0_3 : List (S163)) (l0_4 : List ByteArray) (g_l0_0 : Fine l0_0) (g_a0_1 : Fine a0_1) (g_l0_2 : Fine l0_2) (g_l0_3 : Fine l0_3) (g_l0_4 : Fine l0_4) : Ev (fun k => laws_eqConsole.f k l0_0 a0_1 l0_2 l0_3 l0_4 l0_0 a0_1 l0_2 l0_3 l0_4) true := by
  simp only [laws_eqConsole.f]
  refine ev_bind (laws_eqStringS_rf l0_0 g_l0_0) ?_
  refine ev_pos (by trivial) ?_
  refine ev_pos (by trivial) ?_
  refine ev_bind (laws_eqStringS_rf l0_2 g_l0_2) ?_
  refine ev_pos (by trivial) ?_
  refine ev_bind (laws_eqFileS_rf l0_3 g_l0_3) ?_
  refine ev_pos (by trivial) ?_
  refine ev_bind (laws_eqStringS_rf l0_4 g_l0_4) ?_
  refine ev_pos (by trivial) ?_
  exact ev_some _
/-- The two functions agree. -/
def laws_FnExactValidConsole.Core : Prop := ∀ (l0_0 : List ByteArray) (a0_1 : Int) (l0_2 : List ByteArray) (l0_3 : List (S163)) (l0_4 : List ByteArray), Fine l0_0 → Fine a0_1 → Fine l0_2 → Fine l0_3 → Fine l0_4 → ∃ r, Ev (fun k => spec_ValidConsole.f k l0_0 a0_1 l0_2 l0_3 l0_4) r ∧ Ev (fun k => impl_ValidConsole.f k l0_0 a0_1 l0_2 l0_3 l0_4) r ∧ Fine r
theorem close (core : laws_FnExactValidConsole.Core) : laws_FnExactValidConsole.Pure := by
  intro x0 w_x0
  suffices hh : Ev (fun k => laws_FnExactValidConsole.f k x0.f0 x0.f1 x0.f2 x0.f3 x0.f4) true by
    obtain ⟨K, hK⟩ := hh
    exact ⟨K, hK K (Nat.le_refl _)⟩
  simp only [laws_FnExactValidConsole.f]
  obtain ⟨v1, e1, b1, q1⟩ := laws_szConsole_sz x0.f0 x0.f1 x0.f2 x0.f3 x0.f4 1048576 ((show (WList WStr) x0.f0 ∧ (WInt .i64) x0.f1 ∧ (WList WStr) x0.f2 ∧ (WList wf202) x0.f3 ∧ (WList WStr) x0.f4 from w_x0).1) ((show (WList WStr) x0.f0 ∧ (WInt .i64) x0.f1 ∧ (WList WStr) x0.f2 ∧ (WList wf202) x0.f3 ∧ (WList WStr) x0.f4 from w_x0).2.1) ((show (WList WStr) x0.f0 ∧ (WInt .i64) x0.f1 ∧ (WList WStr) x0.f2 ∧ (WList wf202) x0.f3 ∧ (WList WStr) x0.f4 from w_x0).2.2.1) ((show (WList WStr) x0.f0 ∧ (WInt .i64) x0.f1 ∧ (WList WStr) x0.f2 ∧ (WList wf202) x0.f3 ∧ (WList WStr) x0.f4 from w_x0).2.2.2.1) ((show (WList WStr) x0.f0 ∧ (WInt .i64) x0.f1 ∧ (WList WStr) x0.f2 ∧ (WList wf202) x0.f3 ∧ (WList WStr) x0.f4 from w_x0).2.2.2.2) (by omega) (by omega)
  refine ev_bind e1 (ev_skip fun c1 => ?_)
  obtain ⟨g1_0, g1_1, g1_2, g1_3, g1_4⟩ := q1 (by omega)
  obtain ⟨v2, e2, g2⟩ := laws_toConsole_to x0.f0 x0.f1 x0.f2 x0.f3 x0.f4 g1_0 g1_1 g1_2 g1_3 g1_4
  refine ev_bind e2 ?_
  obtain ⟨r, es, ei, gr⟩ := core v2.1 v2.2.1 v2.2.2.1 v2.2.2.2.1 v2.2.2.2.2 (g2.fst) (g2.snd.fst) (g2.snd.snd.fst) (g2.snd.snd.snd.fst) (g2.snd.snd.snd.snd)
  refine ev_bind es ?_
  refine ev_bind e2 ?_
  refine ev_bind ei ?_
  have p0_ : Fine v2.1 := g2.fst
  have p1_ : Fine v2.2.1 := g2.snd.fst
  have p2_ : Fine v2.2.2.1 := g2.snd.snd.fst
  have p3_ : Fine v2.2.2.2.1 := g2.snd.snd.snd.fst
  have p4_ : Fine v2.2.2.2.2 := g2.snd.snd.snd.snd
  have p5_ : Fine r := gr
  repeat (first | exact ev_some _ | refine ev_pos trivial ?_ | refine ev_pos rfl ?_ | refine ev_neg (bne_ff _) ?_ | refine ev_neg Bool.false_ne_true ?_ | refine ev_neg id ?_ | refine ev_bind e2 ?_ | refine ev_bind (laws_eqStringS_rf _ (by assumption)) ?_ | refine ev_bind (laws_eqFile_rf _ _ _ _ (by assumption) (by assumption) (by assumption) (by assumption)) ?_ | refine ev_bind (laws_eqFileS_rf _ (by assumption)) ?_ | refine ev_bind (laws_eqConsole_rf _ _ _ _ _ (by assumption) (by assumption) (by assumption) (by assumption) (by assumption)) ?_)
end Go.Proofs.Ytabbpnkbhapibaa.PureFnExactValidConsole
