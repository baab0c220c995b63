/- What the helpers of the law FnExactSameScope come to: budgets, copies, comparisons; no condition. -/
import Derived.Test.YtnneadpahjkhgaaOFnExactSameScope
import Derived.Test.YtnneadpahjkhgaaGAuto
namespace Go.Proofs.Ytnneadpahjkhgaa.PureFnExactSameScope
open Go.RowKit Go.Proofs.YtnneadpahjkhgaaG Go.Proofs.Ytnneadpahjkhgaa.PFnExactSameScope Go.Proofs.YtnneadpahjkhgaaW.PrintWords Go.Proofs.YtnneadpahjkhgaaW.PrintLast Go.Proofs.YtnneadpahjkhgaaW.PrintMore
set_option linter.unusedVariables false
set_option linter.unusedSimpArgs false

instance : FineC S107 := ⟨fun x => Fine x.f0 ∧ Fine x.f1 ∧ Fine x.f2 ∧ Fine x.f3⟩
instance : FineC S109 := ⟨fun x => Fine x.f0 ∧ Fine x.f1⟩
instance : FineC S114 := ⟨fun x => Fine x.f0 ∧ Fine x.f1 ∧ Fine x.f2 ∧ Fine x.f3⟩
instance : FineC S116 := ⟨fun x => Fine x.f0 ∧ Fine x.f1⟩
instance : FineC S132 := ⟨fun x => Fine x.f0 ∧ Fine x.f1 ∧ Fine x.f2 ∧ Fine x.f3⟩
instance : FineC S134 := ⟨fun x => Fine x.f0 ∧ Fine x.f1⟩
instance : FineC S136 := ⟨fun x => Fine x.f0 ∧ Fine x.f1 ∧ Fine x.f2 ∧ Fine x.f3⟩
instance : FineC S138 := ⟨fun x => Fine x.f0 ∧ Fine x.f1⟩
instance : FineC S50 := ⟨fun x => Fine x.f0 ∧ Fine x.f1 ∧ Fine x.f2⟩
theorem laws_szValue_sz (a0_0 : Int) (a0_1 : Int) (a0_2 : ByteArray) (a0_3 : Int) (a1 : Int) (w_a0_0 : (WInt .i64) a0_0) (w_a0_1 : (WInt .i64) a0_1) (w_a0_2 : WStr a0_2) (w_a0_3 : (WInt .i64) a0_3) (h0 : 0 ≤ a1) (h1 : a1 ≤ 1048576) : Sz (fun k => laws_szValue.f a0_0 a0_1 a0_2 a0_3 a1) a1 (Fine a0_0 ∧ Fine a0_1 ∧ Fine a0_2 ∧ Fine a0_3) := by
  simp only [laws_szValue.f]
  have u_a0_2 : a0_2.size ≤ 9223372036854775807 := w_a0_2
  refine sz_if h0 (by omega) (by omega) (by omega) (by omega) fun b1 d1 e1 => ?_
  exact ⟨_, ev_some _, by omega, fun _ => (And.intro w_a0_0.i64 (And.intro w_a0_1.i64 (And.intro (show a0_2.size ≤ 1048576 by omega) w_a0_3.i64)))⟩
theorem laws_szBinding_sz (a0_0 : ByteArray) (a0_1 : Int) (a0_2 : Int) (a0_3 : ByteArray) (a0_4 : Int) (a1 : Int) (w_a0_0 : WStr a0_0) (w_a0_1 : (WInt .i64) a0_1) (w_a0_2 : (WInt .i64) a0_2) (w_a0_3 : WStr a0_3) (w_a0_4 : (WInt .i64) a0_4) (h0 : 0 ≤ a1) (h1 : a1 ≤ 1048576) : Sz (fun k => laws_szBinding.f a0_0 a0_1 a0_2 a0_3 a0_4 a1) a1 (Fine a0_0 ∧ Fine a0_1 ∧ Fine a0_2 ∧ Fine a0_3 ∧ Fine a0_4) := by
  simp only [laws_szBinding.f]
  have u_a0_0 : a0_0.size ≤ 9223372036854775807 := w_a0_0
  have u_a0_3 : a0_3.size ≤ 9223372036854775807 := w_a0_3
  refine sz_if h0 (by omega) (by omega) (by omega) (by omega) fun b1 d1 e1 => ?_
  refine sz_bind h0 (laws_szValue_sz a0_1 a0_2 a0_3 a0_4 (wrap64 (a1 - (a0_0.size : Int))) w_a0_1 w_a0_2 w_a0_3 w_a0_4 (by omega) (by omega)) (fun t103 b2 d2 q2 => ?_)
  obtain ⟨g2_0, g2_1, g2_2, g2_3⟩ := q2
  exact ⟨_, ev_some _, by omega, fun _ => (And.intro (show a0_0.size ≤ 1048576 by omega) (And.intro g2_0 (And.intro g2_1 (And.intro g2_2 g2_3))))⟩
theorem laws_szBindingS_sz (l0 : List (S134)) (a1 : Int) (w_l0 : (WList wf134) l0) (h0 : 0 ≤ a1) (h1 : a1 ≤ 1048576) : Sz (fun k => laws_szBindingS.f k l0 a1) a1 (Fine l0) := by
  simp only [laws_szBindingS.f]
  have u_l0 : l0.length ≤ 9223372036854775807 := w_l0.1
  refine sz_if h0 (by omega) (by omega) (by omega) (by omega) fun b1 d1 e1 => ?_
  obtain ⟨v, hv, hle, hq⟩ := sz_loop laws_szBindingS.l0 (fun k x n => laws_szBinding.f (x.f0) (x.f1.f0) (x.f1.f1) (x.f1.f2) (x.f1.f3) n) rd_T134 (fun x => Fine x) (fun k xs n i => by simp only [laws_szBindingS.l0]) (fun xs i h => getD_get _ xs i h) l0 w_l0.1 (wrap64 (a1 - (l0.length : Int))) (by omega) (fun x hx m hm hm1 => by
    have w := w_l0.2 x hx
    exact sz_mono (laws_szBinding_sz x.f0 x.f1.f0 x.f1.f1 x.f1.f2 x.f1.f3 m (show WStr x.f0 ∧ wf132 x.f1 from w).1 (show (WInt .i64) x.f1.f0 ∧ (WInt .i64) x.f1.f1 ∧ WStr x.f1.f2 ∧ (WInt .i64) x.f1.f3 from (show WStr x.f0 ∧ wf132 x.f1 from w).2).1 (show (WInt .i64) x.f1.f0 ∧ (WInt .i64) x.f1.f1 ∧ WStr x.f1.f2 ∧ (WInt .i64) x.f1.f3 from (show WStr x.f0 ∧ wf132 x.f1 from w).2).2.1 (show (WInt .i64) x.f1.f0 ∧ (WInt .i64) x.f1.f1 ∧ WStr x.f1.f2 ∧ (WInt .i64) x.f1.f3 from (show WStr x.f0 ∧ wf132 x.f1 from w).2).2.2.1 (show (WInt .i64) x.f1.f0 ∧ (WInt .i64) x.f1.f1 ∧ WStr x.f1.f2 ∧ (WInt .i64) x.f1.f3 from (show WStr x.f0 ∧ wf132 x.f1 from w).2).2.2.2 hm (by omega)) (fun ⟨g0, g1, g2, g3, g4⟩ => (And.intro g0 (And.intro g1 (And.intro g2 (And.intro g3 g4))))))
  exact ⟨v, hv, by omega, fun h => Fine.list (by omega) (hq h)⟩
theorem laws_szStringS_sz (l0 : List ByteArray) (a1 : Int) (w_l0 : (WList WStr) l0) (h0 : 0 ≤ a1) (h1 : a1 ≤ 1048576) : Sz (fun k => laws_szStringS.f k l0 a1) a1 (Fine l0) := by
  simp only [laws_szStringS.f]
  have u_l0 : l0.length ≤ 9223372036854775807 := w_l0.1
  refine sz_if h0 (by omega) (by omega) (by omega) (by omega) fun b1 d1 e1 => ?_
  obtain ⟨v, hv, hle, hq⟩ := sz_loop laws_szStringS.l0 (fun k x n => if wrap64 (n - (x.size : Int)) < 0 then some (-1) else some (wrap64 (n - (x.size : Int)))) (rdOf ByteArray.empty) (fun x => Fine x) (fun k xs n i => by simp only [laws_szStringS.l0, sz_fold]) (fun xs i h => rdOf_get _ xs i h) l0 w_l0.1 (wrap64 (a1 - (l0.length : Int))) (by omega) (fun x hx m hm hm1 => sz_if hm hm (by omega) (by omega) (by have z_ := w_l0.2 x hx; unfold WStr at z_; omega) (fun b_ d_ e_ => ⟨_, ev_some _, by omega, fun _ => (show x.size ≤ 1048576 by omega)⟩))
  exact ⟨v, hv, by omega, fun h => Fine.list (by omega) (hq h)⟩
theorem laws_szFunction_sz (a0_0 : ByteArray) (l0_1 : List ByteArray) (l0_2 : List ByteArray) (a0_3 : ByteArray) (a1 : Int) (w_a0_0 : WStr a0_0) (w_l0_1 : (WList WStr) l0_1) (w_l0_2 : (WList WStr) l0_2) (w_a0_3 : WStr a0_3) (h0 : 0 ≤ a1) (h1 : a1 ≤ 1048576) : Sz (fun k => laws_szFunction.f k a0_0 l0_1 l0_2 a0_3 a1) a1 (Fine a0_0 ∧ Fine l0_1 ∧ Fine l0_2 ∧ Fine a0_3) := by
  simp only [laws_szFunction.f]
  have u_a0_0 : a0_0.size ≤ 9223372036854775807 := w_a0_0
  have u_l0_1 : l0_1.length ≤ 9223372036854775807 := w_l0_1.1
  have u_l0_2 : l0_2.length ≤ 9223372036854775807 := w_l0_2.1
  have u_a0_3 : a0_3.size ≤ 9223372036854775807 := w_a0_3
  refine sz_if h0 (by omega) (by omega) (by omega) (by omega) fun b1 d1 e1 => ?_
  refine sz_bind h0 (laws_szStringS_sz l0_1 (wrap64 (a1 - (a0_0.size : Int))) w_l0_1 (by omega) (by omega)) (fun t108 b2 d2 q2 => ?_)
  have g2_0 := q2
  refine sz_bind h0 (laws_szStringS_sz l0_2 t108 w_l0_2 (by omega) (by omega)) (fun t109 b3 d3 q3 => ?_)
  have g3_0 := q3
  refine sz_if h0 (by omega) (by omega) (by omega) (by omega) fun b4 d4 e4 => ?_
  exact ⟨_, ev_some _, by omega, fun _ => (And.intro (show a0_0.size ≤ 1048576 by omega) (And.intro g2_0 (And.intro g3_0 (show a0_3.size ≤ 1048576 by omega))))⟩
theorem laws_szFunctionS_sz (l0 : List (S136)) (a1 : Int) (w_l0 : (WList wf136) l0) (h0 : 0 ≤ a1) (h1 : a1 ≤ 1048576) : Sz (fun k => laws_szFunctionS.f k l0 a1) a1 (Fine l0) := by
  simp only [laws_szFunctionS.f]
  have u_l0 : l0.length ≤ 9223372036854775807 := w_l0.1
  refine sz_if h0 (by omega) (by omega) (by omega) (by omega) fun b1 d1 e1 => ?_
  obtain ⟨v, hv, hle, hq⟩ := sz_loop laws_szFunctionS.l0 (fun k x n => laws_szFunction.f k (x.f0) (x.f1) (x.f2) (x.f3) n) rd_T136 (fun x => Fine x) (fun k xs n i => by simp only [laws_szFunctionS.l0]) (fun xs i h => getD_get _ xs i h) l0 w_l0.1 (wrap64 (a1 - (l0.length : Int))) (by omega) (fun x hx m hm hm1 => by
    have w := w_l0.2 x hx
    exact sz_mono (laws_szFunction_sz x.f0 x.f1 x.f2 x.f3 m (show WStr x.f0 ∧ (WList WStr) x.f1 ∧ (WList WStr) x.f2 ∧ WStr x.f3 from w).1 (show WStr x.f0 ∧ (WList WStr) x.f1 ∧ (WList WStr) x.f2 ∧ WStr x.f3 from w).2.1 (show WStr x.f0 ∧ (WList WStr) x.f1 ∧ (WList WStr) x.f2 ∧ WStr x.f3 from w).2.2.1 (show WStr x.f0 ∧ (WList WStr) x.f1 ∧ (WList WStr) x.f2 ∧ WStr x.f3 from w).2.2.2 hm (by omega)) (fun ⟨g0, g1, g2, g3⟩ => (And.intro g0 (And.intro g1 (And.intro g2 g3)))))
  exact ⟨v, hv, by omega, fun h => Fine.list (by omega) (hq h)⟩
theorem laws_szRecordType_sz (a0_0 : ByteArray) (l0_1 : List ByteArray) (a1 : Int) (w_a0_0 : WStr a0_0) (w_l0_1 : (WList WStr) l0_1) (h0 : 0 ≤ a1) (h1 : a1 ≤ 1048576) : Sz (fun k => laws_szRecordType.f k a0_0 l0_1 a1) a1 (Fine a0_0 ∧ Fine l0_1) := by
  simp only [laws_szRecordType.f]
  have u_a0_0 : a0_0.size ≤ 9223372036854775807 := w_a0_0
  have u_l0_1 : l0_1.length ≤ 9223372036854775807 := w_l0_1.1
  refine sz_if h0 (by omega) (by omega) (by omega) (by omega) fun b1 d1 e1 => ?_
  refine sz_bind h0 (laws_szStringS_sz l0_1 (wrap64 (a1 - (a0_0.size : Int))) w_l0_1 (by omega) (by omega)) (fun t113 b2 d2 q2 => ?_)
  have g2_0 := q2
  exact ⟨_, ev_some _, by omega, fun _ => (And.intro (show a0_0.size ≤ 1048576 by omega) g2_0)⟩
theorem laws_szRecordTypeS_sz (l0 : List (S138)) (a1 : Int) (w_l0 : (WList wf138) l0) (h0 : 0 ≤ a1) (h1 : a1 ≤ 1048576) : Sz (fun k => laws_szRecordTypeS.f k l0 a1) a1 (Fine l0) := by
  simp only [laws_szRecordTypeS.f]
  have u_l0 : l0.length ≤ 9223372036854775807 := w_l0.1
  refine sz_if h0 (by omega) (by omega) (by omega) (by omega) fun b1 d1 e1 => ?_
  obtain ⟨v, hv, hle, hq⟩ := sz_loop laws_szRecordTypeS.l0 (fun k x n => laws_szRecordType.f k (x.f0) (x.f1) n) rd_T138 (fun x => Fine x) (fun k xs n i => by simp only [laws_szRecordTypeS.l0]) (fun xs i h => getD_get _ xs i h) l0 w_l0.1 (wrap64 (a1 - (l0.length : Int))) (by omega) (fun x hx m hm hm1 => by
    have w := w_l0.2 x hx
    exact sz_mono (laws_szRecordType_sz x.f0 x.f1 m (show WStr x.f0 ∧ (WList WStr) x.f1 from w).1 (show WStr x.f0 ∧ (WList WStr) x.f1 from w).2 hm (by omega)) (fun ⟨g0, g1⟩ => (And.intro g0 g1)))
  exact ⟨v, hv, by omega, fun h => Fine.list (by omega) (hq h)⟩
theorem laws_szScope_sz (l0_0 : List (S134)) (l0_1 : List (S136)) (l0_2 : List (S138)) (a1 : Int) (w_l0_0 : (WList wf134) l0_0) (w_l0_1 : (WList wf136) l0_1) (w_l0_2 : (WList wf138) l0_2) (h0 : 0 ≤ a1) (h1 : a1 ≤ 1048576) : Sz (fun k => laws_szScope.f k l0_0 l0_1 l0_2 a1) a1 (Fine l0_0 ∧ Fine l0_1 ∧ Fine l0_2) := by
  simp only [laws_szScope.f]
  have u_l0_0 : l0_0.length ≤ 9223372036854775807 := w_l0_0.1
  have u_l0_1 : l0_1.length ≤ 9223372036854775807 := w_l0_1.1
  have u_l0_2 : l0_2.length ≤ 9223372036854775807 := w_l0_2.1
  refine sz_bind h0 (laws_szBindingS_sz l0_0 a1 w_l0_0 (by omega) (by omega)) (fun t117 b1 d1 q1 => ?_)
  have g1_0 := q1
  refine sz_bind h0 (laws_szFunctionS_sz l0_1 t117 w_l0_1 (by omega) (by omega)) (fun t118 b2 d2 q2 => ?_)
  have g2_0 := q2
  refine sz_bind h0 (laws_szRecordTypeS_sz l0_2 t118 w_l0_2 (by omega) (by omega)) (fun t119 b3 d3 q3 => ?_)
  have g3_0 := q3
  exact ⟨_, ev_some _, by omega, fun _ => (And.intro g1_0 (And.intro g2_0 g3_0))⟩
theorem laws_toValue_to (a0_0 : Int) (a0_1 : Int) (a0_2 : ByteArray) (a0_3 : Int) (g_a0_0 : Fine a0_0) (g_a0_1 : Fine a0_1) (g_a0_2 : Fine a0_2) (g_a0_3 : Fine a0_3) : To (fun k => laws_toValue.f a0_0 a0_1 a0_2 a0_3) := by
  simp only [laws_toValue.f]
  exact to_some (And.intro g_a0_0 (And.intro g_a0_1 (And.intro g_a0_2 g_a0_3)))
theorem laws_toBinding_to (a0_0 : ByteArray) (a0_1 : Int) (a0_2 : Int) (a0_3 : ByteArray) (a0_4 : Int) (g_a0_0 : Fine a0_0) (g_a0_1 : Fine a0_1) (g_a0_2 : Fine a0_2) (g_a0_3 : Fine a0_3) (g_a0_4 : Fine a0_4) : To (fun k => laws_toBinding.f a0_0 a0_1 a0_2 a0_3 a0_4) := by
  simp only [laws_toBinding.f]
  refine to_bind (laws_toValue_to a0_1 a0_2 a0_3 a0_4 g_a0_1 g_a0_2 g_a0_3 g_a0_4) (fun bt126 g_bt126 => ?_)
  exact to_some (And.intro g_a0_0 (And.intro g_bt126.fst (And.intro g_bt126.snd.fst (And.intro g_bt126.snd.snd.fst g_bt126.snd.snd.snd))))
theorem laws_toBindingS_to (l0 : List (S134)) (g_l0 : Fine l0) : To (fun k => laws_toBindingS.f k l0) := by
  simp only [laws_toBindingS.f]
  refine to_if (by omega) (to_if (by have := g_l0.len; omega) ?_)
  exact to_loop laws_toBindingS.l0 (fun k x => (laws_toBinding.f (x.f0) (x.f1.f0) (x.f1.f1) (x.f1.f2) (x.f1.f3)).bind fun bt134 => some (⟨bt134.1, (⟨bt134.2.1, bt134.2.2.1, bt134.2.2.2.1, bt134.2.2.2.2⟩ : S114)⟩ : S116)) rd_T134 (fun k xs ys i => by simp only [laws_toBindingS.l0, Option.bind_assoc, Option.bind_some]) (fun xs i h => getD_get _ xs i h) l0 g_l0.len _ (fun x hx => by
    have g := g_l0.mem hx
    exact to_bind (laws_toBinding_to (x.f0) (x.f1.f0) (x.f1.f1) (x.f1.f2) (x.f1.f3) (show Fine x.f0 ∧ Fine x.f1 from g).1 (show Fine x.f1.f0 ∧ Fine x.f1.f1 ∧ Fine x.f1.f2 ∧ Fine x.f1.f3 from (show Fine x.f0 ∧ Fine x.f1 from g).2).1 (show Fine x.f1.f0 ∧ Fine x.f1.f1 ∧ Fine x.f1.f2 ∧ Fine x.f1.f3 from (show Fine x.f0 ∧ Fine x.f1 from g).2).2.1 (show Fine x.f1.f0 ∧ Fine x.f1.f1 ∧ Fine x.f1.f2 ∧ Fine x.f1.f3 from (show Fine x.f0 ∧ Fine x.f1 from g).2).2.2.1 (show Fine x.f1.f0 ∧ Fine x.f1.f1 ∧ Fine x.f1.f2 ∧ Fine x.f1.f3 from (show Fine x.f0 ∧ Fine x.f1 from g).2).2.2.2) (fun bt134 g_bt134 => to_some (And.intro g_bt134.fst (And.intro g_bt134.snd.fst (And.intro g_bt134.snd.snd.fst (And.intro g_bt134.snd.snd.snd.fst g_bt134.snd.snd.snd.snd))))))
theorem laws_toStringS_to (l0 : List ByteArray) (g_l0 : Fine l0) : To (fun k => laws_toStringS.f k l0) := by
  simp only [laws_toStringS.f]
  refine to_if (by omega) (to_if (by have := g_l0.len; omega) ?_)
  exact to_loop laws_toStringS.l0 (fun k x => some x) (rdOf ByteArray.empty) (fun k xs ys i => by simp only [laws_toStringS.l0, Option.bind_some]) (fun xs i h => rdOf_get _ xs i h) l0 g_l0.len _ (fun x hx => to_some (g_l0.mem hx))
theorem laws_toFunction_to (a0_0 : ByteArray) (l0_1 : List ByteArray) (l0_2 : List ByteArray) (a0_3 : ByteArray) (g_a0_0 : Fine a0_0) (g_l0_1 : Fine l0_1) (g_l0_2 : Fine l0_2) (g_a0_3 : Fine a0_3) : To (fun k => laws_toFunction.f k a0_0 l0_1 l0_2 a0_3) := by
  simp only [laws_toFunction.f]
  refine to_bind (laws_toStringS_to l0_1 g_l0_1) (fun t148 g_t148 => ?_)
  refine to_bind (laws_toStringS_to l0_2 g_l0_2) (fun t151 g_t151 => ?_)
  exact to_some (And.intro g_a0_0 (And.intro g_t148 (And.intro g_t151 g_a0_3)))
theorem laws_toFunctionS_to (l0 : List (S136)) (g_l0 : Fine l0) : To (fun k => laws_toFunctionS.f k l0) := by
  simp only [laws_toFunctionS.f]
  refine to_if (by omega) (to_if (by have := g_l0.len; omega) ?_)
  exact to_loop laws_toFunctionS.l0 (fun k x => (laws_toFunction.f k (x.f0) (x.f1) (x.f2) (x.f3)).bind fun bt158 => some (⟨bt158.1, bt158.2.1, bt158.2.2.1, bt158.2.2.2⟩ : S107)) rd_T136 (fun k xs ys i => by simp only [laws_toFunctionS.l0, Option.bind_assoc, Option.bind_some]) (fun xs i h => getD_get _ xs i h) l0 g_l0.len _ (fun x hx => by
    have g := g_l0.mem hx
    exact to_bind (laws_toFunction_to (x.f0) (x.f1) (x.f2) (x.f3) (show Fine x.f0 ∧ Fine x.f1 ∧ Fine x.f2 ∧ Fine x.f3 from g).1 (show Fine x.f0 ∧ Fine x.f1 ∧ Fine x.f2 ∧ Fine x.f3 from g).2.1 (show Fine x.f0 ∧ Fine x.f1 ∧ Fine x.f2 ∧ Fine x.f3 from g).2.2.1 (show Fine x.f0 ∧ Fine x.f1 ∧ Fine x.f2 ∧ Fine x.f3 from g).2.2.2) (fun bt158 g_bt158 => to_some (And.intro g_bt158.fst (And.intro g_bt158.snd.fst (And.intro g_bt158.snd.snd.fst g_bt158.snd.snd.snd)))))
theorem laws_toRecordType_to (a0_0 : ByteArray) (l0_1 : List ByteArray) (g_a0_0 : Fine a0_0) (g_l0_1 : Fine l0_1) : To (fun k => laws_toRecordType.f k a0_0 l0_1) := by
  simp only [laws_toRecordType.f]
  refine to_bind (laws_toStringS_to l0_1 g_l0_1) (fun t170 g_t170 => ?_)
  exact to_some (And.intro g_a0_0 g_t170)
theorem laws_toRecordTypeS_to (l0 : List (S138)) (g_l0 : Fine l0) : To (fun k => laws_toRecordTypeS.f k l0) := by
  simp only [laws_toRecordTypeS.f]
  refine to_if (by omega) (to_if (by have := g_l0.len; omega) ?_)
  exact to_loop laws_toRecordTypeS.l0 (fun k x => (laws_toRecordType.f k (x.f0) (x.f1)).bind fun bt177 => some (⟨bt177.1, bt177.2⟩ : S109)) rd_T138 (fun k xs ys i => by simp only [laws_toRecordTypeS.l0, Option.bind_assoc, Option.bind_some]) (fun xs i h => getD_get _ xs i h) l0 g_l0.len _ (fun x hx => by
    have g := g_l0.mem hx
    exact to_bind (laws_toRecordType_to (x.f0) (x.f1) (show Fine x.f0 ∧ Fine x.f1 from g).1 (show Fine x.f0 ∧ Fine x.f1 from g).2) (fun bt177 g_bt177 => to_some (And.intro g_bt177.fst g_bt177.snd)))
theorem laws_toScope_to (l0_0 : List (S134)) (l0_1 : List (S136)) (l0_2 : List (S138)) (g_l0_0 : Fine l0_0) (g_l0_1 : Fine l0_1) (g_l0_2 : Fine l0_2) : To (fun k => laws_toScope.f k l0_0 l0_1 l0_2) := by
  simp only [laws_toScope.f]
  refine to_bind (laws_toBindingS_to l0_0 g_l0_0) (fun t185 g_t185 => ?_)
  refine to_bind (laws_toFunctionS_to l0_1 g_l0_1) (fun t188 g_t188 => ?_)
  refine to_bind (laws_toRecordTypeS_to l0_2 g_l0_2) (fun t191 g_t191 => ?_)
  exact to_some (And.intro g_t185 (And.intro g_t188 g_t191))
theorem laws_eqValue_rf (a0_0 : Int) (a0_1 : Int) (a0_2 : ByteArray) (a0_3 : Int) (g_a0_0 : Fine a0_0) (g_a0_1 : Fine a0_1) (g_a0_2 : Fine a0_2) (g_a0_3 : Fine a0_3) : Ev (fun k => laws_eqValue.f a0_0 a0_1 a0_2 a0_3 a0_0 a0_1 a0_2 a0_3) true := by
  simp only [laws_eqValue.f]
  refine ev_pos (by trivial) ?_
  refine ev_pos (by trivial) ?_
  refine ev_pos (by trivial) ?_
  refine ev_pos (by trivial) ?_
  exact ev_some _
theorem laws_eqBinding_rf (a0_0 : ByteArray) (a0_1 : Int) (a0_2 : Int) (a0_3 : ByteArray) (a0_4 : Int) (g_a0_0 : Fine a0_0) (g_a0_1 : Fine a0_1) (g_a0_2 : Fine a0_2) (g_a0_3 : Fine a0_3) (g_a0_4 : Fine a0_4) : Ev (fun k => laws_eqBinding.f a0_0 a0_1 a0_2 a0_3 a0_4 a0_0 a0_1 a0_2 a0_3 a0_4) true := by
  simp only [laws_eqBinding.f]
  refine ev_pos (by trivial) ?_
  refine ev_bind (laws_eqValue_rf a0_1 a0_2 a0_3 a0_4 g_a0_1 g_a0_2 g_a0_3 g_a0_4) ?_
  refine ev_pos (by trivial) ?_
  exact ev_some _
theorem laws_eqBindingS_rf (l0 : List (S116)) (g_l0 : Fine l0) : Ev (fun k => laws_eqBindingS.f k l0 l0) true := by
  simp only [laws_eqBindingS.f]
  refine ev_pos (by trivial) ?_
  exact eq_loop laws_eqBindingS.l0 (fun k x y => laws_eqBinding.f (x.f0) (x.f1.f0) (x.f1.f1) (x.f1.f2) (x.f1.f3) (y.f0) (y.f1.f0) (y.f1.f1) (y.f1.f2) (y.f1.f3)) rd_T116 (fun k xs ys i => by simp only [laws_eqBindingS.l0]) (fun xs i h => getD_get _ xs i h) l0 g_l0.len (fun x hx => by
    have g := g_l0.mem hx
    exact laws_eqBinding_rf x.f0 x.f1.f0 x.f1.f1 x.f1.f2 x.f1.f3 (show Fine x.f0 ∧ Fine x.f1 from g).1 (show Fine x.f1.f0 ∧ Fine x.f1.f1 ∧ Fine x.f1.f2 ∧ Fine x.f1.f3 from (show Fine x.f0 ∧ Fine x.f1 from g).2).1 (show Fine x.f1.f0 ∧ Fine x.f1.f1 ∧ Fine x.f1.f2 ∧ Fine x.f1.f3 from (show Fine x.f0 ∧ Fine x.f1 from g).2).2.1 (show Fine x.f1.f0 ∧ Fine x.f1.f1 ∧ Fine x.f1.f2 ∧ Fine x.f1.f3 from (show Fine x.f0 ∧ Fine x.f1 from g).2).2.2.1 (show Fine x.f1.f0 ∧ Fine x.f1.f1 ∧ Fine x.f1.f2 ∧ Fine x.f1.f3 from (show Fine x.f0 ∧ Fine x.f1 from g).2).2.2.2)
theorem laws_eqStringS_rf (l0 : List ByteArray) (g_l0 : Fine l0) : Ev (fun k => laws_eqStringS.f k l0 l0) true := by
  simp only [laws_eqStringS.f]
  refine ev_pos (by trivial) ?_
  exact eq_loop laws_eqStringS.l0 (fun k x y => some (decide (x.toList = y.toList))) (rdOf ByteArray.empty) (fun k xs ys i => by simp only [laws_eqStringS.l0, Option.bind_some, decide_eq_true_eq]) (fun xs i h => rdOf_get _ xs i h) l0 g_l0.len (fun x hx => by simpa using ev_some true)
theorem laws_eqFunction_rf (a0_0 : ByteArray) (l0_1 : List ByteArray) (l0_2 : List ByteArray) (a0_3 : ByteArray) (g_a0_0 : Fine a0_0) (g_l0_1 : Fine l0_1) (g_l0_2 : Fine l0_2) (g_a0_3 : Fine a0_3) : Ev (fun k => laws_eqFunction.f k a0_0 l0_1 l0_2 a0_3 a0_0 l0_1 l0_2 a0_3) true := by
  simp only [laws_eqFunction.f]
  refine ev_pos (by trivial) ?_
  refine ev_bind (laws_eqStringS_rf l0_1 g_l0_1) ?_
  refine ev_pos (by trivial) ?_
  refine ev_bind (laws_eqStringS_rf l0_2 g_l0_2) ?_
  refine ev_pos (by trivial) ?_
  refine ev_pos (by trivial) ?_
  exact ev_some _
theorem laws_eqFunctionS_rf (l0 : List (S107)) (g_l0 : Fine l0) : Ev (fun k => laws_eqFunctionS.f k l0 l0) true := by
  simp only [laws_eqFunctionS.f]
  refine ev_pos (by trivial) ?_
  exact eq_loop laws_eqFunctionS.l0 (fun k x y => laws_eqFunction.f k (x.f0) (x.f1) (x.f2) (x.f3) (y.f0) (y.f1) (y.f2) (y.f3)) rd_T107 (fun k xs ys i => by simp only [laws_eqFunctionS.l0]) (fun xs i h => getD_get _ xs i h) l0 g_l0.len (fun x hx => by
    have g := g_l0.mem hx
    exact laws_eqFunction_rf x.f0 x.f1 x.f2 x.f3 (show Fine x.f0 ∧ Fine x.f1 ∧ Fine x.f2 ∧ Fine x.f3 from g).1 (show Fine x.f0 ∧ Fine x.f1 ∧ Fine x.f2 ∧ Fine x.f3 from g).2.1 (show Fine x.f0 ∧ Fine x.f1 ∧ Fine x.f2 ∧ Fine x.f3 from g).2.2.1 (show Fine x.f0 ∧ Fine x.f1 ∧ Fine x.f2 ∧ Fine x.f3 from g).2.2.2)
theorem laws_eqRecordType_rf (a0_0 : ByteArray) (l0_1 : List ByteArray) (g_a0_0 : Fine a0_0) (g_l0_1 : Fine l0_1) : Ev (fun k => laws_eqRecordType.f k a0_0 l0_1 a0_0 l0_1) true := by
  simp only [laws_eqRecordType.f]
  refine ev_pos (by trivial) ?_
  refine ev_bind (laws_eqStringS_rf l0_1 g_l0_1) ?_
  refine ev_pos (by trivial) ?_
  exact ev_some _
theorem laws_eqRecordTypeS_rf (l0 : List (S109)) (g_l0 : Fine l0) : Ev (fun k => laws_eqRecordTypeS.f k l0 l0) true := by
  simp only [laws_eqRecordTypeS.f]
  refine ev_pos (by trivial) ?_
  exact eq_loop laws_eqRecordTypeS.l0 (fun k x y => laws_eqRecordType.f k (x.f0) (x.f1) (y.f0) (y.f1)) rd_T109 (fun k xs ys i => by simp only [laws_eqRecordTypeS.l0]) (fun xs i h => getD_get _ xs i h) l0 g_l0.len (fun x hx => by
    have g := g_l0.mem hx
    exact laws_eqRecordType_rf x.f0 x.f1 (show Fine x.f0 ∧ Fine x.f1 from g).1 (show Fine x.f0 ∧ Fine x.f1 from g).2)
theorem laws_eqScope_rf (l0_0 : List (S116)) (l0_1 : List (S107)) (l0_2 : List (S109)) (g_l0_0 : Fine l0_0) (g_l0_1 : Fine l0_1) (g_l0_2 : Fine l0_2) : Ev (fun k => laws_eqScope.f k l0_0 l0_1 l0_2 l0_0 l0_1 l0_2) true := by
  simp only [laws_eqScope.f]
  refine ev_bind (laws_eqBindingS_rf l0_0 g_l0_0) ?_
  refine ev_pos (by trivial) ?_
  refine ev_bind (laws_eqFunctionS_rf l0_1 g_l0_1) ?_
  refine ev_pos (by trivial) ?_
  refine ev_bind (laws_eqRecordTypeS_rf l0_2 g_l0_2) ?_
  refine ev_pos (by trivial) ?_
  exact ev_some _
/-- The two functions agree. -/
def laws_FnExactSameScope.Core : Prop := ∀ (l0_0 : List (S116)) (l0_1 : List (S107)) (l0_2 : List (S109)) (l1_0 : List (S116)) (l1_1 : List (S107)) (l1_2 : List (S109)), Fine l0_0 → Fine l0_1 → Fine l0_2 → Fine l1_0 → Fine l1_1 → Fine l1_2 → ∃ r, Ev (fun k => spec_SameScope.f k l0_0 l0_1 l0_2 l1_0 l1_1 l1_2) r ∧ Ev (fun k => impl_SameScope.f k l0_0 l0_1 l0_2 l1_0 l1_1 l1_2) r ∧ Fine r
theorem close (core : laws_FnExactSameScope.Core) : laws_FnExactSameScope.Pure := by
  intro x0 x1 w_x0 w_x1
  suffices hh : Ev (fun k => laws_FnExactSameScope.f k x0.f0 x0.f1 x0.f2 x1.f0 x1.f1 x1.f2) true by
    obtain ⟨K, hK⟩ := hh
    exact ⟨K, hK K (Nat.le_refl _)⟩
  simp only [laws_FnExactSameScope.f]
  obtain ⟨v1, e1, b1, q1⟩ := laws_szScope_sz x0.f0 x0.f1 x0.f2 1048576 ((show (WList wf134) x0.f0 ∧ (WList wf136) x0.f1 ∧ (WList wf138) x0.f2 from w_x0).1) ((show (WList wf134) x0.f0 ∧ (WList wf136) x0.f1 ∧ (WList wf138) x0.f2 from w_x0).2.1) ((show (WList wf134) x0.f0 ∧ (WList wf136) x0.f1 ∧ (WList wf138) x0.f2 from w_x0).2.2) (by omega) (by omega)
  refine ev_bind e1 (ev_skip fun c1 => ?_)
  obtain ⟨g1_0, g1_1, g1_2⟩ := q1 (by omega)
  obtain ⟨v2, e2, b2, q2⟩ := laws_szScope_sz x1.f0 x1.f1 x1.f2 v1 ((show (WList wf134) x1.f0 ∧ (WList wf136) x1.f1 ∧ (WList wf138) x1.f2 from w_x1).1) ((show (WList wf134) x1.f0 ∧ (WList wf136) x1.f1 ∧ (WList wf138) x1.f2 from w_x1).2.1) ((show (WList wf134) x1.f0 ∧ (WList wf136) x1.f1 ∧ (WList wf138) x1.f2 from w_x1).2.2) (by omega) (by omega)
  refine ev_bind e2 (ev_skip fun c2 => ?_)
  obtain ⟨g2_0, g2_1, g2_2⟩ := q2 (by omega)
  obtain ⟨v3, e3, g3⟩ := laws_toScope_to x0.f0 x0.f1 x0.f2 g1_0 g1_1 g1_2
  refine ev_bind e3 ?_
  obtain ⟨v4, e4, g4⟩ := laws_toScope_to x1.f0 x1.f1 x1.f2 g2_0 g2_1 g2_2
  refine ev_bind e4 ?_
  obtain ⟨r, es, ei, gr⟩ := core v3.1 v3.2.1 v3.2.2 v4.1 v4.2.1 v4.2.2 (g3.fst) (g3.snd.fst) (g3.snd.snd) (g4.fst) (g4.snd.fst) (g4.snd.snd)
  refine ev_bind es ?_
  refine ev_bind e3 ?_
  refine ev_bind e4 ?_
  refine ev_bind ei ?_
  have p0_ : Fine v3.1 := g3.fst
  have p1_ : Fine v3.2.1 := g3.snd.fst
  have p2_ : Fine v3.2.2 := g3.snd.snd
  have p3_ : Fine v4.1 := g4.fst
  have p4_ : Fine v4.2.1 := g4.snd.fst
  have p5_ : Fine v4.2.2 := g4.snd.snd
  have p6_ : Fine r := gr
  repeat (first | exact ev_some _ | refine ev_pos trivial ?_ | refine ev_pos rfl ?_ | refine ev_neg (bne_ff _) ?_ | refine ev_neg Bool.false_ne_true ?_ | refine ev_neg id ?_ | refine ev_bind e3 ?_ | refine ev_bind e4 ?_ | refine ev_bind (laws_eqValue_rf _ _ _ _ (by assumption) (by assumption) (by assumption) (by assumption)) ?_ | refine ev_bind (laws_eqBinding_rf _ _ _ _ _ (by assumption) (by assumption) (by assumption) (by assumption) (by assumption)) ?_ | refine ev_bind (laws_eqBindingS_rf _ (by assumption)) ?_ | refine ev_bind (laws_eqStringS_rf _ (by assumption)) ?_ | refine ev_bind (laws_eqFunction_rf _ _ _ _ (by assumption) (by assumption) (by assumption) (by assumption)) ?_ | refine ev_bind (laws_eqFunctionS_rf _ (by assumption)) ?_ | refine ev_bind (laws_eqRecordType_rf _ _ (by assumption) (by assumption)) ?_ | refine ev_bind (laws_eqRecordTypeS_rf _ (by assumption)) ?_ | refine ev_bind (laws_eqScope_rf _ _ _ (by assumption) (by assumption) (by assumption)) ?_)
end Go.Proofs.Ytnneadpahjkhgaa.PureFnExactSameScope
