/- The program's CompileExpr returns what the reference's returns, for all expressions: both count the nodes, look at each node's fields and write the same code; the marks that are written into the argument leave it as it is; no condition. -/
import Derived.Test.YtmebimamjgnlpaaYCompileExprO
import Derived.Test.YtmebimamjgnlpaaYCompileExprVValues
import Derived.Test.YtmebimamjgnlpaaYCompileExprVQuotes
import Derived.Test.YtmebimamjgnlpaaYCompileExprVExprs
import Derived.Test.YtmebimamjgnlpaaYCompileExprVMarks
namespace Go.Proofs.Ytmebimamjgnlpaa.Pure
open Go.Proofs.Ytmebimamjgnlpaa.PureFnExactCompileExpr Go.RowKit Go.Proofs.YtmebimamjgnlpaaG Go.Proofs.Ytmebimamjgnlpaa.PFnExactCompileExpr Go.Proofs.YtmebimamjgnlpaaW.PrintWords Go.Proofs.YtmebimamjgnlpaaW.PrintLast Go.Proofs.YtmebimamjgnlpaaW.PrintMore

set_option linter.unusedSimpArgs false
set_option linter.unusedVariables false
theorem ev_up {α : Type} {g : Nat → Option α} {r : α} {φ : Nat → Nat} (h : Ev g r) (hφ : ∀ k, k ≤ φ k := by intro k; omega) : Ev (fun k => g (φ k)) r := by
  obtain ⟨K, hK⟩ := h
  exact ⟨K, fun k hk => hK _ (Nat.le_trans hk (hφ k))⟩
theorem rd26 (l : List S26) (i : Nat) (h : i < l.length) : rd_T26 l (i : Int) = l[i] := getD_get _ _ i h
theorem rd38 (l : List S38) (i : Nat) (h : i < l.length) : rd_T38 l (i : Int) = l[i] := getD_get _ _ i h
theorem rd26_0 (x : S26) : rd_T26 [x] 0 = x := rfl
theorem rd26_1 (l : List S26) (h : 1 < l.length) : rd_T26 l 1 = l[1] := rd26 l 1 h
theorem smV_mem {n : Nat} {x : S26} (h : smV (n + 1) x) {i : Nat} (hi : i < x.f3.length) : smV n x.f3[i] := h.2.2 _ (List.getElem_mem hi)
/-! the nodes below a node -/
mutual
def tE : S26 → Nat
  | ⟨_, _, _, ks⟩ => tS ks
def tS : List S26 → Nat
  | [] => 0
  | x :: l => 1 + tE x + tS l
end
mutual
def tG : S38 → Nat
  | ⟨_, _, _, ks⟩ => tGS ks
def tGS : List S38 → Nat
  | [] => 0
  | x :: l => 1 + tG x + tGS l
end
theorem tE_eq (x : S26) : tE x = tS x.f3 := by cases x; rw [tE]
theorem tG_eq (x : S38) : tG x = tGS x.f3 := by cases x; rw [tG]
theorem tS_drop (l : List S26) (i : Nat) (h : i < l.length) : tS (l.drop i) = 1 + tE l[i] + tS (l.drop (i + 1)) := by rw [List.drop_eq_getElem_cons h, tS]
theorem tGS_drop (l : List S38) (i : Nat) (h : i < l.length) : tGS (l.drop i) = 1 + tG l[i] + tGS (l.drop (i + 1)) := by rw [List.drop_eq_getElem_cons h, tGS]
theorem len_tS : ∀ l : List S26, l.length ≤ tS l
  | [] => by simp [tS]
  | x :: l => by rw [tS, List.length_cons]; have := len_tS l; omega
/-- The budget pays each node. -/
theorem sz_tot : ∀ k : Nat, (∀ (x : S38) (a v : Int), wf38 x → 0 ≤ a → a ≤ 1048576 → laws_szExpr.f k x.f0 x.f1 x.f2 x.f3 a = some v → 0 ≤ v → v ≤ a ∧ (tG x : Int) ≤ a - v)
    ∧ (∀ (l : List S38) (a v : Int) (i : Nat), l.length ≤ 9223372036854775807 → (∀ y, y ∈ l → wf38 y) → i ≤ l.length → 0 ≤ a → a ≤ 1048576 → laws_szExprS.l0 k l a (i : Int) = some v → 0 ≤ v → v ≤ a ∧ (tGS (l.drop i) : Int) - (l.length - i) ≤ a - v)
    ∧ (∀ (l : List S38) (a v : Int), l.length ≤ 9223372036854775807 → (∀ y, y ∈ l → wf38 y) → 0 ≤ a → a ≤ 1048576 → laws_szExprS.f k l a = some v → 0 ≤ v → v ≤ a ∧ (tGS l : Int) ≤ a - v) := by
  intro k
  induction k with
  | zero =>
    refine ⟨fun x a v _ _ _ h => ?_, fun l a v i _ _ _ _ _ h => ?_, fun l a v _ _ _ _ h => ?_⟩
    · simp only [laws_szExpr.f] at h; cases h
    · simp only [laws_szExprS.l0] at h; cases h
    · simp only [laws_szExprS.f] at h; cases h
  | succ k ih =>
    obtain ⟨i1, i2, i3⟩ := ih
    refine ⟨fun x a v w h0 h1 h hv => ?_, fun l a v i hl hw hi h0 h1 h hv => ?_, fun l a v hl hw h0 h1 h hv => ?_⟩
    · cases w with
      | mk x _ _ s2 l3 w3 =>
        have u2 : x.f2.size ≤ 9223372036854775807 := s2
        simp only [laws_szExpr.f] at h
        have e : wrap64 (a - (x.f2.size : Int)) = a - (x.f2.size : Int) := wrap_id (by omega) (by omega)
        rw [e] at h
        split at h
        · injection h with h; omega
        · obtain ⟨t, ht, h⟩ := Option.bind_eq_some_iff.1 h
          split at h
          · injection h with h; omega
          · injection h with h
            subst h
            have := i3 _ _ _ l3 w3 (by omega) (by omega) ht hv
            rw [tG_eq]; omega
    · simp only [laws_szExprS.l0] at h
      split at h
      · rename_i hlt
        rw [if_pos (by omega)] at h
        obtain ⟨t, ht, h⟩ := Option.bind_eq_some_iff.1 h
        have hil : i < l.length := by omega
        rw [rd38 l i hil] at ht
        split at h
        · injection h with h; omega
        · have a1 := i1 _ _ _ (hw _ (List.getElem_mem hil)) h0 h1 ht (by omega)
          rw [wrap_up (by omega) (show (i : Int) < (l.length : Int) by omega) hl, show (i : Int) + 1 = ((i + 1 : Nat) : Int) from by omega] at h
          have a2 := i2 l t v (i + 1) hl hw (by omega) (by omega) (by omega) h hv
          rw [tGS_drop l i hil]
          omega
      · injection h with h
        subst h
        rw [List.drop_of_length_le (by omega), tGS]
        omega
    · simp only [laws_szExprS.f] at h
      have e : wrap64 (a - (l.length : Int)) = a - (l.length : Int) := wrap_id (by omega) (by omega)
      rw [e] at h
      split at h
      · injection h with h; omega
      · have a2 := i2 l _ v 0 hl hw (by omega) (by omega) (by omega) h hv
        rw [List.drop_zero] at a2
        omega
theorem to_tot : ∀ k : Nat, (∀ (x : S38) (r : Int × Int × ByteArray × List S26), laws_toExpr.f k x.f0 x.f1 x.f2 x.f3 = some r → tS r.2.2.2 = tG x)
    ∧ (∀ (l : List S38) (ys r : List S26) (i : Nat), l.length ≤ 9223372036854775807 → ys.length = l.length → i ≤ l.length → laws_toExprS.l0 k l ys (i : Int) = some r → r.length = ys.length ∧ r.take i = ys.take i ∧ tS (r.drop i) = tGS (l.drop i))
    ∧ (∀ (l : List S38) (r : List S26), laws_toExprS.f k l = some r → tS r = tGS l) := by
  intro k
  induction k with
  | zero =>
    refine ⟨fun x r h => ?_, fun l ys r i _ _ _ h => ?_, fun l r h => ?_⟩
    · simp only [laws_toExpr.f] at h; cases h
    · simp only [laws_toExprS.l0] at h; cases h
    · simp only [laws_toExprS.f] at h; cases h
  | succ k ih =>
    obtain ⟨i1, i2, i3⟩ := ih
    refine ⟨fun x r h => ?_, fun l ys r i hl hy hi h => ?_, fun l r h => ?_⟩
    · simp only [laws_toExpr.f] at h
      obtain ⟨t, ht, h⟩ := Option.bind_eq_some_iff.1 h
      injection h with h
      subst h
      rw [tG_eq]; exact i3 _ _ ht
    · simp only [laws_toExprS.l0] at h
      split at h
      · rename_i hlt
        have hil : i < l.length := by omega
        rw [if_pos (by omega)] at h
        obtain ⟨t, ht, h⟩ := Option.bind_eq_some_iff.1 h
        rw [if_pos (by omega)] at h
        rw [rd38 l i hil] at ht
        rw [wrap_up (by omega) (show (i : Int) < (l.length : Int) by omega) hl, show (i : Int) + 1 = ((i + 1 : Nat) : Int) from by omega, Int.toNat_natCast] at h
        obtain ⟨a1, a2, a3⟩ := i2 l _ r (i + 1) hl (by rw [List.length_set]; exact hy) (by omega) h
        rw [List.length_set] at a1
        have hir : i < r.length := by omega
        have hiy : i < ys.length := by omega
        have e1 : r[i] = ⟨t.1, t.2.1, t.2.2.1, t.2.2.2⟩ := by
          have := congrArg (fun z => z[i]?) a2
          simp only [List.getElem?_take] at this
          rw [if_pos (by omega), if_pos (by omega), List.getElem?_set_self hiy, List.getElem?_eq_getElem hir] at this
          exact Option.some.inj this
        refine ⟨a1, ?_, ?_⟩
        · have := congrArg (fun z => z.take i) a2
          simp only [List.take_take] at this
          rw [Nat.min_eq_left (by omega)] at this
          rw [this, List.take_set_of_le (by omega)]
        · rw [tS_drop r i hir, tGS_drop l i hil, a3, e1, tE_eq]
          have := i1 _ _ ht
          simp only at this ⊢
          omega
      · injection h with h
        subst h
        rw [List.drop_of_length_le (by omega), List.drop_of_length_le (by omega), tS, tGS]
        exact ⟨rfl, rfl, rfl⟩
    · simp only [laws_toExprS.f] at h
      rw [if_pos (by omega)] at h
      split at h
      · by_cases hl : l.length ≤ 9223372036854775807
        · have := i2 l _ r 0 hl (by rw [List.length_replicate]; omega) (by omega) h
          rw [List.drop_zero, List.drop_zero] at this
          exact this.2.2
        · rename_i hc; omega
      · cases h
/-- The marks behind an expression. -/
theorem cS_eq : ∀ (n : Nat) (l : List S26), SizeOf.sizeOf l < n → ∀ a : Int, 0 ≤ a → a + 3 * (tS l : Int) ≤ 9223372036854775807 → laws_markExprS.cS l a = a + 3 * (tS l : Int)
  | 0, _, h => absurd h (by omega)
  | n + 1, [], _ => by intro a h0 h1; rw [laws_markExprS.cS, tS]; omega
  | n + 1, ⟨f0, f1, f2, ks⟩ :: l, hn => by
    intro a h0 h1
    simp only [List.cons.sizeOf_spec, S26.mk.sizeOf_spec] at hn
    rw [tS, tE] at h1
    have e : wrap64 (wrap64 (wrap64 (a + 1) + 1) + 1) = a + 3 := by
      rw [wrap_id (x := a + 1) (by omega) (by omega), wrap_id (x := a + 1 + 1) (by omega) (by omega), wrap_id (by omega) (by omega)]; omega
    rw [laws_markExprS.cS, laws_markExprS.cE, e, cS_eq n ks (by omega) (a + 3) (by omega) (by omega), cS_eq n l (by omega) _ (by omega) (by omega), tS, tE]
    omega
/-! the fields of a node -/
def shE (x : S26) : Bool :=
  if x.f0 = 1 then decide (x.f3.length = 0) && (x.f1 == 0 && quoteS x.f2)
  else if x.f0 = 2 then decide (x.f3.length = 0) && (x.f2.toList.isEmpty && (decide (0 ≤ x.f1) && decide (x.f1 ≤ 1000000000000)))
  else if x.f0 = 3 ∨ x.f0 = 16 ∨ x.f0 = 17 ∨ x.f0 = 18 then decide (x.f3.length = 0) && (x.f1 == 0 && isNameS x.f2)
  else if x.f0 = 4 then decide (x.f3.length ≤ 6) && (x.f1 == 0 && isNameS x.f2)
  else (x.f1 == 0 && x.f2.toList.isEmpty) && (if x.f0 = 12 ∨ x.f0 = 13 then decide (x.f3.length = 2) && ((rd_T26 x.f3 1).f0 == 3) else if x.f0 = 14 ∨ x.f0 = 15 then decide (x.f3.length = 1) else decide (x.f3.length = 2) && (decide (5 ≤ x.f0) && decide (x.f0 ≤ 11)))
theorem ev_andI {p : Prop} [Decidable p] {f : Nat → Option Bool} {b : Bool} (h : Ev f b) : Ev (fun k => if p then f k else some false) (decide p && b) := by
  by_cases c : p
  · rw [decide_eq_true c]; exact ev_pos c h
  · rw [decide_eq_false c]; exact ev_neg c (ev_some _)
theorem nil_iff (t : ByteArray) : (t.toList = ([] : List UInt8)) = (t.toList.isEmpty = true) := by rw [List.isEmpty_iff]
theorem one_pos (x : S26) : (0 : Int) < (([x] : List S26).length : Int) := by simp
theorem shape_j5 (x : S26) (n : Nat) (b : Bool) : Ev (fun k => spec_l03Shape.j5 k [x] (n : Int) b) (decide (x.f1 = 0) && (decide (x.f3.length = n) && (if b = true then isNameS x.f2 else x.f2.toList.isEmpty))) := by
  refine ev_shift ?_
  simp only [spec_l03Shape.j5, rd26_0]
  refine ev_pos (one_pos _) (ev_andI ?_)
  have e : decide (x.f3.length = n) = decide ((x.f3.length : Int) = (n : Int)) := by rw [decide_eq_decide]; omega
  rw [e]
  refine ev_andI ?_
  cases b with
  | true =>
    refine ev_pos rfl (ev_bind (spec_IsName_ev x.f2) ?_)
    cases isNameS x.f2 with
    | true => exact ev_pos rfl (ev_some _)
    | false => exact ev_neg (by decide) (ev_some _)
  | false => exact ev_neg (by decide) (ev_some _)
theorem spec_shape_ev (x : S26) : Ev (fun k => spec_l03Shape.f k [x]) (shE x) := by
  obtain ⟨f0, f1, f2, ks⟩ := x
  have j5 := fun (n : Nat) (b : Bool) => shape_j5 ⟨f0, f1, f2, ks⟩ n b
  simp only at j5
  have hz : (f1 == 0) = decide (f1 = 0) := rfl
  simp only [spec_l03Shape.f, rd26_0]
  refine ev_pos (one_pos _) ?_
  unfold shE
  simp only
  by_cases h1 : f0 = 1
  · subst h1
    rw [if_pos rfl, hz]
    refine ev_pos rfl ?_
    have := ev_andI (p := f1 = 0) (ev_andI (p := (ks.length : Int) = 0) (ev_bind (spec_CanQuote_ev f2) (ev_some _)))
    have e : decide ((ks.length : Int) = 0) = decide (ks.length = 0) := by rw [decide_eq_decide]; omega
    rw [e] at this
    rw [← Bool.and_assoc, Bool.and_comm (decide (ks.length = 0)), Bool.and_assoc]
    exact this
  rw [if_neg h1]
  refine ev_neg h1 ?_
  by_cases h2 : f0 = 2
  · subst h2
    rw [if_pos rfl]
    refine ev_pos rfl ?_
    simp only [nil_iff]
    have := ev_andI (p := f2.toList.isEmpty = true) (ev_andI (p := (ks.length : Int) = 0) (ev_bind (ev_of_eq (spec_l00In_eq f1 0 1000000000000)) (ev_some _)))
    have e : decide ((ks.length : Int) = 0) = decide (ks.length = 0) := by rw [decide_eq_decide]; omega
    rw [e, Bool.decide_eq_true] at this
    rw [← Bool.and_assoc, Bool.and_comm (decide (ks.length = 0)), Bool.and_assoc]
    exact this
  rw [if_neg h2]
  refine ev_neg h2 ?_
  have nm : ∀ b, (decide (f1 = 0) && (decide (ks.length = 0) && b)) = (decide (ks.length = 0) && (f1 == 0 && b)) := fun b => by rw [hz, ← Bool.and_assoc, Bool.and_comm (decide (f1 = 0)), Bool.and_assoc]
  by_cases h3 : f0 = 3 ∨ f0 = 16 ∨ f0 = 17 ∨ f0 = 18
  · rw [if_pos h3]
    have := j5 0 true
    rw [nm, if_pos rfl] at this
    have key : ∀ b, b = true → Ev (fun k => spec_l03Shape.j0 k [⟨f0, f1, f2, ks⟩] 0 false f0 b) (decide (ks.length = 0) && (f1 == 0 && isNameS f2)) := by
      intro b hb
      subst hb
      refine ev_shift ?_
      simp only [spec_l03Shape.j0]
      exact ev_pos trivial this
    rcases h3 with e | e | e | e <;> subst e
    · exact ev_pos rfl (key _ rfl)
    · exact ev_neg (by decide) (ev_pos rfl (key _ rfl))
    · exact ev_neg (by decide) (ev_neg (by decide) (ev_pos rfl (key _ rfl)))
    · exact ev_neg (by decide) (ev_neg (by decide) (ev_neg (by decide) (key _ rfl)))
  rw [if_neg h3]
  refine ev_neg (fun e => h3 (.inl e)) (ev_neg (fun e => h3 (.inr (.inl e))) (ev_neg (fun e => h3 (.inr (.inr (.inl e)))) ?_))
  rw [show (f0 == 18) = false from beq_eq_false_iff_ne.2 (fun e => h3 (.inr (.inr (.inr e))))]
  refine ev_shift ?_
  simp only [spec_l03Shape.j0, rd26_0]
  refine ev_neg (by decide) ?_
  by_cases h4 : f0 = 4
  · rw [if_pos h4]
    refine ev_pos h4 (ev_pos (one_pos _) ?_)
    have : Ev (fun k => if f1 = 0 then ((spec_IsName.f k f2).bind fun t144 => (if t144 = true then (some (decide ((ks.length : Int) ≤ 6))) else (some false))) else some false) (decide (f1 = 0) && (isNameS f2 && decide ((ks.length : Int) ≤ 6))) := by
      refine ev_andI (ev_bind (spec_IsName_ev f2) ?_)
      cases isNameS f2 with
      | true => exact ev_pos rfl (ev_some _)
      | false => exact ev_neg (by decide) (ev_some _)
    have e : decide ((ks.length : Int) ≤ 6) = decide (ks.length ≤ 6) := by rw [decide_eq_decide]; omega
    have e2 : (decide (ks.length ≤ 6) && (f1 == 0 && isNameS f2)) = (decide (f1 = 0) && (isNameS f2 && decide (ks.length ≤ 6))) := by
      rw [hz, Bool.and_comm (decide (ks.length ≤ 6)), Bool.and_assoc]
    rw [e2, ← e]; exact this
  rw [if_neg h4]
  refine ev_neg h4 ?_
  have kd : ∀ n : Nat, Ev (fun k => spec_l03Shape.j5 k [⟨f0, f1, f2, ks⟩] (n : Int) false) ((f1 == 0 && f2.toList.isEmpty) && decide (ks.length = n)) := by
    intro n
    have := j5 n false
    rw [if_neg (by decide)] at this
    rw [hz, Bool.and_assoc, Bool.and_comm f2.toList.isEmpty]
    exact this
  by_cases h14 : f0 = 14 ∨ f0 = 15
  · have hn : ¬ (f0 = 12 ∨ f0 = 13) := by omega
    rw [if_neg hn, if_pos h14]
    have key : ∀ b, b = true → Ev (fun k => spec_l03Shape.j1 k [⟨f0, f1, f2, ks⟩] false f0 b) ((f1 == 0 && f2.toList.isEmpty) && decide (ks.length = 1)) := by
      intro b hb
      subst hb
      refine ev_shift ?_
      simp only [spec_l03Shape.j1]
      exact ev_pos trivial (kd 1)
    rcases h14 with e | e <;> subst e
    · exact ev_pos rfl (key _ rfl)
    · exact ev_neg (by decide) (key _ rfl)
  have e15 : (f0 == 15) = false := beq_eq_false_iff_ne.2 (fun e => h14 (.inr e))
  refine ev_neg (fun e => h14 (.inl e)) ?_
  rw [e15]
  refine ev_shift ?_
  simp only [spec_l03Shape.j1]
  refine ev_neg (by decide) ?_
  by_cases h5 : 5 ≤ f0 ∧ f0 ≤ 11
  · have hn : ¬ (f0 = 12 ∨ f0 = 13) := by omega
    rw [if_neg hn, if_neg h14, decide_eq_true h5.1, decide_eq_true h5.2, Bool.and_true, Bool.and_true]
    have key : ∀ b, b = true → Ev (fun k => spec_l03Shape.j2 k [⟨f0, f1, f2, ks⟩] false f0 b) ((f1 == 0 && f2.toList.isEmpty) && decide (ks.length = 2)) := by
      intro b hb
      subst hb
      refine ev_shift ?_
      simp only [spec_l03Shape.j2]
      exact ev_pos trivial (kd 2)
    have hh : f0 = 5 ∨ f0 = 6 ∨ f0 = 7 ∨ f0 = 8 ∨ f0 = 9 ∨ f0 = 10 ∨ f0 = 11 := by omega
    rcases hh with e | e | e | e | e | e | e <;> subst e
    · exact ev_pos rfl (key _ rfl)
    · exact ev_neg (by decide) (ev_pos rfl (key _ rfl))
    · exact ev_neg (by decide) (ev_neg (by decide) (ev_pos rfl (key _ rfl)))
    · exact ev_neg (by decide) (ev_neg (by decide) (ev_neg (by decide) (ev_pos rfl (key _ rfl))))
    · exact ev_neg (by decide) (ev_neg (by decide) (ev_neg (by decide) (ev_neg (by decide) (ev_pos rfl (key _ rfl)))))
    · exact ev_neg (by decide) (ev_neg (by decide) (ev_neg (by decide) (ev_neg (by decide) (ev_neg (by decide) (ev_pos rfl (key _ rfl))))))
    · exact ev_neg (by decide) (ev_neg (by decide) (ev_neg (by decide) (ev_neg (by decide) (ev_neg (by decide) (ev_neg (by decide) (key _ rfl))))))
  have e11 : (f0 == 11) = false := beq_eq_false_iff_ne.2 (by omega)
  refine ev_neg (by omega) (ev_neg (by omega) (ev_neg (by omega) (ev_neg (by omega) (ev_neg (by omega) (ev_neg (by omega) ?_)))))
  rw [e11]
  refine ev_shift ?_
  simp only [spec_l03Shape.j2]
  refine ev_neg (by decide) ?_
  by_cases h12 : f0 = 12 ∨ f0 = 13
  · rw [if_pos h12]
    have key : ∀ b, b = true → Ev (fun k => spec_l03Shape.j3 k [⟨f0, f1, f2, ks⟩] false b) ((f1 == 0 && f2.toList.isEmpty) && (decide (ks.length = 2) && ((rd_T26 ks 1).f0 == 3))) := by
      intro b hb
      subst hb
      refine ev_shift ?_
      simp only [spec_l03Shape.j3, rd26_0]
      refine ev_pos trivial (ev_pos (one_pos _) ?_)
      by_cases hl : ks.length = 2
      · rw [decide_eq_true hl, Bool.true_and]
        refine ev_pos (by omega) (ev_pos (by omega) ?_)
        by_cases hk : (rd_T26 ks 1).f0 = 3
        · rw [hk, show ((3 : Int) == 3) = true from rfl, Bool.and_true, show ((3 : Int) != 3) = false from rfl]
          refine ev_shift ?_
          simp only [spec_l03Shape.j4]
          have := kd 2
          rw [decide_eq_true hl, Bool.and_true] at this
          exact ev_neg (by decide) this
        · rw [show ((rd_T26 ks 1).f0 == 3) = false from beq_eq_false_iff_ne.2 hk, Bool.and_false, show ((rd_T26 ks 1).f0 != 3) = true from bne_iff_ne.2 hk]
          refine ev_shift ?_
          simp only [spec_l03Shape.j4]
          exact ev_pos trivial (ev_some _)
      · rw [decide_eq_false hl, Bool.false_and, Bool.and_false]
        refine ev_neg (by omega) (ev_shift ?_)
        simp only [spec_l03Shape.j4]
        have := kd 2
        rw [decide_eq_false hl, Bool.and_false] at this
        exact ev_neg (by decide) this
    rcases h12 with e | e <;> subst e
    · exact ev_pos rfl (key _ rfl)
    · exact ev_neg (by decide) (key _ rfl)
  rw [if_neg h12, if_neg h14, show (decide (5 ≤ f0) && decide (f0 ≤ 11)) = false by
    rw [Bool.and_eq_false_iff]
    by_cases c : 5 ≤ f0
    · right; exact decide_eq_false (fun d => h5 ⟨c, d⟩)
    · left; exact decide_eq_false c, Bool.and_false, Bool.and_false]
  refine ev_neg (fun e => h12 (.inl e)) ?_
  rw [show (f0 == 13) = false from beq_eq_false_iff_ne.2 (fun e => h12 (.inr e))]
  refine ev_shift ?_
  simp only [spec_l03Shape.j3]
  exact ev_neg (by decide) (ev_some _)
theorem impl_fields_j2 (ks : List S26) (f0 f1 : Int) (f2 : ByteArray) (b : Bool) (hb : b = decide (f0 = 12 ∨ f0 = 13)) (h1 : ¬ f0 = 1) (h4 : ¬ f0 = 4) (h3 : ¬ (f0 = 3 ∨ f0 = 16 ∨ f0 = 17 ∨ f0 = 18)) (h2 : ¬ f0 = 2) :
    Ev (fun k => impl_Expr_hasFields.j2 k (ks.length : Int) f0 b f0 f1 f2 ks) (if f0 = 12 ∨ f0 = 13 then decide (ks.length = 2) && ((rd_T26 ks 1).f0 == 3) else if f0 = 14 ∨ f0 = 15 then decide (ks.length = 1) else decide (ks.length = 2) && (decide (5 ≤ f0) && decide (f0 ≤ 11))) := by
  refine ev_shift ?_
  simp only [impl_Expr_hasFields.j2]
  by_cases c : f0 = 12 ∨ f0 = 13
  · rw [if_pos c]
    refine ev_pos (by rw [hb]; exact decide_eq_true c) ?_
    by_cases l : ks.length = 2
    · rw [decide_eq_true l, Bool.true_and]
      exact ev_pos (by omega) (ev_pos (by omega) (ev_some _))
    · rw [decide_eq_false l, Bool.false_and]
      exact ev_neg (by omega) (ev_some _)
  · rw [if_neg c]
    refine ev_neg (by rw [hb, decide_eq_false c]; decide) ?_
    have e1 : ((ks.length : Int) == 1) = decide (ks.length = 1) := by rw [Bool.eq_iff_iff, beq_iff_eq, decide_eq_true_eq]; omega
    by_cases d : f0 = 14 ∨ f0 = 15
    · rw [if_pos d, e1]
      rcases d with d | d
      · exact ev_pos d (ev_some _)
      · exact ev_neg (by omega) (ev_pos d (ev_some _))
    · rw [if_neg d]
      refine ev_neg (fun e => d (.inl e)) (ev_neg (fun e => d (.inr e)) ?_)
      by_cases l : ks.length = 2
      · rw [decide_eq_true l, Bool.true_and]
        refine ev_pos (by omega) ?_
        by_cases e5 : f0 = 5
        · subst e5
          exact ev_pos rfl (ev_some _)
        · refine ev_neg e5 ?_
          simp only [impl_isBinary.f, impl_within_eq, Option.bind_some]
          rw [show (decide (6 ≤ f0) && decide (f0 ≤ 13)) = (decide (5 ≤ f0) && decide (f0 ≤ 11)) by
            rw [Bool.eq_iff_iff]; simp only [Bool.and_eq_true, decide_eq_true_eq]; omega]
          exact ev_some _
      · rw [decide_eq_false l, Bool.false_and]
        exact ev_neg (by omega) (ev_some _)
theorem impl_fields_ev (x : S26) (hs : x.f2.size ≤ 1048576) : Ev (fun k => impl_Expr_hasFields.f k x.f0 x.f1 x.f2 x.f3) (shE x) := by
  obtain ⟨f0, f1, f2, ks⟩ := x
  have hz : (f1 == 0) = decide (f1 = 0) := rfl
  simp only at hs
  simp only [impl_Expr_hasFields.f]
  unfold shE
  simp only
  have el : decide ((ks.length : Int) = 0) = decide (ks.length = 0) := by rw [decide_eq_decide]; omega
  by_cases h1 : f0 = 1
  · subst h1
    rw [if_pos rfl, hz, ← el]
    exact ev_pos rfl (ev_andI (ev_andI (ev_bind (impl_CanQuote_ev f2) (ev_some _))))
  rw [if_neg h1]
  refine ev_neg h1 ?_
  by_cases h2 : f0 = 2
  · subst h2
    rw [if_pos rfl, ← el]
    refine ev_pos rfl (ev_andI ?_)
    simp only [nil_iff, impl_isNumber.f, impl_within_eq, Option.bind_some]
    have := ev_andI (p := f2.toList.isEmpty = true) (ev_some (decide (0 ≤ f1) && decide (f1 ≤ 1000000000000)))
    rw [Bool.decide_eq_true] at this
    exact this
  rw [if_neg h2]
  refine ev_neg h2 ?_
  have nm : Ev (fun k => impl_Expr_hasFields.j0 k (ks.length : Int) true f0 f1 f2 ks) (decide (ks.length = 0) && (f1 == 0 && isNameS f2)) := by
    refine ev_shift ?_
    simp only [impl_Expr_hasFields.j0]
    rw [hz, ← el]
    exact ev_pos trivial (ev_andI (ev_andI (ev_bind (impl_IsName_ev f2) (ev_some _))))
  by_cases h3 : f0 = 3 ∨ f0 = 16 ∨ f0 = 17 ∨ f0 = 18
  · rw [if_pos h3]
    by_cases c3 : f0 = 3
    · exact ev_pos c3 nm
    · refine ev_neg c3 ?_
      simp only [impl_isNamed.f, impl_within_eq, Option.bind_some]
      rw [show (decide (16 ≤ f0) && decide (f0 ≤ 18)) = true by simp only [Bool.and_eq_true, decide_eq_true_eq]; omega]
      exact nm
  rw [if_neg h3]
  refine ev_neg (fun e => h3 (.inl e)) ?_
  simp only [impl_isNamed.f, impl_within_eq, Option.bind_some]
  rw [show (decide (16 ≤ f0) && decide (f0 ≤ 18)) = false by rw [Bool.eq_false_iff]; simp only [ne_eq, Bool.and_eq_true, decide_eq_true_eq]; omega]
  refine ev_shift ?_
  simp only [impl_Expr_hasFields.j0]
  refine ev_neg (by decide) ?_
  by_cases h4 : f0 = 4
  · rw [if_pos h4, hz]
    refine ev_pos h4 ?_
    have e : decide ((ks.length : Int) ≤ 6) = decide (ks.length ≤ 6) := by rw [decide_eq_decide]; omega
    rw [← e]
    exact ev_andI (ev_andI (ev_bind (impl_IsName_ev f2) (ev_some _)))
  rw [if_neg h4]
  refine ev_neg h4 ?_
  have j1 : ∀ b, b = !(f1 == 0 && f2.toList.isEmpty) → Ev (fun k => impl_Expr_hasFields.j1 k (ks.length : Int) b f0 f1 f2 ks) ((f1 == 0 && f2.toList.isEmpty) && (if f0 = 12 ∨ f0 = 13 then decide (ks.length = 2) && ((rd_T26 ks 1).f0 == 3) else if f0 = 14 ∨ f0 = 15 then decide (ks.length = 1) else decide (ks.length = 2) && (decide (5 ≤ f0) && decide (f0 ≤ 11)))) := by
    intro b hb
    refine ev_shift ?_
    simp only [impl_Expr_hasFields.j1]
    cases hc : (f1 == 0 && f2.toList.isEmpty) with
    | false => rw [hb, hc, Bool.false_and]; exact ev_pos rfl (ev_some _)
    | true =>
      rw [hb, hc, Bool.true_and]
      refine ev_neg (by decide) ?_
      by_cases c : f0 = 12
      · refine ev_pos c (impl_fields_j2 ks f0 f1 f2 _ ?_ h1 h4 h3 h2)
        rw [decide_eq_true (Or.inl c)]; exact beq_iff_eq.2 c
      · refine ev_neg c (impl_fields_j2 ks f0 f1 f2 _ ?_ h1 h4 h3 h2)
        rw [Bool.eq_iff_iff, beq_iff_eq, decide_eq_true_eq]
        exact ⟨Or.inr, fun h => h.resolve_left c⟩
  by_cases hf : f1 = 0
  · refine ev_pos hf (j1 _ ?_)
    rw [hz, decide_eq_true hf, Bool.true_and]
  · refine ev_neg hf (j1 _ ?_)
    rw [hz, decide_eq_false hf, Bool.false_and]; rfl
/-! which expressions are valid -/
mutual
def okE : S26 → Bool
  | ⟨a, b, c, ks⟩ => shE ⟨a, b, c, ks⟩ && okS ks
def okS : List S26 → Bool
  | [] => true
  | x :: l => okE x && okS l
end
theorem okE_eq (x : S26) : okE x = (shE x && okS x.f3) := by cases x; rw [okE]
theorem okS_drop (l : List S26) (i : Nat) (h : i < l.length) : okS (l.drop i) = (okE l[i] && okS (l.drop (i + 1))) := by rw [List.drop_eq_getElem_cons h, okS]
def cR (x : S26) (c : Int) : Int := if okE x = true ∧ c + 1 + (tE x : Int) ≤ 60 then c + 1 + (tE x : Int) else 61
def cRS (l : List S26) (c : Int) : Int := if okS l = true ∧ c + (tS l : Int) ≤ 60 then c + (tS l : Int) else 61
theorem cRS_step (l : List S26) (i : Nat) (h : i < l.length) (c : Int) : cRS (l.drop i) c = if cR l[i] c > 60 then 61 else cRS (l.drop (i + 1)) (cR l[i] c) := by
  by_cases c1 : okE l[i] = true
  · by_cases c2 : c + 1 + (tE l[i] : Int) ≤ 60
    · have e : cR l[i] c = c + 1 + (tE l[i] : Int) := if_pos ⟨c1, c2⟩
      rw [e, if_neg (show ¬ (c + 1 + (tE l[i] : Int) > 60) by omega)]
      unfold cRS
      rw [okS_drop l i h, tS_drop l i h, c1, Bool.true_and, show c + ((1 + tE l[i] + tS (l.drop (i + 1)) : Nat) : Int) = c + 1 + (tE l[i] : Int) + (tS (l.drop (i + 1)) : Int) by push_cast; omega]
    · have e : cR l[i] c = 61 := if_neg (fun h => c2 h.2)
      rw [e, if_pos (by decide)]
      unfold cRS
      refine if_neg (fun hh => c2 ?_)
      have := hh.2
      rw [tS_drop l i h] at this
      push_cast at this
      omega
  · have e : cR l[i] c = 61 := if_neg (fun h => c1 h.1)
    rw [e, if_pos (by decide)]
    unfold cRS
    refine if_neg (fun hh => c1 ?_)
    have := hh.1
    rw [okS_drop l i h, Bool.and_eq_true] at this
    exact this.1
theorem cR_range (x : S26) (c : Int) (h0 : 0 ≤ c) : 0 ≤ cR x c ∧ cR x c ≤ 61 := by unfold cR; split <;> omega
theorem count_list (n : Nat) (l : List S26) (hl : l.length ≤ 1048576) (ih : ∀ x, x ∈ l → ∀ c : Int, 0 ≤ c → c ≤ 60 → Ev (fun k => impl_countNodes.f k x.f0 x.f1 x.f2 x.f3 c) (cR x c)) :
    ∀ d i : Nat, i + d = l.length → ∀ c : Int, 0 ≤ c → c ≤ 60 → Ev (fun k => impl_countNodes.l0 k c l (l.length : Int) (i : Int)) (cRS (l.drop i) c) := by
  intro d
  induction d with
  | zero =>
    intro i hi c h0 h1
    refine ev_shift ?_
    simp only [impl_countNodes.l0]
    rw [List.drop_of_length_le (by omega)]
    unfold cRS
    rw [okS, tS, if_pos ⟨rfl, by omega⟩]
    refine ev_neg (by omega) ?_
    rw [show c + ((0 : Nat) : Int) = c by omega]
    exact ev_some _
  | succ d hd =>
    intro i hi c h0 h1
    have hlt : i < l.length := by omega
    refine ev_shift ?_
    simp only [impl_countNodes.l0]
    rw [rd26 l i hlt, wrap_up (by omega) (show (i : Int) < (l.length : Int) by omega) (by omega), show (i : Int) + 1 = ((i + 1 : Nat) : Int) from by omega, cRS_step l i hlt]
    refine ev_pos (by omega) (ev_pos (by omega) (ev_pos (by omega) (ev_bind (ih _ (List.getElem_mem hlt) c h0 h1) ?_)))
    have hr := cR_range l[i] c h0
    by_cases c1 : cR l[i] c > 60
    · rw [if_pos c1, show cR l[i] c = 61 by omega]
      exact ev_pos (by decide) (ev_some _)
    · rw [if_neg c1]
      exact ev_neg c1 (hd (i + 1) (by omega) _ hr.1 (by omega))
theorem impl_count_ev : ∀ (n : Nat) (x : S26), smV n x → ∀ c : Int, 0 ≤ c → c ≤ 60 → Ev (fun k => impl_countNodes.f k x.f0 x.f1 x.f2 x.f3 c) (cR x c) := by
  intro n
  induction n with
  | zero => exact fun x h => h.elim
  | succ n ih =>
    intro x h c h0 h1
    have e : wrap64 (c + 1) = c + 1 := wrap_id (by omega) (by omega)
    have lp := count_list n x.f3 h.2.1 (fun y hy c h0 h1 => ih y (h.2.2 y hy) c h0 h1) x.f3.length 0 (by omega)
    refine ev_shift ?_
    simp only [impl_countNodes.f]
    rw [e]
    by_cases c1 : c + 1 > 60
    · refine ev_pos c1 (ev_shift ?_)
      simp only [impl_countNodes.j0]
      have : cR x c = 61 := by unfold cR; rw [if_neg (fun h => by omega)]
      rw [this]
      exact ev_pos trivial (ev_some _)
    · refine ev_neg c1 (ev_bind (impl_fields_ev x h.1) (ev_shift ?_))
      simp only [impl_countNodes.j0]
      cases hs : shE x with
      | false =>
        have : cR x c = 61 := by unfold cR; rw [okE_eq, hs, if_neg (fun h => by have := h.1; cases this)]
        rw [this]
        exact ev_pos rfl (ev_some _)
      | true =>
        have : cR x c = cRS (x.f3.drop 0) (c + 1) := by
          unfold cR cRS
          rw [okE_eq, hs, Bool.true_and, tE_eq, List.drop_zero]
        rw [this]
        exact ev_neg (by decide) (lp (c + 1) (by omega) (by omega))
theorem spec_size_ev : ∀ (n : Nat) (x : S26), smV n x → (tE x : Int) ≤ 1048576 → ∃ u, Ev (fun k => spec_l03Size.f k [x]) u ∧ 1 ≤ u ∧ u ≤ 1 + (tE x : Int) ∧ (1 + (tE x : Int) ≤ 60 → u = 1 + (tE x : Int)) ∧ (1 + (tE x : Int) > 60 → u > 60) := by
  intro n
  induction n with
  | zero => exact fun x h => h.elim
  | succ n ih =>
    intro x h ht
    have hl : x.f3.length ≤ 1048576 := h.2.1
    have loop : ∀ d i : Nat, i + d = x.f3.length → ∀ m : Int, 1 ≤ m → m + (tS (x.f3.drop i) : Int) ≤ 1048577 → ∃ u, Ev (fun k => spec_l03Size.l0 k [x] m (i : Int)) u ∧ m ≤ u ∧ u ≤ m + (tS (x.f3.drop i) : Int) ∧ (m + (tS (x.f3.drop i) : Int) ≤ 60 → u = m + (tS (x.f3.drop i) : Int)) ∧ (m + (tS (x.f3.drop i) : Int) > 60 → u > 60) := by
      intro d
      induction d with
      | zero =>
        intro i hi m h1 h2
        rw [List.drop_of_length_le (by omega), tS]
        refine ⟨m, ev_shift ?_, by omega, by omega, fun _ => by omega, fun h => by omega⟩
        simp only [spec_l03Size.l0, rd26_0]
        exact ev_pos (one_pos _) (ev_neg (by omega) (ev_some _))
      | succ d hd =>
        intro i hi m h1 h2
        have hlt : i < x.f3.length := by omega
        rw [tS_drop x.f3 i hlt] at h2 ⊢
        by_cases c1 : m ≤ 60
        · obtain ⟨u, hu, u1, u2, u3, u4⟩ := ih x.f3[i] (smV_mem h hlt) (by push_cast at h2; omega)
          have e : wrap64 (m + u) = m + u := wrap_id (by omega) (by push_cast at h2; omega)
          obtain ⟨v, hv, v1, v2, v3, v4⟩ := hd (i + 1) (by omega) (m + u) (by omega) (by push_cast at h2; omega)
          refine ⟨v, ev_shift ?_, by omega, by push_cast; omega, fun hh => by push_cast at hh ⊢; rw [u3 (by omega)] at v3; rw [v3 (by omega)]; omega, fun hh => ?_⟩
          · simp only [spec_l03Size.l0, rd26_0]
            rw [rd26 x.f3 i hlt, wrap_up (by omega) (show (i : Int) < (x.f3.length : Int) by omega) (by omega), show (i : Int) + 1 = ((i + 1 : Nat) : Int) from by omega]
            refine ev_pos (one_pos _) (ev_pos (by omega) (ev_pos c1 (ev_pos (by omega) (ev_bind hu ?_))))
            rw [e]; exact hv
          · push_cast at hh
            by_cases c2 : 1 + (tE x.f3[i] : Int) ≤ 60
            · have := u3 c2
              exact v4 (by omega)
            · have := u4 (by omega)
              omega
        · refine ⟨m, ev_shift ?_, by omega, by omega, fun h => by push_cast at h; omega, fun h => by omega⟩
          simp only [spec_l03Size.l0, rd26_0]
          exact ev_pos (one_pos _) (ev_pos (by omega) (ev_neg c1 (ev_some _)))
    obtain ⟨u, hu, u1, u2, u3, u4⟩ := loop x.f3.length 0 (by omega) 1 (by omega) (by rw [List.drop_zero, ← tE_eq]; omega)
    rw [List.drop_zero, ← tE_eq] at u2 u3 u4
    refine ⟨u, ev_shift ?_, u1, u2, u3, u4⟩
    simp only [spec_l03Size.f]
    exact hu
theorem spec_nodes_ev : ∀ (n : Nat) (x : S26), smV n x → Ev (fun k => spec_l03Nodes.f k [x]) (okE x) := by
  intro n
  induction n with
  | zero => exact fun x h => h.elim
  | succ n ih =>
    intro x h
    have hl : x.f3.length ≤ 1048576 := h.2.1
    have loop : ∀ d i : Nat, i + d = x.f3.length → Ev (fun k => spec_l03Nodes.l0 k [x] (i : Int)) (okS (x.f3.drop i)) := by
      intro d
      induction d with
      | zero =>
        intro i hi
        rw [List.drop_of_length_le (by omega), okS]
        refine ev_shift ?_
        simp only [spec_l03Nodes.l0, rd26_0]
        exact ev_pos (one_pos _) (ev_neg (by omega) (ev_some _))
      | succ d hd =>
        intro i hi
        have hlt : i < x.f3.length := by omega
        refine ev_shift ?_
        simp only [spec_l03Nodes.l0, rd26_0]
        rw [okS_drop x.f3 i hlt, rd26 x.f3 i hlt, wrap_up (by omega) (show (i : Int) < (x.f3.length : Int) by omega) (by omega), show (i : Int) + 1 = ((i + 1 : Nat) : Int) from by omega]
        refine ev_pos (one_pos _) (ev_pos (by omega) (ev_pos (by omega) (ev_bind (ih _ (smV_mem h hlt)) ?_)))
        cases okE x.f3[i] with
        | true => rw [Bool.true_and]; exact ev_pos rfl (hd (i + 1) (by omega))
        | false => rw [Bool.false_and]; exact ev_neg (by decide) (ev_some _)
    refine ev_shift ?_
    simp only [spec_l03Nodes.f]
    rw [okE_eq]
    refine ev_bind (spec_shape_ev x) ?_
    cases shE x with
    | true =>
      rw [Bool.true_and]
      have := loop x.f3.length 0 (by omega)
      rw [List.drop_zero] at this
      exact ev_pos rfl this
    | false => rw [Bool.false_and]; exact ev_neg (by decide) (ev_some _)
def validE (x : S26) : Bool := okE x && decide (1 + (tE x : Int) ≤ 60)
theorem spec_valid_ev (n : Nat) (x : S26) (h : smV n x) (ht : (tE x : Int) ≤ 1048576) : Ev (fun k => spec_ValidExpr.f k x.f0 x.f1 x.f2 x.f3) (validE x) := by
  obtain ⟨u, hu, u1, u2, u3, u4⟩ := spec_size_ev n x h ht
  have hn := spec_nodes_ev n x h
  obtain ⟨f0, f1, f2, ks⟩ := x
  simp only [spec_ValidExpr.f, spec_l03Ok.f]
  refine ev_bind (ev_bind hu ?_) (ev_some _)
  unfold validE
  by_cases c : 1 + (tE ⟨f0, f1, f2, ks⟩ : Int) ≤ 60
  · rw [decide_eq_true c, Bool.and_true]
    exact ev_pos (by have := u3 c; omega) (ev_bind hn (ev_some _))
  · rw [decide_eq_false c, Bool.and_false]
    exact ev_neg (by have := u4 (by omega); omega) (ev_some _)
theorem impl_valid_ev (n : Nat) (x : S26) (h : smV n x) : Ev (fun k => impl_ValidExpr.f k x.f0 x.f1 x.f2 x.f3) (validE x) := by
  simp only [impl_ValidExpr.f]
  refine ev_bind (impl_count_ev n x h 0 (by omega) (by omega)) ?_
  have : decide (cR x 0 ≤ 60) = validE x := by
    unfold cR validE
    by_cases c : okE x = true ∧ (0 : Int) + 1 + (tE x : Int) ≤ 60
    · rw [if_pos c, c.1, Bool.true_and, decide_eq_decide]; omega
    · rw [if_neg c, decide_eq_false (by omega)]
      symm
      rw [Bool.and_eq_false_iff]
      by_cases d : okE x = true
      · right; exact decide_eq_false (fun e => c ⟨d, by omega⟩)
      · left; exact Bool.eq_false_iff.2 d
  rw [this]
  exact ev_some _
/-! the code -/
def lastI (x : S26) : S89 :=
  if x.f0 = 1 then ⟨2, 0, x.f2⟩ else if x.f0 = 2 then ⟨3, x.f1, ⟨#[]⟩⟩ else if x.f0 = 3 then ⟨4, 0, x.f2⟩
  else if x.f0 = 16 ∨ x.f0 = 17 ∨ x.f0 = 18 then ⟨x.f0 - 11, 0, x.f2⟩
  else if x.f0 = 4 then ⟨13, (x.f3.length : Int), x.f2⟩ else if x.f0 = 5 then ⟨12, 0, ⟨#[]⟩⟩
  else if x.f0 = 14 then ⟨9, 0, ⟨#[]⟩⟩ else if x.f0 = 15 then ⟨10, 0, ⟨#[]⟩⟩
  else if x.f0 = 12 ∨ x.f0 = 13 then ⟨11, x.f0 + 9, (rd_T26 x.f3 1).f2⟩ else ⟨8, x.f0, ⟨#[]⟩⟩
mutual
def codeE : S26 → List S89
  | ⟨a, b, c, ks⟩ => (if a = 12 ∨ a = 13 then codeH ks else codeS ks) ++ [lastI ⟨a, b, c, ks⟩]
def codeS : List S26 → List S89
  | [] => []
  | x :: l => codeE x ++ codeS l
def codeH : List S26 → List S89
  | [] => []
  | x :: _ => codeE x
end
theorem codeE_eq (x : S26) : codeE x = (if x.f0 = 12 ∨ x.f0 = 13 then codeH x.f3 else codeS x.f3) ++ [lastI x] := by cases x; rw [codeE]
theorem codeS_take : ∀ (l : List S26) (i : Nat) (h : i < l.length), codeS (l.take (i + 1)) = codeS (l.take i) ++ codeE l[i]
  | [], i, h => by simp at h
  | x :: l, 0, h => by simp [codeS]
  | x :: l, i + 1, h => by
    rw [List.take_succ_cons, List.take_succ_cons, codeS, codeS, codeS_take l i (by simpa using h), List.append_assoc]
    rfl
theorem codeH_take (l : List S26) : codeH l = codeS (l.take 1) := by
  cases l with
  | nil => simp [codeH, codeS]
  | cons x l => simp [codeH, codeS]
mutual
theorem len_codeE : ∀ x : S26, (codeE x).length ≤ 1 + tE x
  | ⟨a, b, c, ks⟩ => by
    rw [codeE, List.length_append, tE]
    have h1 := len_codeS ks
    have h2 := len_codeH ks
    split <;> simp only [List.length_singleton] <;> omega
theorem len_codeS : ∀ l : List S26, (codeS l).length ≤ tS l
  | [] => by simp [codeS, tS]
  | x :: l => by
    rw [codeS, List.length_append, tS]
    have h1 := len_codeE x
    have h2 := len_codeS l
    omega
theorem len_codeH : ∀ l : List S26, (codeH l).length ≤ tS l
  | [] => by simp [codeH, tS]
  | x :: l => by
    rw [codeH, tS]
    have h1 := len_codeE x
    omega
end
theorem tS_mem : ∀ (l : List S26) (i : Nat) (h : i < l.length), 1 + tE l[i] ≤ tS l
  | [], i, h => by simp at h
  | x :: l, 0, h => by rw [tS]; simp only [List.getElem_cons_zero]; omega
  | x :: l, i + 1, h => by
    rw [tS]
    have := tS_mem l i (by simpa using h)
    simp only [List.getElem_cons_succ]
    omega
theorem okS_mem : ∀ (l : List S26) (i : Nat) (h : i < l.length), okS l = true → okE l[i] = true
  | [], i, h, _ => by simp at h
  | x :: l, 0, h, ho => by rw [okS, Bool.and_eq_true] at ho; exact ho.1
  | x :: l, i + 1, h, ho => by
    rw [okS, Bool.and_eq_true] at ho
    exact okS_mem l i (by simpa using h) ho.2
theorem tS_take (l : List S26) (i : Nat) : tS (l.take i) ≤ tS l := by
  induction l generalizing i with
  | nil => simp
  | cons x l ih =>
    cases i with
    | zero => simp [tS]
    | succ i => rw [List.take_succ_cons, tS, tS]; have := ih i; omega
/-- What a valid node is. -/
theorem shE_kinds {x : S26} (h : shE x = true) : (x.f0 = 12 ∨ x.f0 = 13 → x.f3.length = 2) ∧ 1 ≤ x.f0 ∧ x.f0 ≤ 18 ∧ (x.f0 = 2 → 0 ≤ x.f1 ∧ x.f1 ≤ 1000000000000) := by
  unfold shE at h
  split at h
  · rename_i c; rw [c]; exact ⟨fun h => by omega, by omega, by omega, fun h => by omega⟩
  · split at h
    · rename_i c
      simp only [Bool.and_eq_true, decide_eq_true_eq] at h
      exact ⟨fun h => by omega, by omega, by omega, fun _ => h.2.2⟩
    · split at h
      · rename_i c; exact ⟨fun h => by omega, by omega, by omega, fun h => by omega⟩
      · split at h
        · rename_i c; exact ⟨fun h => by omega, by omega, by omega, fun h => by omega⟩
        · simp only [Bool.and_eq_true] at h
          have h2 := h.2
          split at h2
          · rename_i c
            simp only [Bool.and_eq_true, decide_eq_true_eq] at h2
            exact ⟨fun _ => h2.1, by omega, by omega, fun h => by omega⟩
          · split at h2
            · rename_i c; exact ⟨fun h => by omega, by omega, by omega, fun h => by omega⟩
            · simp only [Bool.and_eq_true, decide_eq_true_eq] at h2
              exact ⟨fun h => by omega, by omega, by omega, fun h => by omega⟩
theorem spec_last_j3 (x : S26) (acc : List S89) (hl : acc.length < 4398046511104) (b : Bool) (hb : b = decide (x.f0 = 14 ∨ x.f0 = 15)) (h : 4 ≤ x.f0 ∧ x.f0 ≤ 15) (hn : ¬ (x.f0 = 12 ∨ x.f0 = 13)) :
    Ev (fun k => spec_l24Expr.j3 k [x] acc x.f0 b) (acc ++ [lastI x]) := by
  obtain ⟨f0, f1, f2, ks⟩ := x
  simp only at h hn hb ⊢
  refine ev_shift ?_
  simp only [spec_l24Expr.j3, rd26_0]
  by_cases c : f0 = 14 ∨ f0 = 15
  · refine ev_pos (by rw [hb]; exact decide_eq_true c) (ev_pos (one_pos _) (ev_pos hl ?_))
    have e : wrap64 (wrap64 (9 + f0) - 14) = f0 - 5 := by rw [wrap_id (x := 9 + f0) (by omega) (by omega), wrap_id (by omega) (by omega)]; omega
    rw [e]
    have : lastI ⟨f0, f1, f2, ks⟩ = ⟨f0 - 5, 0, ⟨#[]⟩⟩ := by
      unfold lastI
      simp only
      rcases c with c | c <;> subst c <;> rfl
    rw [this]
    exact ev_some _
  · refine ev_neg (by rw [hb, decide_eq_false c]; decide) ?_
    by_cases c5 : f0 = 5
    · subst c5; exact ev_pos rfl (ev_pos hl (ev_some _))
    · refine ev_neg c5 ?_
      by_cases c4 : f0 = 4
      · subst c4; exact ev_pos rfl (ev_pos (one_pos _) (ev_pos hl (ev_some _)))
      · refine ev_neg c4 (ev_pos (one_pos _) (ev_pos hl ?_))
        have : lastI ⟨f0, f1, f2, ks⟩ = ⟨8, f0, ⟨#[]⟩⟩ := by
          unfold lastI
          simp only
          rw [if_neg (by omega), if_neg (by omega), if_neg (by omega), if_neg (by omega), if_neg c4, if_neg c5, if_neg (by omega), if_neg (by omega), if_neg hn]
        rw [this]
        exact ev_some _
theorem spec_last_j2 (x : S26) (acc : List S89) (hl : acc.length < 4398046511104) (b : Bool) (hb : b = decide (x.f0 = 16 ∨ x.f0 = 17 ∨ x.f0 = 18)) (h : 4 ≤ x.f0 ∧ x.f0 ≤ 18) (hn : ¬ (x.f0 = 12 ∨ x.f0 = 13)) :
    Ev (fun k => spec_l24Expr.j2 k [x] acc x.f0 b) (acc ++ [lastI x]) := by
  refine ev_shift ?_
  simp only [spec_l24Expr.j2, rd26_0]
  by_cases c : x.f0 = 16 ∨ x.f0 = 17 ∨ x.f0 = 18
  · refine ev_pos (by rw [hb]; exact decide_eq_true c) (ev_pos (one_pos _) (ev_pos hl ?_))
    have e : wrap64 (wrap64 (5 + x.f0) - 16) = x.f0 - 11 := by rw [wrap_id (x := 5 + x.f0) (by omega) (by omega), wrap_id (by omega) (by omega)]; omega
    rw [e]
    have : lastI x = ⟨x.f0 - 11, 0, x.f2⟩ := by
      unfold lastI
      rw [if_neg (by omega), if_neg (by omega), if_neg (by omega), if_pos c]
    rw [this]
    exact ev_some _
  · refine ev_neg (by rw [hb, decide_eq_false c]; decide) ?_
    by_cases c14 : x.f0 = 14
    · exact ev_pos c14 (spec_last_j3 x acc hl _ (by rw [decide_eq_true (Or.inl c14)]; exact beq_iff_eq.2 c14) (by omega) hn)
    · refine ev_neg c14 (spec_last_j3 x acc hl _ ?_ (by omega) hn)
      rw [Bool.eq_iff_iff, beq_iff_eq, decide_eq_true_eq]
      exact ⟨Or.inr, fun h => h.resolve_left c14⟩
theorem spec_code_ev : ∀ (n : Nat) (x : S26), smV n x → okE x = true → 1 + tE x ≤ 60 → Ev (fun k => spec_l24Expr.f k [x]) (codeE x) := by
  intro n
  induction n with
  | zero => exact fun x h => h.elim
  | succ n ih =>
    intro x h ho ht
    have hl : x.f3.length ≤ 1048576 := h.2.1
    have ho2 := ho
    rw [okE_eq, Bool.and_eq_true] at ho2
    obtain ⟨hk2, hk0, hk1, _⟩ := shE_kinds ho2.1
    rw [tE_eq] at ht
    have kid : ∀ i (hi : i < x.f3.length), Ev (fun k => spec_l24Expr.f k [x.f3[i]]) (codeE x.f3[i]) := fun i hi => ih _ (smV_mem h hi) (okS_mem _ i hi ho2.2) (by have := tS_mem x.f3 i hi; omega)
    refine ev_shift ?_
    simp only [spec_l24Expr.f, rd26_0, Option.bind_some]
    refine ev_pos (one_pos _) ?_
    by_cases hc : x.f0 = 12 ∨ x.f0 = 13
    · have key : ∀ b, b = true → Ev (fun k => spec_l24Expr.j0 k [x] [] b) (codeE x) := by
        intro b hb
        subst hb
        have l2 := hk2 hc
        refine ev_shift ?_
        simp only [spec_l24Expr.j0, rd26_0, Option.bind_some]
        rw [show rd_T26 x.f3 0 = x.f3[0] from rd26 x.f3 0 (by omega)]
        have c0 := kid 0 (by omega)
        have n0 := len_codeE x.f3[0]
        have m0 := tS_mem x.f3 0 (by omega)
        refine ev_pos trivial (ev_pos (one_pos _) (ev_pos (by omega) (ev_bind c0 (ev_pos (by simp only [List.length_nil]; omega) (ev_pos (by omega) (ev_pos (by simp only [List.nil_append]; omega) ?_))))))
        have e : wrap64 (wrap64 (21 + x.f0) - 12) = x.f0 + 9 := by rw [wrap_id (x := 21 + x.f0) (by omega) (by omega), wrap_id (by omega) (by omega)]; omega
        have e2 : codeE x = codeE x.f3[0] ++ [⟨11, x.f0 + 9, (rd_T26 x.f3 1).f2⟩] := by
          rw [codeE_eq, if_pos hc, codeH_take]
          have := codeS_take x.f3 0 (by omega)
          rw [this, List.take_zero, codeS, List.nil_append]
          congr 2
          unfold lastI
          rw [if_neg (by omega), if_neg (by omega), if_neg (by omega), if_neg (by omega), if_neg (by omega), if_neg (by omega), if_neg (by omega), if_neg (by omega), if_pos hc]
        rw [e, e2, List.nil_append]
        exact ev_some _
      rcases hc with c | c
      · exact ev_pos c (key _ rfl)
      · exact ev_neg (by omega) (key _ (beq_iff_eq.2 c))
    · have loop : ∀ d i : Nat, i + d = x.f3.length → Ev (fun k => spec_l24Expr.l0 k [x] (codeS (x.f3.take i)) (i : Int)) (codeE x) := by
        intro d
        induction d with
        | zero =>
          intro i hi
          have e0 : x.f3.take i = x.f3 := List.take_of_length_le (by omega)
          rw [e0]
          have hlen : (codeS x.f3).length < 4398046511104 := by have := len_codeS x.f3; omega
          have ec : codeE x = codeS x.f3 ++ [lastI x] := by rw [codeE_eq, if_neg hc]
          rw [ec]
          refine ev_shift ?_
          simp only [spec_l24Expr.l0, rd26_0]
          refine ev_pos (one_pos _) (ev_neg (by omega) ?_)
          by_cases c1 : x.f0 = 1
          · have : lastI x = ⟨2, 0, x.f2⟩ := by unfold lastI; rw [if_pos c1]
            rw [this]; exact ev_pos c1 (ev_pos hlen (ev_some _))
          refine ev_neg c1 ?_
          by_cases c2 : x.f0 = 2
          · have : lastI x = ⟨3, x.f1, ⟨#[]⟩⟩ := by unfold lastI; rw [if_neg c1, if_pos c2]
            rw [this]; exact ev_pos c2 (ev_pos hlen (ev_some _))
          refine ev_neg c2 ?_
          by_cases c3 : x.f0 = 3
          · have : lastI x = ⟨4, 0, x.f2⟩ := by unfold lastI; rw [if_neg c1, if_neg c2, if_pos c3]
            rw [this]; exact ev_pos c3 (ev_pos hlen (ev_some _))
          refine ev_neg c3 ?_
          have kk : 4 ≤ x.f0 ∧ x.f0 ≤ 18 := by omega
          by_cases c16 : x.f0 = 16
          · exact ev_pos c16 (spec_last_j2 x _ hlen _ (by rw [decide_eq_true (Or.inl c16)]; exact beq_iff_eq.2 c16) kk hc)
          refine ev_neg c16 ?_
          by_cases c17 : x.f0 = 17
          · exact ev_pos c17 (spec_last_j2 x _ hlen _ (by rw [decide_eq_true (Or.inr (Or.inl c17))]; exact beq_iff_eq.2 c17) kk hc)
          refine ev_neg c17 (spec_last_j2 x _ hlen _ ?_ kk hc)
          rw [Bool.eq_iff_iff, beq_iff_eq, decide_eq_true_eq]
          exact ⟨fun h => Or.inr (Or.inr h), fun h => (h.resolve_left c16).resolve_left c17⟩
        | succ d hd =>
          intro i hi
          have hlt : i < x.f3.length := by omega
          refine ev_shift ?_
          simp only [spec_l24Expr.l0, rd26_0]
          rw [rd26 x.f3 i hlt, wrap_up (by omega) (show (i : Int) < (x.f3.length : Int) by omega) (by omega), show (i : Int) + 1 = ((i + 1 : Nat) : Int) from by omega]
          have a1 := len_codeS (x.f3.take i)
          have a2 := tS_take x.f3 i
          have a3 := len_codeE x.f3[i]
          have a4 := tS_mem x.f3 i hlt
          refine ev_pos (one_pos _) (ev_pos (by omega) (ev_pos (by omega) (ev_bind (kid i hlt) (ev_pos (by omega) ?_))))
          have := hd (i + 1) (by omega)
          rw [codeS_take x.f3 i hlt] at this
          exact this
      have key : Ev (fun k => spec_l24Expr.j0 k [x] [] (x.f0 == 13)) (codeE x) := by
        refine ev_shift ?_
        simp only [spec_l24Expr.j0]
        rw [show (x.f0 == 13) = false from beq_eq_false_iff_ne.2 (fun e => hc (.inr e))]
        refine ev_neg (by decide) ?_
        have := loop x.f3.length 0 (by omega)
        rw [List.take_zero, codeS] at this
        exact this
      exact ev_neg (fun e => hc (.inl e)) key
theorem impl_last_ev (x : S26) (hl : x.f3.length ≤ 1048576) (hk : shE x = true) : Ev (fun k => impl_Expr_lastInstr.f k x.f0 x.f1 x.f2 x.f3) ((lastI x).f0, (lastI x).f1, (lastI x).f2) := by
  obtain ⟨hk2, hk0, hk1, _⟩ := shE_kinds hk
  obtain ⟨f0, f1, f2, ks⟩ := x
  simp only at hk2 hk0 hk1 hl ⊢
  simp only [impl_Expr_lastInstr.f]
  by_cases c1 : f0 = 1
  · subst c1; exact ev_pos rfl (ev_some _)
  refine ev_neg c1 ?_
  by_cases c2 : f0 = 2
  · subst c2; exact ev_pos rfl (ev_some _)
  refine ev_neg c2 ?_
  by_cases c3 : f0 = 3
  · subst c3; exact ev_pos rfl (ev_some _)
  refine ev_neg c3 ?_
  have j0 : ∀ b, b = decide (f0 = 16 ∨ f0 = 17 ∨ f0 = 18) → Ev (fun k => impl_Expr_lastInstr.j0 k f0 b f0 f1 f2 ks) ((lastI ⟨f0, f1, f2, ks⟩).f0, (lastI ⟨f0, f1, f2, ks⟩).f1, (lastI ⟨f0, f1, f2, ks⟩).f2) := by
    intro b hb
    refine ev_shift ?_
    simp only [impl_Expr_lastInstr.j0]
    by_cases c : f0 = 16 ∨ f0 = 17 ∨ f0 = 18
    · have : lastI ⟨f0, f1, f2, ks⟩ = ⟨f0 - 11, 0, f2⟩ := by
        unfold lastI
        simp only
        rw [if_neg c1, if_neg c2, if_neg c3, if_pos c]
      have e : wrap64 (wrap64 (f0 - 16) + 5) = f0 - 11 := by rw [wrap_id (x := f0 - 16) (by omega) (by omega), wrap_id (by omega) (by omega)]; omega
      rw [this, e]
      exact ev_pos (by rw [hb]; exact decide_eq_true c) (ev_some _)
    · refine ev_neg (by rw [hb, decide_eq_false c]; decide) ?_
      by_cases c4 : f0 = 4
      · subst c4; exact ev_pos rfl (ev_some _)
      refine ev_neg c4 ?_
      by_cases c5 : f0 = 5
      · subst c5; exact ev_pos rfl (ev_some _)
      refine ev_neg c5 ?_
      by_cases c14 : f0 = 14
      · subst c14; exact ev_pos rfl (ev_some _)
      refine ev_neg c14 ?_
      by_cases c15 : f0 = 15
      · subst c15; exact ev_pos rfl (ev_some _)
      refine ev_neg c15 ?_
      by_cases cc : f0 = 12 ∨ f0 = 13
      · have l2 := hk2 cc
        have : lastI ⟨f0, f1, f2, ks⟩ = ⟨11, f0 + 9, (rd_T26 ks 1).f2⟩ := by
          unfold lastI
          simp only
          rw [if_neg c1, if_neg c2, if_neg c3, if_neg c, if_neg c4, if_neg c5, if_neg c14, if_neg c15, if_pos cc]
        have e : wrap64 (wrap64 (f0 - 12) + 21) = f0 + 9 := by rw [wrap_id (x := f0 - 12) (by omega) (by omega), wrap_id (by omega) (by omega)]; omega
        rw [this, e]
        rcases cc with c12 | c13
        · exact ev_pos c12 (ev_pos (by omega) (ev_some _))
        · exact ev_neg (by omega) (ev_pos c13 (ev_pos (by omega) (ev_some _)))
      · have : lastI ⟨f0, f1, f2, ks⟩ = ⟨8, f0, ⟨#[]⟩⟩ := by
          unfold lastI
          simp only
          rw [if_neg c1, if_neg c2, if_neg c3, if_neg c, if_neg c4, if_neg c5, if_neg c14, if_neg c15, if_neg cc]
        rw [this]
        exact ev_neg (fun e => cc (.inl e)) (ev_neg (fun e => cc (.inr e)) (ev_some _))
  by_cases c16 : f0 = 16
  · exact ev_pos c16 (j0 _ (by rw [decide_eq_true (Or.inl c16)]; exact beq_iff_eq.2 c16))
  refine ev_neg c16 ?_
  by_cases c17 : f0 = 17
  · exact ev_pos c17 (j0 _ (by rw [decide_eq_true (Or.inr (Or.inl c17))]; exact beq_iff_eq.2 c17))
  refine ev_neg c17 (j0 _ ?_)
  rw [Bool.eq_iff_iff, beq_iff_eq, decide_eq_true_eq]
  exact ⟨fun h => Or.inr (Or.inr h), fun h => (h.resolve_left c16).resolve_left c17⟩
theorem impl_list_ev (l : List S26) (hl : l.length ≤ 1048576) (ht : tS l ≤ 60) (ih : ∀ i (hi : i < l.length), Ev (fun k => impl_Expr_code.f k l[i].f0 l[i].f1 l[i].f2 l[i].f3) (codeE l[i])) : Ev (fun k => impl_codeOf.f k l) (codeS l) := by
  have loop : ∀ d i : Nat, i + d = l.length → Ev (fun k => impl_codeOf.l0 k (codeS (l.take i)) l (l.length : Int) (i : Int)) (codeS l) := by
    intro d
    induction d with
    | zero =>
      intro i hi
      rw [List.take_of_length_le (by omega)]
      refine ev_shift ?_
      simp only [impl_codeOf.l0]
      exact ev_neg (by omega) (ev_some _)
    | succ d hd =>
      intro i hi
      have hlt : i < l.length := by omega
      refine ev_shift ?_
      simp only [impl_codeOf.l0]
      rw [rd26 l i hlt, wrap_up (by omega) (show (i : Int) < (l.length : Int) by omega) (by omega), show (i : Int) + 1 = ((i + 1 : Nat) : Int) from by omega]
      have a1 := len_codeS (l.take i)
      have a2 := tS_take l i
      have a3 := len_codeE l[i]
      have a4 := tS_mem l i hlt
      refine ev_pos (by omega) (ev_pos (by omega) (ev_pos (by omega) (ev_bind (ih i hlt) (ev_pos (by omega) ?_))))
      have := hd (i + 1) (by omega)
      rw [codeS_take l i hlt] at this
      exact this
  refine ev_shift ?_
  simp only [impl_codeOf.f]
  have := loop l.length 0 (by omega)
  rw [List.take_zero, codeS] at this
  exact this
theorem impl_code_ev : ∀ (n : Nat) (x : S26), smV n x → okE x = true → 1 + tE x ≤ 60 → Ev (fun k => impl_Expr_code.f k x.f0 x.f1 x.f2 x.f3) (codeE x) := by
  intro n
  induction n with
  | zero => exact fun x h => h.elim
  | succ n ih =>
    intro x h ho ht
    have hl : x.f3.length ≤ 1048576 := h.2.1
    have ho2 := ho
    rw [okE_eq, Bool.and_eq_true] at ho2
    obtain ⟨hk2, hk0, hk1, _⟩ := shE_kinds ho2.1
    have ht2 := ht
    rw [tE_eq] at ht2
    have kid : ∀ i (hi : i < x.f3.length), Ev (fun k => impl_Expr_code.f k x.f3[i].f0 x.f3[i].f1 x.f3[i].f2 x.f3[i].f3) (codeE x.f3[i]) := fun i hi => ih _ (smV_mem h hi) (okS_mem _ i hi ho2.2) (by have := tS_mem x.f3 i hi; omega)
    have hlast := impl_last_ev x hl ho2.1
    have j0 : ∀ b, b = decide (x.f0 = 12 ∨ x.f0 = 13) → Ev (fun k => impl_Expr_code.j0 k x.f3 b x.f0 x.f1 x.f2 x.f3) (codeE x) := by
      intro b hb
      refine ev_shift ?_
      simp only [impl_Expr_code.j0]
      by_cases c : x.f0 = 12 ∨ x.f0 = 13
      · have l2 := hk2 c
        have hlist := impl_list_ev (x.f3.take 1) (by rw [List.length_take]; omega) (by have := tS_take x.f3 1; omega) (fun i hi => by
          have hi2 : i < x.f3.length := by rw [List.length_take] at hi; omega
          have := kid i hi2
          rw [List.getElem_take]
          exact this)
        refine ev_pos (by rw [hb]; exact decide_eq_true c) (ev_pos (by omega) (ev_bind hlist (ev_bind hlast (ev_pos ?_ ?_))))
        · have a1 := len_codeS (x.f3.take 1)
          have a2 := tS_take x.f3 1
          omega
        · rw [codeE_eq, if_pos c, codeH_take]
          exact ev_some _
      · have hlist := impl_list_ev x.f3 hl (by omega) kid
        refine ev_neg (by rw [hb, decide_eq_false c]; decide) (ev_bind hlist (ev_bind hlast (ev_pos ?_ ?_)))
        · have a1 := len_codeS x.f3
          omega
        · rw [codeE_eq, if_neg c]
          exact ev_some _
    refine ev_shift ?_
    simp only [impl_Expr_code.f]
    by_cases c12 : x.f0 = 12
    · exact ev_pos c12 (j0 _ (by rw [decide_eq_true (Or.inl c12)]))
    · refine ev_neg c12 (j0 _ ?_)
      rw [Bool.eq_iff_iff, beq_iff_eq, decide_eq_true_eq]
      exact ⟨Or.inr, fun h => h.resolve_left c12⟩
theorem fine_last (n : Nat) (x : S26) (h : smV (n + 1) x) (hk : shE x = true) : Fine (lastI x) := by
  obtain ⟨hk2, hk0, hk1, hk3⟩ := shE_kinds hk
  have hs : x.f2.size ≤ 1048576 := h.1
  have hl : x.f3.length ≤ 1048576 := h.2.1
  have he : (⟨#[]⟩ : ByteArray).size ≤ 1048576 := by decide
  have mk : ∀ (a b : Int) (t : ByteArray), 0 ≤ a → a ≤ 1000000000000 → 0 ≤ b → b ≤ 1000000000000 → t.size ≤ 1048576 → Fine (⟨a, b, t⟩ : S89) := fun a b t h0 h1 h2 h3 h4 => ⟨⟨(by omega : -9223372036854775808 ≤ a), (by omega : a ≤ 9223372036854775807)⟩, ⟨(by omega : -9223372036854775808 ≤ b), (by omega : b ≤ 9223372036854775807)⟩, h4⟩
  unfold lastI
  split
  · exact mk _ _ _ (by omega) (by omega) (by omega) (by omega) hs
  split
  · rename_i c; have := hk3 c; exact mk _ _ _ (by omega) (by omega) (by omega) (by omega) he
  split
  · exact mk _ _ _ (by omega) (by omega) (by omega) (by omega) hs
  split
  · exact mk _ _ _ (by omega) (by omega) (by omega) (by omega) hs
  split
  · exact mk _ _ _ (by omega) (by omega) (by omega) (by omega) hs
  split
  · exact mk _ _ _ (by omega) (by omega) (by omega) (by omega) he
  split
  · exact mk _ _ _ (by omega) (by omega) (by omega) (by omega) he
  split
  · exact mk _ _ _ (by omega) (by omega) (by omega) (by omega) he
  split
  · rename_i c
    have l2 := hk2 c
    have e : rd_T26 x.f3 1 = x.f3[1] := rd26 x.f3 1 (by omega)
    have hm := smV_mem h (i := 1) (by omega)
    have hz : (rd_T26 x.f3 1).f2.size ≤ 1048576 := by
      rw [e]
      cases n with
      | zero => exact hm.elim
      | succ n => exact hm.1
    exact mk _ _ _ (by omega) (by omega) (by omega) (by omega) hz
  · exact mk _ _ _ (by omega) (by omega) (by omega) (by omega) he
theorem codeS_mem : ∀ (l : List S26) (y : S89), y ∈ codeS l → ∃ x, x ∈ l ∧ y ∈ codeE x
  | [], y, h => by rw [codeS] at h; cases h
  | x :: l, y, h => by
    rw [codeS, List.mem_append] at h
    rcases h with h | h
    · exact ⟨x, by simp, h⟩
    · obtain ⟨z, hz, hy⟩ := codeS_mem l y h
      exact ⟨z, by simp [hz], hy⟩
theorem okS_all {l : List S26} (h : okS l = true) {x : S26} (hx : x ∈ l) : okE x = true := by
  obtain ⟨i, hi, rfl⟩ := List.getElem_of_mem hx
  exact okS_mem l i hi h
theorem fine_code : ∀ (n : Nat) (x : S26), smV n x → okE x = true → ∀ y, y ∈ codeE x → Fine y := by
  intro n
  induction n with
  | zero => exact fun x h => h.elim
  | succ n ih =>
    intro x h ho y hy
    have ho2 := ho
    rw [okE_eq, Bool.and_eq_true] at ho2
    rw [codeE_eq, List.mem_append] at hy
    rcases hy with hy | hy
    · have : ∃ z, z ∈ x.f3 ∧ y ∈ codeE z := by
        split at hy
        · rw [codeH_take] at hy
          obtain ⟨z, hz, hy⟩ := codeS_mem _ y hy
          exact ⟨z, List.mem_of_mem_take hz, hy⟩
        · exact codeS_mem _ y hy
      obtain ⟨z, hz, hy⟩ := this
      exact ih z (h.2.2 z hz) (okS_all ho2.2 hz) y hy
    · rw [List.mem_singleton] at hy
      subst hy
      exact fine_last n x h ho2.1
def compE (x : S26) : List S89 := if validE x = true then codeE x else []
theorem fine_comp (n : Nat) (x : S26) (h : smV n x) : Fine (compE x) := by
  unfold compE
  split
  · rename_i c
    unfold validE at c
    rw [Bool.and_eq_true, decide_eq_true_eq] at c
    have := len_codeE x
    exact ⟨by omega, fun y hy => fine_code n x h c.1 y hy⟩
  · exact ⟨by simp, fun y hy => by cases hy⟩
theorem spec_comp_ev (n : Nat) (x : S26) (h : smV n x) (ht : (tE x : Int) ≤ 1048576) : Ev (fun k => spec_CompileExpr.f k x.f0 x.f1 x.f2 x.f3) (compE x) := by
  simp only [spec_CompileExpr.f]
  refine ev_bind (spec_valid_ev n x h ht) ?_
  unfold compE
  cases c : validE x with
  | true =>
    have d := c
    unfold validE at d
    rw [Bool.and_eq_true, decide_eq_true_eq] at d
    have := spec_code_ev n x h d.1 (by omega)
    obtain ⟨f0, f1, f2, ks⟩ := x
    exact ev_pos rfl (ev_bind this (ev_some _))
  | false => exact ev_neg (by decide) (ev_some _)
theorem impl_comp_ev (n : Nat) (x : S26) (h : smV n x) : Ev (fun k => impl_CompileExpr.f k x.f0 x.f1 x.f2 x.f3) (compE x) := by
  simp only [impl_CompileExpr.f]
  refine ev_bind (impl_valid_ev n x h) ?_
  unfold compE
  cases c : validE x with
  | true =>
    have d := c
    unfold validE at d
    rw [Bool.and_eq_true, decide_eq_true_eq] at d
    exact ev_pos rfl (ev_bind (impl_code_ev n x h d.1 (by omega)) (ev_some _))
  | false => exact ev_neg (by decide) (ev_some _)
theorem FnExactCompileExpr : laws_FnExactCompileExpr.Pure := by
  intro x0 w0
  suffices hh : Ev (fun k => laws_FnExactCompileExpr.f k x0.f0 x0.f1 x0.f2 x0.f3) true by
    obtain ⟨K, hK⟩ := hh
    exact ⟨K, hK K (Nat.le_refl _)⟩
  simp only [laws_FnExactCompileExpr.f]
  obtain ⟨t1, e1, b1, q1⟩ := sz_ex x0 w0 1048576 (by omega) (by omega)
  refine ev_bind e1 (ev_skip fun c1 => ?_)
  have q : smG 1048577 x0 := q1 (by omega)
  have tot : (tG x0 : Int) ≤ 1048576 := by
    obtain ⟨K, hK⟩ := e1
    have := (sz_tot K).1 x0 1048576 t1 w0 (by omega) (by omega) (hK K (Nat.le_refl _)) (by omega)
    omega
  obtain ⟨v, h0, s0⟩ := to_ex 1048577 x0 q
  have ht : (tE v : Int) ≤ 1048576 := by
    obtain ⟨K, hK⟩ := h0
    have := (to_tot K).1 x0 _ (hK K (Nat.le_refl _))
    rw [tE_eq]
    simp only at this
    omega
  have hs := spec_comp_ev _ v s0 ht
  have hi := impl_comp_ev _ v s0
  have fr := fine_comp _ v s0
  have hq := laws_eqInstrS_rf _ fr
  obtain ⟨ys, hm, lm, hy⟩ := laws_markInstrS_mk (compE v) fr 1 (by omega) (by omega)
  have hl := fr.len
  have hh := laws_heldInstrS_hd ys (by omega) 1 (by omega) (by omega) hy
  rw [lm] at hh
  have hx := eq_ex _ v s0
  obtain ⟨f0, f1, f2, ks⟩ := v
  rw [tE] at ht
  have hc := cS_eq _ ks (Nat.lt_succ_self _) 1 (by omega) (by omega)
  refine ev_bind h0 (ev_bind hs (ev_bind h0 (ev_bind hi (ev_bind hq (ev_pos rfl (ev_bind h0 (ev_bind hx (ev_pos rfl ?_))))))))
  simp only [laws_markExpr.f, Option.bind_some, hc]
  refine ev_neg (by omega) (ev_bind hq (ev_shift ?_))
  simp only [laws_FnExactCompileExpr.j0]
  refine ev_neg (by decide) (ev_bind hm (ev_bind hh (ev_neg (by omega) (ev_pos rfl (ev_bind h0 (ev_bind hi (ev_bind hq (ev_pos rfl (ev_bind hh (ev_neg (by omega) (ev_pos rfl (ev_some _))))))))))))
end Go.Proofs.Ytmebimamjgnlpaa.Pure
