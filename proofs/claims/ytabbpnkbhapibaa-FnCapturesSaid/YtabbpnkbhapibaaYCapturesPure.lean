/- The assignments of a match are the immediate ones and then the conditional ones; of each name only the last one remains, and asking again changes nothing; for every drawn match; no condition. -/
import Derived.Test.YtabbpnkbhapibaaYCapturesVCaptures
import Derived.Test.YtabbpnkbhapibaaYCapturesVFinals
import Derived.Test.YtabbpnkbhapibaaYCapturesVDraws
import Derived.Test.YtabbpnkbhapibaaYFcP0
import Derived.Test.YtabbpnkbhapibaaYFcP15
namespace Go.Proofs.Ytabbpnkbhapibaa.Pure
open Go.Proofs.Ytabbpnkbhapibaa.PureFnCaptures Go.RowKit Go.Proofs.YtabbpnkbhapibaaG Go.Proofs.Ytabbpnkbhapibaa.PFnExactFinalOf Go.Proofs.YtabbpnkbhapibaaW.PrintWords Go.Proofs.YtabbpnkbhapibaaW.PrintLast Go.Proofs.YtabbpnkbhapibaaW.PrintMore

def nmA (o : S37) : List UInt8 := o.f0.toList
theorem hasN_iff (x : ByteArray) (o : S37) : hasN x o = true ↔ nmA o = x.toList := by simp [hasN, nmA]
theorem hasN_no (x : ByteArray) (o : S37) : hasN x o = false ↔ nmA o ≠ x.toList := by
  rw [← Bool.not_eq_true, hasN_iff]
/-- What is kept: one of each name, and that is the last. -/
def distA (out : List S37) : Prop := ∀ i j (hi : i < out.length) (hj : j < out.length), i ≠ j → nmA out[i] ≠ nmA out[j]
def lastA (pre out : List S37) : Prop := ∀ i (hi : i < out.length), ∃ p, ∃ hp : p < pre.length, pre[p] = out[i] ∧ ∀ q (hq : q < pre.length), p < q → nmA pre[q] ≠ nmA out[i]
theorem stepF_cases (out : List S37) (a : S37) : (∃ k, ∃ hk : k < out.length, nmA out[k] = nmA a ∧ stepF out a = out.set k a) ∨ ((∀ j (hj : j < out.length), nmA out[j] ≠ nmA a) ∧ stepF out a = out ++ [a]) := by
  unfold stepF
  cases e : out.findIdx? (hasN a.f0) with
  | some k =>
    rw [List.findIdx?_eq_some_iff_getElem] at e
    obtain ⟨hk, hp, _⟩ := e
    exact .inl ⟨k, hk, (hasN_iff _ _).1 hp, rfl⟩
  | none =>
    rw [List.findIdx?_eq_none_iff] at e
    exact .inr ⟨fun j hj => (hasN_no _ _).1 (e _ (List.getElem_mem hj)), rfl⟩
theorem step_inv (pre out : List S37) (a : S37) (hd : distA out) (hl : lastA pre out) : distA (stepF out a) ∧ lastA (pre ++ [a]) (stepF out a) := by
  rcases stepF_cases out a with ⟨k, hk, hn, e⟩ | ⟨hn, e⟩
  · rw [e]
    have nm : ∀ i (hi : i < (out.set k a).length), nmA (out.set k a)[i] = nmA (out[i]'(by simpa using hi)) := by
      intro i hi
      by_cases c : k = i
      · subst c; rw [List.getElem_set_self]; exact hn.symm
      · rw [List.getElem_set_ne c]
    refine ⟨fun i j hi hj hij => ?_, fun i hi => ?_⟩
    · rw [nm i hi, nm j hj]; exact hd i j _ _ hij
    · have hi' : i < out.length := by simpa using hi
      by_cases c : k = i
      · subst c
        refine ⟨pre.length, by simp, ?_, fun q hq hpq => ?_⟩
        · rw [List.getElem_set_self]; simp
        · simp at hq; omega
      · obtain ⟨p, hp, h1, h2⟩ := hl i hi'
        refine ⟨p, by simp; omega, ?_, fun q hq hpq => ?_⟩
        · rw [List.getElem_append_left hp, List.getElem_set_ne c]; exact h1
        · rw [List.getElem_set_ne c]
          by_cases d : q < pre.length
          · rw [List.getElem_append_left d]; exact h2 q d hpq
          · have dq : q = pre.length := by simp at hq; omega
            subst dq
            rw [List.getElem_append_right (Nat.le_refl _)]
            simp only [Nat.sub_self, List.getElem_cons_zero]
            rw [← hn]; exact hd k i hk hi' c
  · rw [e]
    refine ⟨fun i j hi hj hij => ?_, fun i hi => ?_⟩
    · by_cases ci : i < out.length <;> by_cases cj : j < out.length
      · rw [List.getElem_append_left ci, List.getElem_append_left cj]; exact hd i j ci cj hij
      · have : j = out.length := by simp at hj; omega
        subst this
        rw [List.getElem_append_left ci, List.getElem_append_right (Nat.le_refl _)]
        simpa using hn i ci
      · have : i = out.length := by simp at hi; omega
        subst this
        rw [List.getElem_append_left cj, List.getElem_append_right (Nat.le_refl _)]
        have := hn j cj
        simpa using this.symm
      · simp at hi hj; omega
    · by_cases ci : i < out.length
      · obtain ⟨p, hp, h1, h2⟩ := hl i ci
        refine ⟨p, by simp; omega, ?_, fun q hq hpq => ?_⟩
        · rw [List.getElem_append_left hp, List.getElem_append_left ci]; exact h1
        · rw [List.getElem_append_left ci]
          by_cases d : q < pre.length
          · rw [List.getElem_append_left d]; exact h2 q d hpq
          · have dq : q = pre.length := by simp at hq; omega
            subst dq
            rw [List.getElem_append_right (Nat.le_refl _)]
            simp only [Nat.sub_self, List.getElem_cons_zero]
            exact (hn i ci).symm
      · have : i = out.length := by simp at hi; omega
        subst this
        refine ⟨pre.length, by simp, ?_, fun q hq hpq => ?_⟩
        · simp
        · simp at hq; omega
theorem fold_inv (l : List S37) : ∀ pre out : List S37, distA out → lastA pre out → distA (l.foldl stepF out) ∧ lastA (pre ++ l) (l.foldl stepF out) := by
  induction l with
  | nil => intro pre out h1 h2; simpa using ⟨h1, h2⟩
  | cons a l ih =>
    intro pre out h1 h2
    have s := step_inv pre out a h1 h2
    have := ih (pre ++ [a]) (stepF out a) s.1 s.2
    simpa using this
theorem final_inv (l : List S37) : distA (finalF l) ∧ lastA l (finalF l) := by
  have := fold_inv l [] [] (fun i j hi => absurd hi (by simp)) (fun i hi => absurd hi (by simp))
  simpa [finalF] using this
theorem fold_same (l : List S37) : ∀ out : List S37, distA (out ++ l) → l.foldl stepF out = out ++ l := by
  induction l with
  | nil => intro out _; simp
  | cons a l ih =>
    intro out h
    have e : stepF out a = out ++ [a] := by
      rcases stepF_cases out a with ⟨k, hk, hn, _⟩ | ⟨_, e⟩
      · have := h k out.length (by simp; omega) (by simp) (by omega)
        rw [List.getElem_append_left hk, List.getElem_append_right (Nat.le_refl _)] at this
        simp at this
        exact absurd hn this
      · exact e
    rw [List.foldl_cons, e, ih (out ++ [a]) (by simpa using h)]
    simp
theorem final_same (l : List S37) : finalF (finalF l) = finalF l := by
  have := fold_same (finalF l) [] (by simpa using (final_inv l).1)
  simpa [finalF] using this
theorem flatN_succ {β : Type} (n : Nat) (F : Nat → List β) : flatN (n + 1) F = flatN n F ++ F n := by
  unfold flatN
  rw [List.range'_concat, List.flatMap_append]
  simp
/-- How many captures count. -/
def cntN (l : List S35) (i : Nat) : Nat := (flatN i (immF l)).length + (flatN i (condF l)).length
theorem cnt_succ (l : List S35) (i : Nat) : cntN l (i + 1) = cntN l i + (if 1 ≤ (rd_T35 l (i : Int)).f3 ∧ (rd_T35 l (i : Int)).f3 ≤ 3 then 1 else 0) := by
  unfold cntN
  rw [flatN_succ, flatN_succ, List.length_append, List.length_append]
  have : (immF l i).length + (condF l i).length = if 1 ≤ (rd_T35 l (i : Int)).f3 ∧ (rd_T35 l (i : Int)).f3 ≤ 3 then 1 else 0 := by
    unfold immF condF
    by_cases h1 : (rd_T35 l (i : Int)).f3 = 1
    · rw [if_neg (by omega), if_pos h1, if_pos (by omega)]; rfl
    · rw [if_neg h1]
      by_cases h2 : (rd_T35 l (i : Int)).f3 = 2 ∨ (rd_T35 l (i : Int)).f3 = 3
      · rw [if_pos h2, if_pos (by omega)]; rfl
      · rw [if_neg h2, if_neg (by omega)]; rfl
  omega
theorem cnt_le (l : List S35) (i : Nat) : cntN l i ≤ i := flatN_two i (immF l) (condF l) (fun j _ => both_len l j)
def neqB (x y : S37) : Bool := (!(x.f0.toList == y.f0.toList)) || ((!(x.f1.toList == y.f1.toList)) || ((!(x.f2 == y.f2)) || (!(x.f3 == y.f3))))
theorem neq_self (x : S37) : ¬ (!((x.f0.toList) == (x.f0.toList)) || (!((x.f1.toList) == (x.f1.toList)) || (!((x.f2) == (x.f2)) || (!((x.f3) == (x.f3)))))) = true := by simp
theorem law_l3 (all L : List S37) (ha : all.length ≤ 1048576) (hL : L.length ≤ 1048576) (i p : Nat) (hi : i < L.length) (hp : p < all.length) (he : all[p] = L[i]) (hq : ∀ q (h : q < all.length), p < q → nmA all[q] ≠ nmA L[i])
    (hr : Ev (fun k => laws_FnCaptures.l2 k all L L ((i : Int) + 1)) true) : ∀ d q : Nat, q = p + d → q < all.length → Ev (fun k => laws_FnCaptures.l3 k all L L (i : Int) (q : Int)) true := by
  have up := wrap_up (i := (i : Int)) (by omega) (show (i : Int) < (L.length : Int) by omega) (by omega)
  intro d
  induction d with
  | zero =>
    intro q hqp hql
    have : q = p := by omega
    subst this
    refine ev_shift ?_; simp only [laws_FnCaptures.l3]
    refine ev_pos (by omega) (ev_pos (by omega) (ev_pos (by omega) (ev_pos (by omega) (ev_pos (by omega) ?_))))
    rw [rd_as all q hql, rd_as L i hi, he]
    have e : ((L[i]).f0.toList != (L[i]).f0.toList) = false := by simp
    rw [e]
    refine ev_shift ?_; simp only [laws_FnCaptures.j6]
    refine ev_neg Bool.false_ne_true (ev_neg (by omega) (ev_pos (by omega) (ev_pos (by omega) (ev_pos (by omega) (ev_pos (by omega) ?_)))))
    rw [rd_as all q hql, rd_as L i hi, he]
    have e2 := Bool.eq_false_iff.2 (neq_self L[i])
    rw [e2]
    refine ev_shift ?_; simp only [laws_FnCaptures.j7]
    rw [up]
    exact ev_neg Bool.false_ne_true hr
  | succ d ih =>
    intro q hqp hql
    refine ev_shift ?_; simp only [laws_FnCaptures.l3]
    refine ev_pos (by omega) (ev_pos (by omega) (ev_pos (by omega) (ev_pos (by omega) (ev_pos (by omega) ?_))))
    rw [rd_as all q hql, rd_as L i hi]
    have e : ((all[q]).f0.toList != (L[i]).f0.toList) = true := by
      have := hq q hql (by omega)
      simpa [nmA, bne_iff_ne] using this
    rw [e]
    refine ev_shift ?_; simp only [laws_FnCaptures.j6]
    have w : wrap64 ((q : Int) - 1) = ((q - 1 : Nat) : Int) := by unfold wrap64; omega
    rw [w]
    exact ev_pos trivial (ih (q - 1) (by omega) (by omega))
theorem law_l2 (all L : List S37) (ha : all.length ≤ 1048576) (hL : L.length ≤ 1048576) (hl : lastA all L) : ∀ d i : Nat, i + d = L.length → Ev (fun k => laws_FnCaptures.l2 k all L L (i : Int)) true := by
  intro d
  induction d with
  | zero =>
    intro i hi
    refine ev_shift ?_; simp only [laws_FnCaptures.l2]
    exact ev_neg (by omega) (ev_some _)
  | succ d ih =>
    intro i hi
    have hil : i < L.length := by omega
    obtain ⟨p, hp, he, hq⟩ := hl i hil
    have hr : Ev (fun k => laws_FnCaptures.l2 k all L L ((i : Int) + 1)) true := by simpa using ih (i + 1) (by omega)
    have w : wrap64 ((all.length : Int) - 1) = ((all.length - 1 : Nat) : Int) := by unfold wrap64; omega
    refine ev_shift ?_; simp only [laws_FnCaptures.l2]
    refine ev_pos (by omega) (ev_pos (by omega) (ev_pos (by omega) (ev_neg (neq_self _) ?_)))
    rw [w]
    exact law_l3 all L ha hL i p hil hp he hq hr (all.length - 1 - p) (all.length - 1) (by omega) (by omega)
theorem law_l1 (now later : List S37) (h : (now ++ later).length ≤ 1048576) : ∀ d i : Nat, i + d = now.length → Ev (fun k => laws_FnCaptures.l1 k (now ++ later) now (i : Int)) true := by
  have hn : now.length ≤ (now ++ later).length := by simp
  intro d
  induction d with
  | zero =>
    intro i hi
    have hlen := foldF_len (now ++ later) []
    simp only [List.length_nil, Nat.zero_add] at hlen
    have hL : (finalF (now ++ later)).length ≤ 1048576 := by unfold finalF; omega
    refine ev_shift ?_; simp only [laws_FnCaptures.l1]
    refine ev_neg (by omega) (ev_bind (impl_FinalOf_ev _ h) (ev_bind (impl_FinalOf_ev _ hL) ?_))
    rw [final_same]
    refine ev_pos rfl ?_
    exact law_l2 (now ++ later) (finalF (now ++ later)) h hL (final_inv _).2 _ 0 (Nat.zero_add _)
  | succ d ih =>
    intro i hi
    have hin : i < now.length := by omega
    refine ev_shift ?_; simp only [laws_FnCaptures.l1]
    refine ev_pos (by omega) (ev_pos (by omega) (ev_pos (by omega) ?_))
    have e : rd_T37 (now ++ later) (i : Int) = rd_T37 now (i : Int) := by
      rw [rd_as _ i (by omega), rd_as _ i hin, List.getElem_append_left hin]
    rw [e]
    refine ev_neg (neq_self _) ?_
    rw [wrap_up (by omega) (show (i : Int) < (now.length : Int) by omega) (by omega)]
    simpa using ih (i + 1) (by omega)
theorem law_l0 (s e : Int) (cs : List S35) (hc : cs.length ≤ 1000) : ∀ d i : Nat, i + d = cs.length → Ev (fun k => laws_FnCaptures.l0 k (flatN cs.length (immF cs) ++ flatN cs.length (condF cs)) (flatN cs.length (immF cs)) (cntN cs i : Int) (i : Int) s e cs) true := by
  have hlen : (flatN cs.length (immF cs) ++ flatN cs.length (condF cs)).length = cntN cs cs.length := by rw [List.length_append]; rfl
  have hle := cnt_le cs cs.length
  intro d
  induction d with
  | zero =>
    intro i hi
    have : i = cs.length := by omega
    subst this
    refine ev_shift ?_; simp only [laws_FnCaptures.l0]
    refine ev_neg (by omega) (ev_pos (by omega) ?_)
    have hd : decide (((flatN cs.length (immF cs)).length : Int) > (cntN cs cs.length : Int)) = false := by
      apply decide_eq_false
      have : (flatN cs.length (immF cs)).length ≤ cntN cs cs.length := by unfold cntN; omega
      omega
    rw [hd]
    refine ev_shift ?_; simp only [laws_FnCaptures.j2]
    exact ev_neg Bool.false_ne_true (law_l1 _ _ (by omega) _ 0 (Nat.zero_add _))
  | succ d ih =>
    intro i hi
    have hci := cnt_le cs i
    have up := wrap_up (i := (i : Int)) (by omega) (show (i : Int) < (cs.length : Int) by omega) (by omega)
    have next := ih (i + 1) (by omega)
    rw [cnt_succ] at next
    refine ev_shift ?_; simp only [laws_FnCaptures.l0]
    refine ev_pos (by omega) (ev_pos (by omega) ?_)
    by_cases h1 : (rd_T35 cs (i : Int)).f3 < 1
    · refine ev_pos h1 ?_
      rw [if_neg (by omega)] at next
      refine ev_shift ?_; simp only [laws_FnCaptures.j1]
      rw [up]
      exact ev_pos trivial (by simpa using next)
    · refine ev_neg h1 ?_
      by_cases h3 : (rd_T35 cs (i : Int)).f3 > 3
      · rw [decide_eq_true h3]
        rw [if_neg (by omega)] at next
        refine ev_shift ?_; simp only [laws_FnCaptures.j1]
        rw [up]
        exact ev_pos trivial (by simpa using next)
      · rw [decide_eq_false h3]
        rw [if_pos (by omega)] at next
        refine ev_shift ?_; simp only [laws_FnCaptures.j1]
        have w : wrap64 ((cntN cs i : Int) + 1) = ((cntN cs i + 1 : Nat) : Int) := by unfold wrap64; omega
        rw [up, w]
        exact ev_neg Bool.false_ne_true (by simpa using next)
theorem captures_ev (l : List Int) (hb : bytesP l) : Ev (fun k => laws_FnCaptures.f k l) true := by
  simp only [laws_FnCaptures.f]
  by_cases c : (l.length : Int) > 1048576
  · exact ev_pos c (ev_some _)
  · obtain ⟨s, e, cs, h, hc⟩ := match_ok l hb (by omega)
    refine ev_neg c (ev_bind h (ev_bind (impl_AssignmentsOf_ev s e cs (by omega)) (ev_bind (impl_ImmediateOf_ev s e cs (by omega)) ?_)))
    have := law_l0 s e cs hc cs.length 0 (Nat.zero_add _)
    simpa [cntN, flatN] using this
theorem FnCaptures : laws_FnCaptures.Pure := by
  intro l _ _ h
  have hb : bytesP l := fun x hx => by
    have := h x hx
    simp [Lit.wf, IntKind.min, IntKind.max, IntKind.signed, IntKind.bits] at this
    omega
  obtain ⟨K, hK⟩ := captures_ev l hb
  exact ⟨K, hK K (Nat.le_refl _)⟩

end Go.Proofs.Ytabbpnkbhapibaa.Pure
