/- The program's SameGen returns what the reference's returns, for every two expressions: both compare kind, number, text, value and the kids, one by one; no condition. -/
import Derived.Test.YtabbpnkbhapibaaYSameGenO
import Derived.Test.YtabbpnkbhapibaaYSgW3
namespace Go.Proofs.Ytabbpnkbhapibaa.Pure
open Go.RowKit Go.Proofs.YtabbpnkbhapibaaG Go.Proofs.Ytabbpnkbhapibaa.PFnExactSameGen Go.Proofs.YtabbpnkbhapibaaW.PrintWords Go.Proofs.YtabbpnkbhapibaaW.PrintLast Go.Proofs.YtabbpnkbhapibaaW.PrintMore

inductive smG : S51 → Prop
  | mk (x : S51) (l : x.f4.length ≤ 1048576) (h : ∀ y, y ∈ x.f4 → smG y) : smG x
inductive smV : S57 → Prop
  | mk (x : S57) (l : x.f4.length ≤ 1048576) (h : ∀ y, y ∈ x.f4 → smV y) : smV x
instance : FineC S57 := ⟨smV⟩
theorem sz_shift {g : Nat → Option Int} {a : Int} {P : Prop} (h : Sz (fun k => g (k + 1)) a P) : Sz g a P := by
  obtain ⟨v, hv, r⟩ := h
  exact ⟨v, ev_shift hv, r⟩
theorem sz_gens (l : List S51) (hl : l.length ≤ 9223372036854775807) (ih : ∀ y, y ∈ l → ∀ a, 0 ≤ a → a ≤ 1048576 → Sz (fun k => laws_szGen.f k y.f0 y.f1 y.f2 y.f3.f0 y.f3.f1 y.f3.f2 y.f3.f3 y.f4 a) a (smG y)) (a : Int) (ha : 0 ≤ a) (ha1 : a ≤ 1048576) :
    Sz (fun k => laws_szGenS.f k l a) a (l.length ≤ 1048576 ∧ ∀ y, y ∈ l → smG y) := by
  refine sz_shift ?_
  simp only [laws_szGenS.f]
  refine sz_if ha ha ha1 (by omega) (by omega) fun b1 d1 e1 => ?_
  obtain ⟨v, hv, hle, hq⟩ := sz_loop laws_szGenS.l0 (fun k x n => laws_szGen.f k x.f0 x.f1 x.f2 x.f3.f0 x.f3.f1 x.f3.f2 x.f3.f3 x.f4 n) rd_T51 (fun x => smG x) (fun k xs n i => by simp only [laws_szGenS.l0]) (fun xs i h => getD_get _ xs i h) l hl (wrap64 (a - (l.length : Int))) (by omega) (fun x hx m hm hm1 => ih x hx m hm (by omega))
  exact ⟨v, hv, by omega, fun h => ⟨by omega, hq h⟩⟩
theorem sz_gen (x : S51) (w : wf51 x) : ∀ a, 0 ≤ a → a ≤ 1048576 → Sz (fun k => laws_szGen.f k x.f0 x.f1 x.f2 x.f3.f0 x.f3.f1 x.f3.f2 x.f3.f3 x.f4 a) a (smG x) := by
  induction w with
  | mk x h0 h1 h2 h3 l4 h4 ih =>
    intro a ha ha1
    have u2 : x.f2.size ≤ 9223372036854775807 := h2
    have u3 : x.f3.f2.size ≤ 9223372036854775807 := h3.2.2.1
    refine sz_shift ?_
    simp only [laws_szGen.f]
    refine sz_if ha ha ha1 (by omega) (by omega) fun b1 d1 e1 => ?_
    refine sz_bind (a := a - (x.f2.size : Int)) (Q := True) ha ?_ fun v b2 d2 _ => ?_
    · simp only [laws_szValue.f, e1]
      exact sz_if (by omega) (by omega) (by omega) (by omega) (by omega) fun b d e => ⟨_, ev_some _, by omega, fun _ => trivial⟩
    · refine sz_bind ha (sz_gens x.f4 l4 ih v b2 (by omega)) fun v' b3 d3 q => ?_
      exact ⟨_, ev_some _, by omega, fun _ => smG.mk x q.1 q.2⟩
theorem to_gens (l : List S51) (hl : l.length ≤ 1048576) (ih : ∀ y, y ∈ l → ∃ v : S57, Ev (fun k => laws_toGen.f k y.f0 y.f1 y.f2 y.f3.f0 y.f3.f1 y.f3.f2 y.f3.f3 y.f4) (v.f0, v.f1, v.f2, v.f3.f0, v.f3.f1, v.f3.f2, v.f3.f3, v.f4) ∧ smV v) : ∃ ys : List S57, Ev (fun k => laws_toGenS.f k l) ys ∧ Fine ys := by
  obtain ⟨ys, hy, gy⟩ := to_loop laws_toGenS.l0 (fun k x => (laws_toGen.f k x.f0 x.f1 x.f2 x.f3.f0 x.f3.f1 x.f3.f2 x.f3.f3 x.f4).bind fun t => some (⟨t.1, t.2.1, t.2.2.1, (⟨t.2.2.2.1, t.2.2.2.2.1, t.2.2.2.2.2.1, t.2.2.2.2.2.2.1⟩ : S54), t.2.2.2.2.2.2.2⟩ : S57)) rd_T51 (fun k xs ys i => by simp only [laws_toGenS.l0, Option.bind_assoc, Option.bind_some]) (fun xs i h => getD_get _ xs i h) l hl z57 (fun x hx => by
    obtain ⟨v, hv, gv⟩ := ih x hx
    obtain ⟨_, _, _, ⟨_, _, _, _⟩, _⟩ := v
    exact ⟨_, ev_bind hv (ev_some _), gv⟩)
  refine ⟨ys, ?_, gy⟩
  refine ev_shift ?_
  simp only [laws_toGenS.f]
  exact ev_pos (by omega) (ev_pos (by omega) hy)
theorem to_gen (x : S51) (w : smG x) : ∃ v : S57, Ev (fun k => laws_toGen.f k x.f0 x.f1 x.f2 x.f3.f0 x.f3.f1 x.f3.f2 x.f3.f3 x.f4) (v.f0, v.f1, v.f2, v.f3.f0, v.f3.f1, v.f3.f2, v.f3.f3, v.f4) ∧ smV v := by
  induction w with
  | mk x l h ih =>
    obtain ⟨ys, hy, gy⟩ := to_gens x.f4 l ih
    refine ⟨⟨x.f0, x.f1, x.f2, ⟨x.f3.f0, x.f3.f1, x.f3.f2, x.f3.f3⟩, ys⟩, ?_, smV.mk _ gy.len (fun y hy => gy.mem hy)⟩
    refine ev_shift ?_
    simp only [laws_toGen.f, laws_toValue.f, Option.bind_some]
    exact ev_bind hy (ev_some _)
theorem eq_gen (v : S57) (w : smV v) : Ev (fun k => laws_eqGen.f k v.f0 v.f1 v.f2 v.f3.f0 v.f3.f1 v.f3.f2 v.f3.f3 v.f4 v.f0 v.f1 v.f2 v.f3.f0 v.f3.f1 v.f3.f2 v.f3.f3 v.f4) true := by
  induction w with
  | mk v l h ih =>
    have hs : Ev (fun k => laws_eqGenS.f k v.f4 v.f4) true := by
      refine ev_shift ?_
      simp only [laws_eqGenS.f]
      refine ev_pos (by simp) ?_
      have e : allN v.f4.length (fun _ => true) = true := (allN_iff _ _).2 (fun _ _ => rfl)
      rw [← e]
      refine idx_all (g := fun k i => laws_eqGenS.l0 k v.f4 v.f4 i) v.f4.length (fun _ => true) ?_ ?_ ?_
      · refine ev_shift ?_; simp only [laws_eqGenS.l0]; exact ev_neg (by omega) (ev_some _)
      · intro i hi _ r hr
        have e2 : rd_T57 v.f4 (i : Int) = v.f4[i] := getD_get _ _ i hi
        have hh := ih (rd_T57 v.f4 (i : Int)) (by rw [e2]; exact List.getElem_mem hi)
        refine ev_shift ?_; simp only [laws_eqGenS.l0]
        refine ev_pos (by omega) (ev_pos (by omega) (ev_pos (by omega) (ev_bind hh (ev_pos rfl ?_))))
        rw [wrap_up (by omega) (show (i : Int) < (v.f4.length : Int) by omega) (by omega)]; exact hr
      · intro i hi hp; cases hp
    refine ev_shift ?_
    simp only [laws_eqGen.f]
    refine ev_pos (by simp) (ev_pos (by simp) (ev_pos (by simp) (ev_bindc (show laws_eqValue.f v.f3.f0 v.f3.f1 v.f3.f2 v.f3.f3 v.f3.f0 v.f3.f1 v.f3.f2 v.f3.f3 = some true by simp [laws_eqValue.f]) (ev_pos rfl (ev_bind hs (ev_pos rfl (ev_some _)))))))
theorem neq_v (a b c d : Bool) : (!a || (!b || (!c || !d))) = !(a && (b && (c && d))) := by cases a <;> cases b <;> cases c <;> cases d <;> rfl
theorem one_ltG {α : Type} (x : α) : (0 : Int) < (([x] : List α).length : Int) := by simp
theorem rd_gen (x : S57) : rd_T57 [x] 0 = x := rfl
theorem spec_gen_bad (x y : S57) : Ev (fun k => spec_l22Same.j0 k [x] [y] true) false := by
  refine ev_shift ?_; simp only [spec_l22Same.j0]; simpa using ev_some false
theorem same_gen (x : S57) (w : smV x) : ∀ y, smV y → ∃ b, Ev (fun k => spec_l22Same.f k [x] [y]) b ∧ Ev (fun k => impl_SameGen.f k x.f0 x.f1 x.f2 x.f3.f0 x.f3.f1 x.f3.f2 x.f3.f3 x.f4 y.f0 y.f1 y.f2 y.f3.f0 y.f3.f1 y.f3.f2 y.f3.f3 y.f4) b := by
  induction w with
  | mk x l h ih =>
    intro y wy
    obtain ⟨y, ly, hy⟩ := wy
    have bad := spec_gen_bad x y
    by_cases c0 : x.f0 = y.f0
    · by_cases c1 : x.f1 = y.f1
      · by_cases c2 : x.f2.toList = y.f2.toList
        · cases cv : (x.f3.f0 == y.f3.f0 && (x.f3.f1 == y.f3.f1 && (x.f3.f2.toList == y.f3.f2.toList && (x.f3.f3 == y.f3.f3)))) with
          | false =>
            refine ⟨false, ?_, ?_⟩
            · refine ev_shift ?_; simp only [spec_l22Same.f, rd_gen, neq_v, cv]
              exact ev_pos (one_ltG x) (ev_pos (one_ltG y) (ev_pos c0 (ev_pos c1 (ev_pos c2 (ev_pos (by decide) bad)))))
            · refine ev_shift ?_; simp only [impl_SameGen.f, cv]
              exact ev_pos c0 (ev_pos c1 (ev_pos c2 (ev_neg Bool.false_ne_true (ev_some _))))
          | true =>
            suffices hh : ∃ b, Ev (fun k => spec_l22Same.j0 k [x] [y] ((x.f4.length : Int) != (y.f4.length : Int))) b ∧ Ev (fun k => impl_Gen__impl_SameGen.f k x.f4 y.f4) b by
              obtain ⟨b, h1, h2⟩ := hh
              refine ⟨b, ?_, ?_⟩
              · refine ev_shift ?_; simp only [spec_l22Same.f, rd_gen, neq_v, cv]
                exact ev_pos (one_ltG x) (ev_pos (one_ltG y) (ev_pos c0 (ev_pos c1 (ev_pos c2 (ev_neg (by decide) h1)))))
              · refine ev_shift ?_; simp only [impl_SameGen.f, cv]
                exact ev_pos c0 (ev_pos c1 (ev_pos c2 (ev_pos trivial (ev_bind h2 (ev_some _)))))
            by_cases cl : (x.f4.length : Int) = (y.f4.length : Int)
            · have hp : ∀ i, i < x.f4.length → ∃ b, Ev (fun k => spec_l22Same.f k [rd_T57 x.f4 (i : Int)] [rd_T57 y.f4 (i : Int)]) b ∧ Ev (fun k => impl_SameGen.f k (rd_T57 x.f4 (i : Int)).f0 (rd_T57 x.f4 (i : Int)).f1 (rd_T57 x.f4 (i : Int)).f2 (rd_T57 x.f4 (i : Int)).f3.f0 (rd_T57 x.f4 (i : Int)).f3.f1 (rd_T57 x.f4 (i : Int)).f3.f2 (rd_T57 x.f4 (i : Int)).f3.f3 (rd_T57 x.f4 (i : Int)).f4 (rd_T57 y.f4 (i : Int)).f0 (rd_T57 y.f4 (i : Int)).f1 (rd_T57 y.f4 (i : Int)).f2 (rd_T57 y.f4 (i : Int)).f3.f0 (rd_T57 y.f4 (i : Int)).f3.f1 (rd_T57 y.f4 (i : Int)).f3.f2 (rd_T57 y.f4 (i : Int)).f3.f3 (rd_T57 y.f4 (i : Int)).f4) b := by
                intro i hi
                have ex : rd_T57 x.f4 (i : Int) = x.f4[i] := getD_get _ _ i hi
                have ey : rd_T57 y.f4 (i : Int) = y.f4[i]'(by omega) := getD_get _ _ i (by omega)
                exact ih (rd_T57 x.f4 (i : Int)) (by rw [ex]; exact List.getElem_mem hi) (rd_T57 y.f4 (i : Int)) (hy _ (by rw [ey]; exact List.getElem_mem _))
              have hc : ∃ P : Nat → Bool, ∀ i, i < x.f4.length → Ev (fun k => spec_l22Same.f k [rd_T57 x.f4 (i : Int)] [rd_T57 y.f4 (i : Int)]) (P i) ∧ Ev (fun k => impl_SameGen.f k (rd_T57 x.f4 (i : Int)).f0 (rd_T57 x.f4 (i : Int)).f1 (rd_T57 x.f4 (i : Int)).f2 (rd_T57 x.f4 (i : Int)).f3.f0 (rd_T57 x.f4 (i : Int)).f3.f1 (rd_T57 x.f4 (i : Int)).f3.f2 (rd_T57 x.f4 (i : Int)).f3.f3 (rd_T57 x.f4 (i : Int)).f4 (rd_T57 y.f4 (i : Int)).f0 (rd_T57 y.f4 (i : Int)).f1 (rd_T57 y.f4 (i : Int)).f2 (rd_T57 y.f4 (i : Int)).f3.f0 (rd_T57 y.f4 (i : Int)).f3.f1 (rd_T57 y.f4 (i : Int)).f3.f2 (rd_T57 y.f4 (i : Int)).f3.f3 (rd_T57 y.f4 (i : Int)).f4) (P i) :=
                ⟨fun i => if h' : i < x.f4.length then Classical.choose (hp i h') else true, fun i hi => by simp only [dif_pos hi]; exact Classical.choose_spec (hp i hi)⟩
              obtain ⟨P, hP⟩ := hc
              have hne : ((x.f4.length : Int) != (y.f4.length : Int)) = false := by simp [cl]
              refine ⟨allN x.f4.length P, ?_, ?_⟩
              · rw [hne]
                refine ev_shift ?_; simp only [spec_l22Same.j0]
                refine ev_neg Bool.false_ne_true ?_
                refine idx_all (g := fun k i => spec_l22Same.l0 k [x] [y] i) x.f4.length P ?_ ?_ ?_
                · refine ev_shift ?_; simp only [spec_l22Same.l0, rd_gen]
                  exact ev_pos (one_ltG x) (ev_neg (by omega) (ev_some _))
                · intro i hi hpi r hr
                  have hb := (hP i hi).1
                  rw [hpi] at hb
                  refine ev_shift ?_; simp only [spec_l22Same.l0, rd_gen]
                  refine ev_pos (one_ltG x) (ev_pos (by omega) (ev_pos (by omega) (ev_pos (one_ltG y) (ev_pos (by omega) (ev_bind hb (ev_pos rfl ?_))))))
                  rw [wrap_up (by omega) (show (i : Int) < (x.f4.length : Int) by omega) (by omega)]; exact hr
                · intro i hi hpi
                  have hb := (hP i hi).1
                  rw [hpi] at hb
                  refine ev_shift ?_; simp only [spec_l22Same.l0, rd_gen]
                  exact ev_pos (one_ltG x) (ev_pos (by omega) (ev_pos (by omega) (ev_pos (one_ltG y) (ev_pos (by omega) (ev_bind hb (ev_neg Bool.false_ne_true (ev_some _)))))))
              · refine ev_shift ?_; simp only [impl_Gen__impl_SameGen.f]
                refine ev_pos cl ?_
                refine idx_all (g := fun k i => impl_Gen__impl_SameGen.l0 k y.f4 x.f4 (x.f4.length : Int) i) x.f4.length P ?_ ?_ ?_
                · refine ev_shift ?_; simp only [impl_Gen__impl_SameGen.l0]; exact ev_neg (by omega) (ev_some _)
                · intro i hi hpi r hr
                  have hb := (hP i hi).2
                  rw [hpi] at hb
                  refine ev_shift ?_; simp only [impl_Gen__impl_SameGen.l0]
                  refine ev_pos (by omega) (ev_pos (by omega) (ev_pos (by omega) (ev_pos (by omega) (ev_bind hb (ev_pos rfl ?_)))))
                  rw [wrap_up (by omega) (show (i : Int) < (x.f4.length : Int) by omega) (by omega)]; exact hr
                · intro i hi hpi
                  have hb := (hP i hi).2
                  rw [hpi] at hb
                  refine ev_shift ?_; simp only [impl_Gen__impl_SameGen.l0]
                  exact ev_pos (by omega) (ev_pos (by omega) (ev_pos (by omega) (ev_pos (by omega) (ev_bind hb (ev_neg Bool.false_ne_true (ev_some _))))))
            · have hne : ((x.f4.length : Int) != (y.f4.length : Int)) = true := bne_iff_ne.2 cl
              refine ⟨false, by rw [hne]; exact bad, ?_⟩
              refine ev_shift ?_; simp only [impl_Gen__impl_SameGen.f]
              exact ev_neg cl (ev_some _)
        · refine ⟨false, ?_, ?_⟩
          · refine ev_shift ?_; simp only [spec_l22Same.f, rd_gen]
            exact ev_pos (one_ltG x) (ev_pos (one_ltG y) (ev_pos c0 (ev_pos c1 (ev_neg c2 bad))))
          · refine ev_shift ?_; simp only [impl_SameGen.f]
            exact ev_pos c0 (ev_pos c1 (ev_neg c2 (ev_some _)))
      · refine ⟨false, ?_, ?_⟩
        · refine ev_shift ?_; simp only [spec_l22Same.f, rd_gen]
          exact ev_pos (one_ltG x) (ev_pos (one_ltG y) (ev_pos c0 (ev_neg c1 bad)))
        · refine ev_shift ?_; simp only [impl_SameGen.f]
          exact ev_pos c0 (ev_neg c1 (ev_some _))
    · refine ⟨false, ?_, ?_⟩
      · refine ev_shift ?_; simp only [spec_l22Same.f, rd_gen]
        exact ev_pos (one_ltG x) (ev_pos (one_ltG y) (ev_neg c0 bad))
      · refine ev_shift ?_; simp only [impl_SameGen.f]
        exact ev_neg c0 (ev_some _)
theorem FnExactSameGen : laws_FnExactSameGen.Pure := by
  intro x0 x1 w0 w1
  suffices hh : Ev (fun k => laws_FnExactSameGen.f k x0.f0 x0.f1 x0.f2 x0.f3.f0 x0.f3.f1 x0.f3.f2 x0.f3.f3 x0.f4 x1.f0 x1.f1 x1.f2 x1.f3.f0 x1.f3.f1 x1.f3.f2 x1.f3.f3 x1.f4) true by
    obtain ⟨K, hK⟩ := hh
    exact ⟨K, hK K (Nat.le_refl _)⟩
  simp only [laws_FnExactSameGen.f, spec_SameGen.f]
  obtain ⟨t1, e1, b1, q1⟩ := sz_gen x0 w0 1048576 (by omega) (by omega)
  refine ev_bind e1 (ev_skip fun c1 => ?_)
  obtain ⟨t2, e2, b2, q2⟩ := sz_gen x1 w1 t1 (by omega) (by omega)
  refine ev_bind e2 (ev_skip fun c2 => ?_)
  obtain ⟨⟨a0, a1, a2, ⟨a3, a4, a5, a6⟩, a7⟩, h0, s0⟩ := to_gen x0 (q1 (by omega))
  obtain ⟨⟨d0, d1, d2, ⟨d3, d4, d5, d6⟩, d7⟩, h1, s1⟩ := to_gen x1 (q2 (by omega))
  obtain ⟨b, hs, hi⟩ := same_gen _ s0 _ s1
  refine ev_bind h0 (ev_bind h1 (ev_bind (ev_bind hs (ev_some _)) ?_))
  refine ev_bind h0 (ev_bind h1 (ev_bind hi (ev_neg (bne_ff b) ?_)))
  exact ev_bind h0 (ev_bind (eq_gen _ s0) (ev_pos rfl (ev_bind h1 (ev_bind (eq_gen _ s1) (ev_pos rfl (ev_some _))))))

end Go.Proofs.Ytabbpnkbhapibaa.Pure
