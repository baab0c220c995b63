/- The program's GotoText returns what the reference's returns, for every goto: both ask whether each part is empty or a name and at most one way is named, and write the same text; no condition. -/
import Derived.Test.YtcnganocdjcbdaaOFnExactGotoText
import Derived.Test.YtcnganocdjcbdaaVFnExactGotoTextValues
namespace Go.Proofs.Ytcnganocdjcbdaa.Pure
open Go.Proofs.Ytcnganocdjcbdaa.PureFnExactGotoText Go.RowKit Go.Proofs.YtcnganocdjcbdaaG Go.Proofs.Ytcnganocdjcbdaa.PFnExactGotoText Go.Proofs.YtcnganocdjcbdaaW.PrintWords Go.Proofs.YtcnganocdjcbdaaW.PrintLast Go.Proofs.YtcnganocdjcbdaaW.PrintMore
set_option linter.unusedSimpArgs false

def opt (s : ByteArray) : Bool := decide (s.size = 0) || isNameS s
def okG (a b c : ByteArray) : Bool := (decide (a.size = 0) || decide (b.size = 0) && decide (c.size = 0)) && (opt a && (opt b && opt c))
theorem opt_le {s : ByteArray} (h : opt s = true) : s.size ≤ 12 := by
  simp only [opt, isNameS, Bool.or_eq_true, Bool.and_eq_true, decide_eq_true_eq] at h
  omega
theorem name_ev (s : ByteArray) : Ev (fun k => spec_l04Name.f k s) (opt s) := by
  simp only [spec_l04Name.f, toList_nil, opt]
  by_cases h : s.size = 0
  · refine ev_pos h ?_; simpa [h] using ev_some true
  · refine ev_neg h (ev_bind (spec_IsName_ev s) ?_); simpa [h] using ev_some _
theorem vj (x : Bool) (a b c : ByteArray) : Ev (fun k => spec_ValidGoto.j0 k x a b c) (!x && (opt a && (opt b && opt c))) := by
  refine ev_shift ?_
  simp only [spec_ValidGoto.j0]
  cases x with
  | true => exact ev_pos rfl (ev_some _)
  | false =>
    refine ev_neg (by decide) (ev_bind (name_ev a) ?_)
    cases ha : opt a with
    | false => exact ev_neg (by decide) (ev_some _)
    | true =>
      refine ev_pos rfl (ev_bind (name_ev b) ?_)
      cases hb : opt b with
      | false => exact ev_neg (by decide) (ev_some _)
      | true => exact ev_pos rfl (ev_bind (name_ev c) (by simpa using ev_some _))
theorem isEmpty_eq (s : ByteArray) : s.toList.isEmpty = decide (s.size = 0) := by
  by_cases h : s.size = 0
  · simp [(toList_nil s).2 h, h]
  · have : s.toList ≠ [] := fun e => h ((toList_nil s).1 e)
    simp [this, h]
theorem sv (a b c : ByteArray) : Ev (fun k => spec_ValidGoto.f k a b c) (okG a b c) := by
  simp only [spec_ValidGoto.f, toList_nil, okG, isEmpty_eq]
  by_cases ha : a.size = 0
  · refine ev_pos ha ?_; simpa [ha] using vj false a b c
  · refine ev_neg ha ?_
    by_cases hb : b.size = 0
    · refine ev_pos hb ?_
      have := vj (!decide (c.size = 0)) a b c
      simpa [ha, hb] using this
    · refine ev_neg hb ?_; simpa [ha, hb] using vj true a b c
def keepL (a b c : ByteArray) : List ByteArray := [a, b, c].filter (fun s => !decide (s.size = 0))
theorem labels_ev (a b c : ByteArray) : Ev (fun k => impl_Goto_labels.f k a b c) (keepL a b c) := ⟨4, fun k hk => by
  obtain ⟨m, rfl⟩ : ∃ m, k = m + 4 := ⟨k - 4, by omega⟩
  by_cases ha : a = ByteArray.empty <;> by_cases hb : b = ByteArray.empty <;> by_cases hc : c = ByteArray.empty <;>
    simp [impl_Goto_labels.f, impl_Goto_labels.l0, rdOf, toList_nil, ha, hb, hc, wrap64, keepL]⟩
theorem all_ev (l : List ByteArray) (h : l.length ≤ 9223372036854775807) : Ev (fun k => impl_areAll_string__impl_IsLabel.f k l) (l.all isNameS) :=
  areAll_loop (fun k xs n i => impl_areAll_string__impl_IsLabel.l0 k xs n i) (rdOf ByteArray.empty) (fun k x => impl_IsLabel.f k x) isNameS
    (fun k xs n i => rfl) (fun xs i hi => rdOf_get _ xs i hi) l h (fun x _ => by
      simp only [impl_IsLabel.f]; exact ev_bind (impl_IsName_ev x) (ev_some _))
theorem iv (a b c : ByteArray) : Ev (fun k => impl_ValidGoto.f k a b c) (okG a b c) := by
  simp only [impl_ValidGoto.f, toList_nil, isEmpty_eq]
  refine ev_bind (labels_ev a b c) (ev_bind (all_ev _ ?_) ?_)
  · have : (keepL a b c).length ≤ 3 := List.length_filter_le _ _
    omega
  · by_cases ha : a = ByteArray.empty <;> by_cases hb : b = ByteArray.empty <;> by_cases hc : c = ByteArray.empty <;>
      (refine ev_of_eq ?_; simp [keepL, okG, opt, ha, hb, hc]) <;>
      (try (cases isNameS a <;> simp)) <;> (try (cases isNameS b <;> simp)) <;> (try (cases isNameS c <;> simp))

theorem bsome {α : Type} (x : Option α) : (x.bind fun t => some t) = x := by cases x <;> rfl
theorem sz0 {t : ByteArray} (h : t.size = 0) : t = ⟨#[]⟩ := ByteArray.ext (Array.eq_empty_of_size_eq_zero h)
theorem sz1 : (⟨#[]⟩ : ByteArray).size = 0 := rfl
theorem em (t : ByteArray) : (⟨#[]⟩ : ByteArray) ++ t = t := ByteArray.empty_append
theorem l1 (a : UInt8) : (⟨#[a]⟩ : ByteArray).size = 1 := rfl
theorem l2 (a b : UInt8) : (⟨#[a, b]⟩ : ByteArray).size = 2 := rfl
theorem text_eq (a b c : ByteArray) (h : okG a b c = true) : ∃ t, Ev (fun k => spec_GotoText.f k a b c) t ∧ Ev (fun k => impl_GotoText.f k a b c) t := by
  have hv := h
  simp only [okG, Bool.and_eq_true, Bool.or_eq_true, decide_eq_true_eq] at h
  obtain ⟨h0, h1, h2, h3⟩ := h
  have la := opt_le h1
  have lb := opt_le h2
  have lc := opt_le h3
  obtain ⟨K1, e1⟩ := sv a b c
  obtain ⟨K2, e2⟩ := iv a b c
  suffices hh : ∃ t, ∀ m, K1 + K2 ≤ m → spec_GotoText.f (m + 1) a b c = some t ∧ impl_GotoText.f (m + 1) a b c = some t by
    obtain ⟨t, ht⟩ := hh
    refine ⟨t, ⟨K1 + K2 + 1, fun k hk => ?_⟩, ⟨K1 + K2 + 1, fun k hk => ?_⟩⟩
    · obtain ⟨m, rfl⟩ : ∃ m, k = m + 1 := ⟨k - 1, by omega⟩
      exact (ht m (by omega)).1
    · obtain ⟨m, rfl⟩ : ∃ m, k = m + 1 := ⟨k - 1, by omega⟩
      exact (ht m (by omega)).2
  have hS : ∀ (m : Nat), K1 + K2 ≤ m → spec_GotoText.f (m + 1) a b c = spec_GotoText.j0 (m + 1) (decide (a.size = 0) && (decide (b.size = 0) && decide (c.size = 0))) a b c := fun m hm => by
    simp only [spec_GotoText.f, e1 (m + 1) (by omega), hv, Option.bind_some, isEmpty_eq]; rfl
  have hI : ∀ (m : Nat), K1 + K2 ≤ m → impl_GotoText.f (m + 1) a b c = impl_Goto_text.f (m + 1) a b c := fun m hm => by
    simp only [impl_GotoText.f, e2 (m + 1) (by omega), hv, Option.bind_some, if_true]; exact bsome _
  by_cases ha : a.size = 0
  · cases sz0 ha
    by_cases hb : b.size = 0
    · cases sz0 hb
      by_cases hc : c.size = 0
      · cases sz0 hc
        exact ⟨⟨#[]⟩, fun m hm => ⟨(hS m hm).trans rfl, (hI m hm).trans (by simp only [impl_Goto_text.f, impl_Goto_text.j0, toList_nil, sz1, if_true])⟩⟩
      · refine ⟨(⟨#[58]⟩ : ByteArray) ++ (((⟨#[70, 40]⟩ : ByteArray) ++ c) ++ (⟨#[41]⟩ : ByteArray)), fun m hm => ⟨(hS m hm).trans ?_, (hI m hm).trans ?_⟩⟩
        · simp only [spec_GotoText.j0, toList_nil, sz1, hc, decide_true, decide_false, Bool.and_false, if_true, if_false, reduceCtorEq]
          rw [if_pos (by omega), if_pos (by omega), if_pos (by omega)]
        · simp only [impl_Goto_text.f, impl_Goto_text.j0, toList_nil, sz1, hc, if_true, if_false, em, ByteArray.size_append, l1, l2]
          (repeat' split) <;> first | rfl | (exfalso; omega)
    · by_cases hc : c.size = 0
      · cases sz0 hc
        refine ⟨(⟨#[58]⟩ : ByteArray) ++ (((⟨#[83, 40]⟩ : ByteArray) ++ b) ++ (⟨#[41]⟩ : ByteArray)), fun m hm => ⟨(hS m hm).trans ?_, (hI m hm).trans ?_⟩⟩
        · simp only [spec_GotoText.j0, toList_nil, sz1, hb, decide_true, decide_false, Bool.and_false, Bool.false_and, Bool.and_self, if_true, if_false, reduceCtorEq]
          rw [if_pos (by omega), if_pos (by omega), if_pos (by omega)]
        · simp only [impl_Goto_text.f, impl_Goto_text.j0, toList_nil, sz1, hb, if_true, if_false, em, ByteArray.size_append, l1, l2]
          (repeat' split) <;> first | rfl | (exfalso; omega)
      · refine ⟨(⟨#[58]⟩ : ByteArray) ++ ((((⟨#[83, 40]⟩ : ByteArray) ++ b) ++ (⟨#[41]⟩ : ByteArray)) ++ (((⟨#[70, 40]⟩ : ByteArray) ++ c) ++ (⟨#[41]⟩ : ByteArray))), fun m hm => ⟨(hS m hm).trans ?_, (hI m hm).trans ?_⟩⟩
        · simp only [spec_GotoText.j0, toList_nil, sz1, hb, hc, decide_true, decide_false, Bool.and_false, Bool.false_and, Bool.and_self, if_true, if_false, reduceCtorEq]
          (repeat' split) <;> first | rfl | exact congrArg some (ByteArray.append_assoc) | (exfalso; omega)
        · simp only [impl_Goto_text.f, impl_Goto_text.j0, toList_nil, sz1, hb, hc, if_true, if_false, em, ByteArray.size_append, l1, l2]
          (repeat' split) <;> first | rfl | (exfalso; omega)
  · have hbc : b.size = 0 ∧ c.size = 0 := by omega
    cases sz0 hbc.1
    cases sz0 hbc.2
    refine ⟨((⟨#[58, 40]⟩ : ByteArray) ++ a) ++ (⟨#[41]⟩ : ByteArray), fun m hm => ⟨(hS m hm).trans ?_, (hI m hm).trans ?_⟩⟩
    · simp only [spec_GotoText.j0, toList_nil, sz1, ha, decide_true, decide_false, Bool.and_false, Bool.false_and, Bool.and_self, if_true, if_false, reduceCtorEq]
      rw [if_pos (by omega), if_pos (by omega)]
    · simp only [impl_Goto_text.f, impl_Goto_text.j0, toList_nil, sz1, ha, if_true, if_false]
      rw [if_pos (by omega), if_pos (by omega)]

theorem bad_eq (a b c : ByteArray) (h : okG a b c = false) : Ev (fun k => spec_GotoText.f k a b c) ⟨#[]⟩ ∧ Ev (fun k => impl_GotoText.f k a b c) ⟨#[]⟩ := by
  constructor
  · simp only [spec_GotoText.f]
    refine ev_bind (sv a b c) ?_
    rw [h]
    refine ev_neg (by decide) (ev_shift ?_)
    simp only [spec_GotoText.j0]
    exact ev_pos trivial (ev_some _)
  · simp only [impl_GotoText.f]
    refine ev_bind (iv a b c) ?_
    rw [h]
    exact ev_neg (by decide) (ev_some _)
theorem both (a b c : ByteArray) : ∃ t, Ev (fun k => spec_GotoText.f k a b c) t ∧ Ev (fun k => impl_GotoText.f k a b c) t := by
  cases h : okG a b c with
  | true => exact text_eq a b c h
  | false => exact ⟨_, bad_eq a b c h⟩
theorem FnExactGotoText : laws_FnExactGotoText.Pure := by
  intro x _
  obtain ⟨t, e1, e2⟩ := both x.f0 x.f1 x.f2
  suffices h : Ev (fun k => laws_FnExactGotoText.f k x.f0 x.f1 x.f2) true by
    obtain ⟨K, hK⟩ := h
    exact ⟨K, hK K (Nat.le_refl _)⟩
  have hs : ∃ v, laws_szGoto.f x.f0 x.f1 x.f2 1048576 = some v := by
    simp only [laws_szGoto.f]; (repeat' split) <;> exact ⟨_, rfl⟩
  obtain ⟨v, hs⟩ := hs
  simp only [laws_FnExactGotoText.f, laws_toGoto.f]
  refine ev_bindc hs ?_
  by_cases hv : v < 0
  · exact ev_pos hv (ev_some _)
  · refine ev_neg hv (ev_bindc rfl (ev_bind e1 (ev_bindc rfl (ev_bind e2 ?_))))
    exact ev_pos rfl (ev_some _)
end Go.Proofs.Ytcnganocdjcbdaa.Pure
