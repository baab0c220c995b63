/- The translated text holds the bytes it should. -/
import Derived.Test.YtabbpnkbhapibaaYTrW2
import Derived.Test.YtabbpnkbhapibaaYTrP0
import Derived.Test.YtabbpnkbhapibaaYTrP1
import Derived.Test.YtabbpnkbhapibaaYTrP2
import Derived.Test.YtabbpnkbhapibaaYTrP3
import Derived.Test.YtabbpnkbhapibaaYTrP4
import Derived.Test.YtabbpnkbhapibaaYTrP5
import Derived.Test.YtabbpnkbhapibaaYTranslateVDraws
namespace Go.Proofs.Ytabbpnkbhapibaa.Pure
open Go.Proofs.Ytabbpnkbhapibaa.PureFnTranslate Go.RowKit Go.Proofs.YtabbpnkbhapibaaG Go.Proofs.Ytabbpnkbhapibaa.PFnTranslate Go.Proofs.YtabbpnkbhapibaaW.PrintWords Go.Proofs.YtabbpnkbhapibaaW.PrintLast Go.Proofs.YtabbpnkbhapibaaW.PrintMore

theorem text_ok2 (l : List Int) (hb : bytesP l) (hl : l.length ≤ 1048576) (p sd : Int) (h0 : 0 ≤ p) (h1 : p ≤ 2000000) (xs : List ByteArray) (h2 : 2 ≤ xs.length) (h3 : xs.length ≤ 200) (h4 : ∀ x, x ∈ xs → x.size ≤ 100) : ∃ t sd', spec_l00Src_text.f l p sd xs = some (t, p + 1, sd') ∧ t.size ≤ 100 := by
  obtain ⟨v, sd', e, hv, hv1⟩ := pick_ok l hb hl p sd h0 h1 (xs.length : Int) (by omega) (by omega)
  simp only [spec_l00Src_text.f]
  rw [e, Option.bind_some]
  dsimp only
  rw [if_pos hv, if_pos hv1]
  obtain ⟨i, rfl⟩ : ∃ i : Nat, v = i := ⟨v.toNat, by omega⟩
  refine ⟨_, _, rfl, ?_⟩
  rw [rdOf_get _ _ i (by omega)]
  exact h4 _ (List.getElem_mem _)
theorem word_loop (l : List Int) (hb : bytesP l) (hl : l.length ≤ 1048576) : ∀ (n : Nat) (acc : List Int) (p sd : Int), acc.length + n ≤ 100 → 0 ≤ p → p + n ≤ 2000000 →
    ∃ t p' sd', Ev (fun k => spec_l00Src_word.l0 k acc (n : Int) l p sd) (t, p', sd') ∧ t.size ≤ 100 ∧ p ≤ p' ∧ p' ≤ p + n := by
  intro n
  induction n with
  | zero =>
    intro acc p sd ha h0 h1
    refine ⟨strOfNums acc, p, sd, ?_, by rw [strOfNums_size]; omega, by omega, by omega⟩
    refine ev_shift ?_; simp only [spec_l00Src_word.l0]; exact ev_neg (by omega) (ev_some _)
  | succ n ih =>
    intro acc p sd ha h0 h1
    obtain ⟨v, sd', e, _⟩ := next_ok l hb hl p sd h0 (by omega)
    obtain ⟨t, p', sd2, h2, h3, h4, h5⟩ := ih (acc ++ [v % 256]) (p + 1) sd' (by rw [List.length_append]; simp; omega) (by omega) (by omega)
    refine ⟨t, p', sd2, ?_, h3, by omega, by omega⟩
    refine ev_shift ?_; simp only [spec_l00Src_word.l0]
    refine ev_pos (by omega) (ev_bindc e (ev_pos (by omega) ?_))
    rw [show wrap64 (((n + 1 : Nat) : Int) - 1) = (n : Int) by unfold wrap64; omega]
    exact h2
theorem draw_ok (l : List Int) (hb : bytesP l) (hl : l.length ≤ 1048576) : ∃ s a b, Ev (fun k => spec_DrawTranslateText.f k l) (s, a, b) ∧ s.size ≤ 100 ∧ a.size ≤ 100 ∧ b.size ≤ 100 := by
  have hs : ∃ s p sd, Ev (fun k => spec_l06Text.f k l 0 0) (s, p, sd) ∧ s.size ≤ 100 ∧ 0 ≤ p ∧ p ≤ 1000 := by
    simp only [spec_l06Text.f]
    obtain ⟨b, sd, e⟩ := one_ok l hb hl 0 0 (by omega) (by omega) 3 (by omega) (by omega)
    cases b with
    | true =>
      obtain ⟨t, sd2, e2, ht⟩ := text_ok2 l hb hl 1 sd (by omega) (by omega) [(⟨#[]⟩ : ByteArray), (⟨#[97]⟩ : ByteArray), (⟨#[97, 98]⟩ : ByteArray), (⟨#[49, 50]⟩ : ByteArray), (⟨#[45, 55]⟩ : ByteArray), (⟨#[34]⟩ : ByteArray), (⟨#[97, 34, 98]⟩ : ByteArray), (⟨#[105, 116, 39, 115]⟩ : ByteArray), (⟨#[32, 32, 120, 32]⟩ : ByteArray), (⟨#[10]⟩ : ByteArray), (⟨#[48, 48]⟩ : ByteArray), (⟨#[104, 101, 108, 108, 111, 32, 119, 111, 114, 108, 100]⟩ : ByteArray)] (by decide) (by decide) (by decide)
      exact ⟨t, 1 + 1, sd2, ev_bindc e (ev_pos rfl (ev_bindc e2 (ev_some _))), ht, by omega, by omega⟩
    | false =>
      obtain ⟨v, sd2, e2, hv, hv1⟩ := pick_ok l hb hl 1 sd (by omega) (by omega) 12 (by omega) (by omega)
      obtain ⟨n, rfl⟩ : ∃ n : Nat, v = n := ⟨v.toNat, by omega⟩
      obtain ⟨t, p', sd3, h1, h2, h3, h4⟩ := word_loop l hb hl n [] 2 sd2 (by simp; omega) (by omega) (by omega)
      refine ⟨t, p', sd3, ev_bindc e (ev_neg Bool.false_ne_true (ev_bind (a := (t, p', sd3)) ?_ (ev_some _))), h2, by omega, by omega⟩
      simp only [spec_l00Src_word.f]
      exact ev_bindc e2 h1
  obtain ⟨s, p, sd, e, hs, h0, h1⟩ := hs
  obtain ⟨a, sd2, e2, ha⟩ := text_ok2 l hb hl p sd (by omega) (by omega) [(⟨#[97, 98, 99]⟩ : ByteArray), (⟨#[97]⟩ : ByteArray), (⟨#[97, 97]⟩ : ByteArray), (⟨#[97, 98, 49]⟩ : ByteArray), (⟨#[]⟩ : ByteArray), (⟨#[120, 121, 122]⟩ : ByteArray), s] (by simp) (by simp) (by
    intro x hx
    simp only [List.mem_cons, List.not_mem_nil, or_false] at hx
    rcases hx with rfl | rfl | rfl | rfl | rfl | rfl | rfl <;> first | exact hs | decide)
  obtain ⟨b, sd3, e3, hb'⟩ := text_ok2 l hb hl (p + 1) sd2 (by omega) (by omega) [(⟨#[120, 121, 122]⟩ : ByteArray), (⟨#[98]⟩ : ByteArray), (⟨#[49, 50]⟩ : ByteArray), (⟨#[122, 122, 49]⟩ : ByteArray), (⟨#[]⟩ : ByteArray), (⟨#[120]⟩ : ByteArray), a] (by simp) (by simp) (by
    intro x hx
    simp only [List.mem_cons, List.not_mem_nil, or_false] at hx
    rcases hx with rfl | rfl | rfl | rfl | rfl | rfl | rfl <;> first | exact ha | decide)
  refine ⟨s, a, b, ?_, hs, ha, hb'⟩
  simp only [spec_DrawTranslateText.f]
  exact ev_bindc (a := (l, 0, 0)) rfl (ev_bind e (ev_bindc e2 (ev_bindc e3 (ev_some _))))
theorem last_ok (s : ByteArray) (hs : s.size ≤ 100) (c : Int) : ∃ t : Int, Ev (fun k => strings_LastIndexByte.f k s c) t ∧ ((t = -1 ∧ ∀ j : Nat, j < s.size → bt s (j : Int) ≠ c) ∨ ∃ i : Nat, t = i ∧ i < s.size ∧ bt s (i : Int) = c) := by
  have loop : ∀ n : Nat, n ≤ s.size → (∀ j : Nat, n ≤ j → j < s.size → bt s (j : Int) ≠ c) → ∃ t : Int, Ev (fun k => bytealg_LastIndexByteString.l0 k s c ((n : Int) - 1)) t ∧ ((t = -1 ∧ ∀ j : Nat, j < s.size → bt s (j : Int) ≠ c) ∨ ∃ i : Nat, t = i ∧ i < s.size ∧ bt s (i : Int) = c) := by
    intro n
    induction n with
    | zero =>
      intro _ h
      refine ⟨-1, ?_, Or.inl ⟨rfl, fun j hj => h j (by omega) hj⟩⟩
      refine ev_shift ?_; simp only [bytealg_LastIndexByteString.l0]; exact ev_neg (by omega) (ev_some _)
    | succ n ih =>
      intro hn h
      have e : ((n + 1 : Nat) : Int) - 1 = (n : Int) := by omega
      by_cases hc : bt s (n : Int) = c
      · refine ⟨n, ?_, Or.inr ⟨n, rfl, by omega, hc⟩⟩
        rw [e]
        refine ev_shift ?_; simp only [bytealg_LastIndexByteString.l0]
        exact ev_pos (by omega) (ev_pos (by omega) (ev_pos (by omega) (ev_pos hc (ev_some _))))
      · obtain ⟨t, ht, h2⟩ := ih (by omega) (fun j hj hj2 => by
          by_cases e : j = n
          · rw [e]; exact hc
          · exact h j (by omega) hj2)
        refine ⟨t, ?_, h2⟩
        rw [e]
        refine ev_shift ?_; simp only [bytealg_LastIndexByteString.l0]
        refine ev_pos (by omega) (ev_pos (by omega) (ev_pos (by omega) (ev_neg hc ?_)))
        rw [show wrap64 ((n : Int) - 1) = (n : Int) - 1 by unfold wrap64; omega]
        exact ht
  obtain ⟨t, ht, h⟩ := loop s.size (Nat.le_refl _) (fun j h1 h2 => absurd h2 (by omega))
  refine ⟨t, ?_, h⟩
  simp only [strings_LastIndexByte.f, bytealg_LastIndexByteString.f]
  rw [show wrap64 ((s.size : Int) - 1) = (s.size : Int) - 1 by unfold wrap64; omega]
  exact ev_bind ht (ev_some _)
/-- b becomes b'. -/
def TrB (x y : ByteArray) (b b' : Int) : Prop := (b' = b ∧ ∀ j : Nat, j < x.size → bt x (j : Int) ≠ b) ∨ ∃ i : Nat, i < x.size ∧ bt x (i : Int) = b ∧ b' = bt y (i : Int)
theorem tr_loop (x y : ByteArray) (hx : x.size ≤ 100) (hxy : x.size = y.size) (zs : List Int) (hz : zs.length ≤ 100) : ∀ (d i : Nat), i + d = zs.length → ∀ xs : List Int, xs.length = zs.length → (∀ j (h : j < xs.length) (h' : j < zs.length), i ≤ j → xs[j] = zs[j]) → (∀ j (h : j < xs.length) (h' : j < zs.length), j < i → TrB x y zs[j] xs[j]) →
    ∃ ys : List Int, Ev (fun k => impl_TranslateText.l0 k x y xs (i : Int)) ys ∧ ys.length = zs.length ∧ ∀ j (h : j < ys.length) (h' : j < zs.length), TrB x y zs[j] ys[j] := by
  intro d
  induction d with
  | zero =>
    intro i hi xs hl h1 h2
    refine ⟨xs, ?_, hl, fun j h h' => h2 j h h' (by omega)⟩
    refine ev_shift ?_; simp only [impl_TranslateText.l0]; exact ev_neg (by omega) (ev_some _)
  | succ d ih =>
    intro i hi xs hl h1 h2
    have hr : rd xs (i : Int) = zs[i]'(by omega) := by rw [rd_get xs i (by omega)]; exact h1 i (by omega) (by omega) (Nat.le_refl _)
    obtain ⟨t, ht, hc⟩ := last_ok x hx (zs[i]'(by omega))
    rcases hc with ⟨rfl, hn⟩ | ⟨q, rfl, hq, hb⟩
    · obtain ⟨ys, hy, h3⟩ := ih (i + 1) (by omega) xs hl (fun j h h' hj => h1 j h h' (by omega)) (fun j h h' hj => by
        by_cases e : j = i
        · subst e; rw [h1 j h h' (Nat.le_refl _)]; exact Or.inl ⟨rfl, hn⟩
        · exact h2 j h h' (by omega))
      refine ⟨ys, ?_, h3⟩
      refine ev_shift ?_; simp only [impl_TranslateText.l0]
      refine ev_pos (by omega) (ev_pos (by omega) ?_)
      rw [hr, wrap_up (by omega) (show (i : Int) < (xs.length : Int) by omega) (by omega)]
      exact ev_bind ht (ev_neg (by omega) (by simpa using hy))
    · obtain ⟨ys, hy, h3⟩ := ih (i + 1) (by omega) (xs.set i (bt y (q : Int))) (by simpa using hl) (fun j h h' hj => by
        rw [List.getElem_set_ne (by omega)]; exact h1 j (by simpa using h) h' (by omega)) (fun j h h' hj => by
        by_cases e : j = i
        · subst e; rw [List.getElem_set_self]; exact Or.inr ⟨q, hq, hb, rfl⟩
        · rw [List.getElem_set_ne (by omega)]; exact h2 j (by simpa using h) h' (by omega))
      refine ⟨ys, ?_, h3⟩
      refine ev_shift ?_; simp only [impl_TranslateText.l0]
      refine ev_pos (by omega) (ev_pos (by omega) ?_)
      rw [hr, wrap_up (by omega) (show (i : Int) < (xs.length : Int) by omega) (by omega), Int.toNat_natCast]
      exact ev_bind ht (ev_pos (by omega) (ev_pos (by omega) (by simpa using hy)))
theorem bt_byte (s : ByteArray) (j : Nat) (h : j < (bytesOf s).length) : bt s (j : Int) = (bytesOf s)[j] := bt_get s j (by rwa [bytes_size] at h)
theorem translate_ok (s x y : ByteArray) (hs : s.size ≤ 100) (hx : x.size ≤ 100) (hxy : x.size = y.size) (hne : x.toList ≠ []) : ∃ u : ByteArray, Ev (fun k => impl_TranslateText.f k s x y) (u, true) ∧ u.size = s.size ∧ ∀ j : Nat, j < s.size → TrB x y (bt s (j : Int)) (bt u (j : Int)) := by
  have hbl := bytes_size s
  obtain ⟨ys, hy, hl, ht⟩ := tr_loop x y hx hxy (bytesOf s) (by omega) (bytesOf s).length 0 (by omega) (bytesOf s) rfl (fun _ _ _ _ => rfl) (fun _ _ _ h => absurd h (by omega))
  have hr : ∀ j (h : j < ys.length), 0 ≤ ys[j] ∧ ys[j] ≤ 255 := by
    intro j h
    rcases ht j h (by omega) with ⟨e, _⟩ | ⟨i, _, _, e⟩
    · rw [e, ← bt_byte s j (by omega)]; exact bt_range s _
    · rw [e]; exact bt_range y _
  have hu : ∀ j (h : j < ys.length), bt (strOfNums ys) (j : Int) = ys[j] := by
    intro j h
    have := bt_get (strOfNums ys) j (by rw [strOfNums_size]; exact h)
    rw [this]
    simp only [bytesOf, strOfNums_data, List.getElem_map]
    have := hr j h
    rw [UInt8.toNat_ofNat_of_lt' (by show ys[j].toNat < 256; omega)]
    omega
  refine ⟨strOfNums ys, ?_, by rw [strOfNums_size]; omega, fun j hj => ?_⟩
  · simp only [impl_TranslateText.f]
    exact ev_neg hne (ev_pos (by omega) (ev_pos (by omega) (ev_bind hy (ev_some _))))
  · have := ht j (by omega) (by omega)
    rw [hu j (by omega), bt_byte s j (by omega)]
    exact this
theorem in_loop (s x y u : ByteArray) (hx : x.size ≤ 100) (hxy : x.size = y.size) (i : Nat) (hi : i < u.size) (c : Int) (hc : bt u (i : Int) = c) (hu : u.size ≤ 100)
    (P : (∃ j : Nat, j < x.size ∧ bt x (j : Int) = c) → ∃ j : Nat, j < y.size ∧ bt y (j : Int) = c) (r : Bool) (hr : Ev (fun k => laws_FnTranslate.l0 k s x y u ((i : Int) + 1)) r) :
    ∀ (d j : Nat), j + d = x.size → ∀ a b : Bool, (a = true → ∃ q : Nat, q < x.size ∧ bt x (q : Int) = c) → ((∃ q : Nat, q < j ∧ bt y (q : Int) = c) → b = true) → Ev (fun k => laws_FnTranslate.l1 k s x y u (i : Int) a b (j : Int)) r := by
  intro d
  induction d with
  | zero =>
    intro j hj a b ha hb
    refine ev_shift ?_; simp only [laws_FnTranslate.l1]
    rw [wrap_up (by omega) (show (i : Int) < (u.size : Int) by omega) (by omega)]
    refine ev_neg (by omega) ?_
    cases a with
    | true =>
      obtain ⟨q, hq, hq2⟩ := P (ha rfl)
      exact ev_pos rfl (ev_pos (hb ⟨q, by omega, hq2⟩) hr)
    | false => exact ev_neg Bool.false_ne_true hr
  | succ d ih =>
    intro j hj a b ha hb
    have hA : ∀ a' : Bool, a' = (a || (bt x (j : Int) == c)) → a' = true → ∃ q : Nat, q < x.size ∧ bt x (q : Int) = c := by
      intro a' e h
      rw [e, Bool.or_eq_true] at h
      rcases h with h | h
      · exact ha h
      · exact ⟨j, by omega, beq_iff_eq.1 h⟩
    have hB : ∀ b' : Bool, b' = (b || (bt y (j : Int) == c)) → (∃ q : Nat, q < j + 1 ∧ bt y (q : Int) = c) → b' = true := by
      rintro b' e ⟨q, hq, hq2⟩
      rw [e, Bool.or_eq_true]
      by_cases h : q = j
      · subst h; exact Or.inr (beq_iff_eq.2 hq2)
      · exact Or.inl (hb ⟨q, by omega, hq2⟩)
    have I := ih (j + 1) (by omega)
    refine ev_shift ?_; simp only [laws_FnTranslate.l1]
    rw [wrap_up (by omega) (show (j : Int) < (x.size : Int) by omega) (by omega), hc]
    refine ev_pos (by omega) ?_
    cases a with
    | true =>
      refine ev_pos rfl ?_
      cases b with
      | true => exact ev_pos rfl (by simpa using I true true (hA _ rfl) (hB _ rfl))
      | false => exact ev_neg Bool.false_ne_true (ev_pos (by omega) (ev_pos (by omega) (ev_pos (by omega) (ev_pos (by omega) (by simpa using I true (bt y (j : Int) == c) (hA _ rfl) (hB _ (by simp)))))))
    | false =>
      refine ev_neg Bool.false_ne_true (ev_pos (by omega) (ev_pos (by omega) (ev_pos (by omega) ?_)))
      cases b with
      | true => exact ev_pos rfl (by simpa using I (bt x (j : Int) == c) true (hA _ (by simp)) (hB _ rfl))
      | false => exact ev_neg Bool.false_ne_true (ev_pos (by omega) (by simpa using I (bt x (j : Int) == c) (bt y (j : Int) == c) (hA _ (by simp)) (hB _ (by simp))))
theorem bytes_ext (a b : ByteArray) (h : a.size = b.size) (he : ∀ j : Nat, j < b.size → bt a (j : Int) = bt b (j : Int)) : a = b := by
  have hl : bytesOf a = bytesOf b := by
    apply List.ext_getElem
    · rw [bytes_size, bytes_size, h]
    · intro j h1 h2
      rw [← bt_byte a j h1, ← bt_byte b j h2]
      exact he j (by rwa [bytes_size] at h2)
  have : a.data.toList = b.data.toList := by
    unfold bytesOf at hl
    apply List.ext_getElem
    · simpa using congrArg List.length hl
    · intro j h1 h2
      have e := List.getElem_of_eq hl (i := j) (by simpa using h1)
      simp only [List.getElem_map] at e
      exact UInt8.toNat_inj.1 (by omega)
  exact ByteArray.ext (Array.toList_inj.1 this)
theorem FnTranslate : laws_FnTranslate.Pure := by
  intro l _ hl hb
  suffices hh : Ev (fun k => laws_FnTranslate.f k l) true by
    obtain ⟨K, hK⟩ := hh
    exact ⟨K, hK K (Nat.le_refl _)⟩
  have hb' : bytesP l := by
    intro x hx
    have := hb x hx
    simp [Lit.wf, IntKind.min, IntKind.max, IntKind.signed, IntKind.bits] at this
    omega
  simp only [laws_FnTranslate.f, laws_c2Long.f, Option.bind_some]
  by_cases c : (l.length : Int) > 1048576
  · exact ev_pos (by simpa using c) (ev_some _)
  · refine ev_neg (by simpa using c) ?_
    obtain ⟨s, x, y, hd, hs, hx, hy⟩ := draw_ok l hb' (by omega)
    refine ev_bind hd ?_
    by_cases hne : x.toList = []
    · have e : Ev (fun k => impl_TranslateText.f k s x y) ((⟨#[]⟩ : ByteArray), false) := by
        simp only [impl_TranslateText.f]; exact ev_pos hne (ev_some _)
      exact ev_bind e (ev_neg Bool.false_ne_true (ev_pos hne (ev_some _)))
    · by_cases hxy : x.size = y.size
      · obtain ⟨u, hu, hsz, ht⟩ := translate_ok s x y hs hx hxy hne
        refine ev_bind hu (ev_pos rfl (ev_pos (by dsimp only; omega) ?_))
        obtain ⟨v, hv, hsz2, ht2⟩ := translate_ok s x x hs hx rfl hne
        have hvs : v = s := bytes_ext v s hsz2 (fun j hj => by
          rcases ht2 j hj with ⟨e, _⟩ | ⟨i, _, e1, e2⟩
          · exact e
          · rw [e2, e1])
        have outer : ∀ d i : Nat, i + d = u.size → Ev (fun k => laws_FnTranslate.l0 k s x y u (i : Int)) true := by
          intro d
          induction d with
          | zero =>
            intro i hi
            refine ev_shift ?_; simp only [laws_FnTranslate.l0]
            refine ev_neg (by omega) (ev_bind hv (ev_pos rfl ?_))
            rw [hvs]
            simpa using ev_some true
          | succ d ih =>
            intro i hi
            have hr := ih (i + 1) (by omega)
            refine ev_shift ?_; simp only [laws_FnTranslate.l0]
            refine ev_pos (by omega) ?_
            have := in_loop s x y u hx hxy i (by omega) _ rfl (by omega) (fun ⟨q, hq, hq2⟩ => by
              rcases ht i (by omega) with ⟨e, hn⟩ | ⟨k, hk, _, e⟩
              · exact absurd (hq2.trans e) (hn q hq)
              · exact ⟨k, by omega, e.symm⟩) true (by simpa using hr) x.size 0 (by omega) false false (fun h => absurd h Bool.false_ne_true) (fun ⟨q, hq, _⟩ => absurd hq (by omega))
            simpa using this
        exact outer u.size 0 (by omega)
      · have e : Ev (fun k => impl_TranslateText.f k s x y) ((⟨#[]⟩ : ByteArray), false) := by
          simp only [impl_TranslateText.f]; exact ev_neg hne (ev_neg (by omega) (ev_some _))
        refine ev_bind e (ev_neg Bool.false_ne_true (ev_neg hne ?_))
        rw [show ((x.size : Int) != (y.size : Int)) = true from bne_iff_ne.2 (by omega)]
        exact ev_some _
end Go.Proofs.Ytabbpnkbhapibaa.Pure
