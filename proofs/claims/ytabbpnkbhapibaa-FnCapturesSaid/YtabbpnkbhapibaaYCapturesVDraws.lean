/- What the drawing functions come to: always something. No condition. -/
import Derived.Test.YtabbpnkbhapibaaYFcW3
import Derived.Laws.BitsLemmas
import Derived.Test.YtabbpnkbhapibaaYFcP0
import Derived.Test.YtabbpnkbhapibaaYFcP8
import Derived.Test.YtabbpnkbhapibaaYFcP9
import Derived.Test.YtabbpnkbhapibaaYFcP10
import Derived.Test.YtabbpnkbhapibaaYFcP11
import Derived.Test.YtabbpnkbhapibaaYFcP12
namespace Go.Proofs.Ytabbpnkbhapibaa.PureFnCaptures
open Go.RowKit Go.Proofs.YtabbpnkbhapibaaG Go.Proofs.Ytabbpnkbhapibaa.PFnExactFinalOf Go.Proofs.YtabbpnkbhapibaaW.PrintWords Go.Proofs.YtabbpnkbhapibaaW.PrintLast Go.Proofs.YtabbpnkbhapibaaW.PrintMore
set_option linter.unusedSimpArgs false
set_option linter.unusedVariables false

def bytesP (l : List Int) : Prop := ∀ x, x ∈ l → 0 ≤ x ∧ x ≤ 255
theorem u64w (n : Int) : IntKind.u64.wrap n = n % 18446744073709551616 := by simp [IntKind.wrap, IntKind.bits, IntKind.signed]
theorem and255 (n : Int) : 0 ≤ wrap64 (Go.bits .and .u64 (IntKind.u64.wrap n / 1099511627776) 255) ∧ wrap64 (Go.bits .and .u64 (IntKind.u64.wrap n / 1099511627776) 255) ≤ 255 := by
  have h0 : 0 ≤ IntKind.u64.wrap n / 1099511627776 ∧ IntKind.u64.wrap n / 1099511627776 < 16777216 := by rw [u64w]; omega
  have e := Go.bits_mask .u64 24 (by decide) (fun m h h1 => by rw [u64w]; omega) 8 (by decide) _ h0.1 (by simpa using h0.2)
  have e2 : Go.bits .and .u64 (IntKind.u64.wrap n / 1099511627776) 255 = (IntKind.u64.wrap n / 1099511627776) % 256 := by simpa using e
  rw [e2]
  unfold wrap64
  omega
theorem next_ok (l : List Int) (hb : bytesP l) (hl : l.length ≤ 1048576) (p sd : Int) (h0 : 0 ≤ p) (h1 : p ≤ 2000000) : ∃ v sd', spec_l00Src_next.f l p sd = some (v, p + 1, sd') ∧ 0 ≤ v ∧ v ≤ 255 := by
  have w : wrap64 (p + 1) = p + 1 := wrap_id (by omega) (by omega)
  simp only [spec_l00Src_next.f, w]
  by_cases c : p < (l.length : Int)
  · rw [if_pos c, if_pos h0, if_pos (by omega)]
    obtain ⟨i, rfl⟩ : ∃ i : Nat, p = i := ⟨p.toNat, by omega⟩
    have hr := hb (rd l (i : Int)) (by rw [rd_get l i (by omega)]; exact List.getElem_mem _)
    exact ⟨_, _, rfl, by rw [wrap_id (by omega) (by omega)]; omega, by rw [wrap_id (by omega) (by omega)]; omega⟩
  · rw [if_neg c, if_neg (by omega)]
    exact ⟨_, _, rfl, (and255 _).1, (and255 _).2⟩
theorem pick_ok (l : List Int) (hb : bytesP l) (hl : l.length ≤ 1048576) (p sd : Int) (h0 : 0 ≤ p) (h1 : p ≤ 2000000) (n : Int) (h2 : 2 ≤ n) (h3 : n ≤ 200) : ∃ v sd', spec_l00Src_pick.f l p sd n = some (v, p + 1, sd') ∧ 0 ≤ v ∧ v < n := by
  obtain ⟨v, sd', e, hv, _⟩ := next_ok l hb hl p sd h0 h1
  simp only [spec_l00Src_pick.f]
  rw [if_neg (by omega), e, Option.bind_some, if_neg (by omega), if_neg (by omega)]
  exact ⟨_, _, rfl, Int.tmod_nonneg _ hv, Int.tmod_lt_of_pos _ (by omega)⟩
theorem one_ok (l : List Int) (hb : bytesP l) (hl : l.length ≤ 1048576) (p sd : Int) (h0 : 0 ≤ p) (h1 : p ≤ 2000000) (n : Int) (h2 : 2 ≤ n) (h3 : n ≤ 200) : ∃ v sd', spec_l00Src_one.f l p sd n = some (v, p + 1, sd') := by
  obtain ⟨v, sd', e, _⟩ := pick_ok l hb hl p sd h0 h1 n h2 h3
  simp only [spec_l00Src_one.f]
  rw [e, Option.bind_some]
  exact ⟨_, _, rfl⟩
theorem among_ok (l : List Int) (hb : bytesP l) (hl : l.length ≤ 1048576) (p sd : Int) (h0 : 0 ≤ p) (h1 : p ≤ 2000000) (xs : List Int) (h2 : 2 ≤ xs.length) (h3 : xs.length ≤ 200) : ∃ v sd', spec_l00Src_among.f l p sd xs = some (v, p + 1, sd') := by
  obtain ⟨v, sd', e, hv, hv1⟩ := pick_ok l hb hl p sd h0 h1 (xs.length : Int) (by omega) (by omega)
  simp only [spec_l00Src_among.f]
  rw [e, Option.bind_some, if_pos hv, if_pos hv1]
  exact ⟨_, _, rfl⟩
theorem text_ok (l : List Int) (hb : bytesP l) (hl : l.length ≤ 1048576) (p sd : Int) (h0 : 0 ≤ p) (h1 : p ≤ 2000000) (xs : List ByteArray) (h2 : 2 ≤ xs.length) (h3 : xs.length ≤ 200) (h4 : ∀ x, x ∈ xs → x.size ≤ 10) : ∃ t sd', spec_l00Src_text.f l p sd xs = some (t, p + 1, sd') ∧ t.size ≤ 10 := by
  obtain ⟨v, sd', e, hv, hv1⟩ := pick_ok l hb hl p sd h0 h1 (xs.length : Int) (by omega) (by omega)
  simp only [spec_l00Src_text.f]
  rw [e, Option.bind_some]
  dsimp only
  rw [if_pos hv, if_pos hv1]
  obtain ⟨i, rfl⟩ : ∃ i : Nat, v = i := ⟨v.toNat, by omega⟩
  refine ⟨_, _, rfl, ?_⟩
  rw [rdOf_get _ _ i (by omega)]
  exact h4 _ (List.getElem_mem _)
theorem name_ok (l : List Int) (hb : bytesP l) (hl : l.length ≤ 1048576) (p sd : Int) (h0 : 0 ≤ p) (h1 : p ≤ 2000000) : ∃ t sd', spec_l11Name.f l p sd = some (t, p + 1, sd') := by
  simp only [spec_l11Name.f]
  obtain ⟨t, sd', e, _⟩ := text_ok l hb hl p sd h0 h1 [(⟨#[120]⟩ : ByteArray), (⟨#[121]⟩ : ByteArray), (⟨#[122]⟩ : ByteArray), (⟨#[80, 97, 116]⟩ : ByteArray), (⟨#[97, 95, 49]⟩ : ByteArray)] (by decide) (by decide) (by decide)
  rw [e, Option.bind_some]
  exact ⟨_, _, rfl⟩
theorem chars_ok (l : List Int) (hb : bytesP l) (hl : l.length ≤ 1048576) (p sd : Int) (h0 : 0 ≤ p) (h1 : p ≤ 2000000) : ∃ t sd', spec_l11Chars.f l p sd = some (t, p + 1, sd') ∧ t.size ≤ 10 := by
  simp only [spec_l11Chars.f]
  obtain ⟨t, sd', e, ht⟩ := text_ok l hb hl p sd h0 h1 [(⟨#[97]⟩ : ByteArray), (⟨#[98]⟩ : ByteArray), (⟨#[97, 98]⟩ : ByteArray), (⟨#[98, 97]⟩ : ByteArray), (⟨#[97, 98, 99]⟩ : ByteArray), (⟨#[40]⟩ : ByteArray), (⟨#[41]⟩ : ByteArray), (⟨#[40, 41]⟩ : ByteArray), (⟨#[120]⟩ : ByteArray), (⟨#[97, 97]⟩ : ByteArray), (⟨#[99]⟩ : ByteArray), (⟨#[34]⟩ : ByteArray), (⟨#[97, 34, 98]⟩ : ByteArray), (⟨#[0]⟩ : ByteArray), (⟨#[120, 121]⟩ : ByteArray), (⟨#[98, 99]⟩ : ByteArray)] (by decide) (by decide) (by decide)
  rw [e, Option.bind_some]
  exact ⟨_, _, rfl, ht⟩
theorem subject_loop (l : List Int) (hb : bytesP l) (hl : l.length ≤ 1048576) : ∀ (n : Nat) (t : ByteArray) (p sd : Int), t.size + n * 10 ≤ 1000 → 0 ≤ p → p + n ≤ 2000000 → ∃ t' p' sd', Ev (fun k => spec_l12Subject.l0 k t (n : Int) l p sd) (t', p', sd') ∧ p ≤ p' ∧ p' ≤ p + n := by
  intro n
  induction n with
  | zero =>
    intro t p sd _ _ _
    refine ⟨t, p, sd, ?_, by omega, by omega⟩
    refine ev_shift ?_; simp only [spec_l12Subject.l0]
    exact ev_neg (by omega) (ev_some _)
  | succ n ih =>
    intro t p sd ht h0 h1
    obtain ⟨x, sd1, e, hx⟩ := chars_ok l hb hl p sd h0 (by omega)
    obtain ⟨t', p', sd', h, q1, q2⟩ := ih (t ++ x) (p + 1) sd1 (by rw [ByteArray.size_append]; omega) (by omega) (by omega)
    refine ⟨t', p', sd', ?_, by omega, by omega⟩
    refine ev_shift ?_; simp only [spec_l12Subject.l0]
    have w : wrap64 (((n + 1 : Nat) : Int) - 1) = (n : Int) := by unfold wrap64; omega
    rw [w]
    refine ev_pos (by omega) (ev_bindc e (ev_pos ?_ h))
    show t.size + x.size ≤ 9223372036854775807
    omega
theorem subject_ok (l : List Int) (hb : bytesP l) (hl : l.length ≤ 1048576) (p sd : Int) (h0 : 0 ≤ p) (h1 : p ≤ 1000000) : ∃ t p' sd', Ev (fun k => spec_l12Subject.f k l p sd) (t, p', sd') ∧ p ≤ p' ∧ p' ≤ p + 10 := by
  simp only [spec_l12Subject.f]
  obtain ⟨b, sd1, e1⟩ := one_ok l hb hl p sd h0 (by omega) 4 (by omega) (by omega)
  cases b with
  | true =>
    obtain ⟨t, sd2, e2, _⟩ := text_ok l hb hl (p + 1) sd1 (by omega) (by omega) [(⟨#[]⟩ : ByteArray), (⟨#[97]⟩ : ByteArray), (⟨#[97, 98]⟩ : ByteArray), (⟨#[40, 97, 41, 40, 98, 41]⟩ : ByteArray), (⟨#[40, 40, 97, 41, 98, 41]⟩ : ByteArray), (⟨#[97, 97, 97, 97]⟩ : ByteArray), (⟨#[97, 98, 99, 97, 98, 99]⟩ : ByteArray), (⟨#[120, 40, 121]⟩ : ByteArray), (⟨#[41, 40]⟩ : ByteArray), (⟨#[97, 98, 34, 99]⟩ : ByteArray)] (by decide) (by decide) (by decide)
    exact ⟨t, p + 1 + 1, sd2, ev_bindc e1 (ev_pos rfl (ev_bindc e2 (ev_some _))), by omega, by omega⟩
  | false =>
    obtain ⟨v, sd2, e2, hv, hv1⟩ := pick_ok l hb hl (p + 1) sd1 (by omega) (by omega) 6 (by omega) (by omega)
    obtain ⟨n, rfl⟩ : ∃ n : Nat, v = n := ⟨v.toNat, by omega⟩
    obtain ⟨t', p', sd', h, q1, q2⟩ := subject_loop l hb hl n (⟨#[]⟩ : ByteArray) (p + 1 + 1) sd2 (by show 0 + n * 10 ≤ 1000; omega) (by omega) (by omega)
    exact ⟨t', p', sd', ev_bindc e1 (ev_neg Bool.false_ne_true (ev_bindc e2 h)), by omega, by omega⟩
theorem capture_ok (l : List Int) (hb : bytesP l) (hl : l.length ≤ 1048576) (p sd : Int) (h0 : 0 ≤ p) (h1 : p ≤ 900000) : ∃ a b c d p' sd', Ev (fun k => spec_l12Capture.f k l p sd) (a, b, c, d, p', sd') ∧ p ≤ p' ∧ p' ≤ p + 20 := by
  simp only [spec_l12Capture.f]
  obtain ⟨a, sd1, e1⟩ := name_ok l hb hl p sd h0 (by omega)
  obtain ⟨d, sd2, e2, _⟩ := pick_ok l hb hl (p + 1) sd1 (by omega) (by omega) 4 (by omega) (by omega)
  obtain ⟨c, sd3, e3, _⟩ := pick_ok l hb hl (p + 1 + 1) sd2 (by omega) (by omega) 6 (by omega) (by omega)
  by_cases h3 : d = 3
  · exact ⟨_, _, _, _, p + 1 + 1 + 1, sd3, ev_bindc e1 (ev_bindc e2 (ev_bindc e3 (ev_pos h3 (ev_some _)))), by omega, by omega⟩
  · obtain ⟨t, p', sd', h, q1, q2⟩ := subject_ok l hb hl (p + 1 + 1 + 1) sd3 (by omega) (by omega)
    exact ⟨_, _, _, _, p', sd', ev_bindc e1 (ev_bindc e2 (ev_bindc e3 (ev_neg h3 (ev_bind h (ev_some _))))), by omega, by omega⟩
theorem match_loop (l : List Int) (hb : bytesP l) (hl : l.length ≤ 1048576) (s e : Int) : ∀ (n : Nat) (p sd : Int) (cs : List S35), cs.length + n ≤ 1000 → 0 ≤ p → p + n * 20 ≤ 900000 → ∃ cs' p' sd', Ev (fun k => spec_l12Match.l0 k (n : Int) l p sd s e cs) (s, e, cs', p', sd') ∧ cs'.length ≤ 1000 := by
  intro n
  induction n with
  | zero =>
    intro p sd cs hc _ _
    refine ⟨cs, p, sd, ?_, by omega⟩
    refine ev_shift ?_; simp only [spec_l12Match.l0]
    exact ev_neg (by omega) (ev_some _)
  | succ n ih =>
    intro p sd cs hc h0 h1
    obtain ⟨a, b, c, d, p1, sd1, h, q1, q2⟩ := capture_ok l hb hl p sd h0 (by omega)
    obtain ⟨cs', p', sd', h', hc'⟩ := ih p1 sd1 (cs ++ [⟨a, b, c, d⟩]) (by simp; omega) (by omega) (by omega)
    refine ⟨cs', p', sd', ?_, hc'⟩
    refine ev_shift ?_; simp only [spec_l12Match.l0]
    have w : wrap64 (((n + 1 : Nat) : Int) - 1) = (n : Int) := by unfold wrap64; omega
    rw [w]
    exact ev_pos (by omega) (ev_bind h (ev_pos (by omega) h'))
theorem match_j1 (l : List Int) (hb : bytesP l) (hl : l.length ≤ 1048576) (s e p sd : Int) (h0 : 0 ≤ p) (h1 : p ≤ 1000) : ∃ cs p' sd', Ev (fun k => spec_l12Match.j1 k l p sd s e) (s, e, cs, p', sd') ∧ cs.length ≤ 1000 := by
  obtain ⟨v, sd2, e2, hv, hv1⟩ := pick_ok l hb hl p sd (by omega) (by omega) 5 (by omega) (by omega)
  obtain ⟨n, rfl⟩ : ∃ n : Nat, v = n := ⟨v.toNat, by omega⟩
  obtain ⟨cs', p', sd', h, q⟩ := match_loop l hb hl s e n (p + 1) sd2 [] (by simp; omega) (by omega) (by omega)
  refine ⟨cs', p', sd', ?_, q⟩
  refine ev_shift ?_; simp only [spec_l12Match.j1]
  exact ev_bindc e2 h
theorem match_j0 (l : List Int) (hb : bytesP l) (hl : l.length ≤ 1048576) (s e p sd : Int) (h0 : 0 ≤ p) (h1 : p ≤ 900) : ∃ e' cs p' sd', Ev (fun k => spec_l12Match.j0 k l p sd s e) (s, e', cs, p', sd') ∧ cs.length ≤ 1000 := by
  obtain ⟨b, sd1, e1⟩ := one_ok l hb hl p sd h0 (by omega) 6 (by omega) (by omega)
  cases b with
  | true =>
    obtain ⟨v, sd2, e2⟩ := among_ok l hb hl (p + 1) sd1 (by omega) (by omega) [(-1), 0, 9, 1099511627776] (by decide) (by decide)
    obtain ⟨cs, p', sd', h, q⟩ := match_j1 l hb hl s v (p + 1 + 1) sd2 (by omega) (by omega)
    refine ⟨v, cs, p', sd', ?_, q⟩
    refine ev_shift ?_; simp only [spec_l12Match.j0]
    exact ev_bindc e1 (ev_pos rfl (ev_bindc e2 h))
  | false =>
    obtain ⟨cs, p', sd', h, q⟩ := match_j1 l hb hl s e (p + 1) sd1 (by omega) (by omega)
    refine ⟨e, cs, p', sd', ?_, q⟩
    refine ev_shift ?_; simp only [spec_l12Match.j0]
    exact ev_bindc e1 (ev_neg Bool.false_ne_true h)
theorem match_ok (l : List Int) (hb : bytesP l) (hl : l.length ≤ 1048576) : ∃ s e cs, Ev (fun k => spec_A8Match.f k l) (s, e, cs) ∧ cs.length ≤ 1000 := by
  simp only [spec_A8Match.f, spec_l00From.f, Option.bind_some]
  obtain ⟨v1, sd1, e1, _⟩ := pick_ok l hb hl 0 0 (by omega) (by omega) 5 (by omega) (by omega)
  obtain ⟨v2, sd2, e2, _⟩ := pick_ok l hb hl (0 + 1) sd1 (by omega) (by omega) 6 (by omega) (by omega)
  obtain ⟨b, sd3, e3⟩ := one_ok l hb hl (0 + 1 + 1) sd2 (by omega) (by omega) 6 (by omega) (by omega)
  suffices h : ∃ s e cs p' sd', Ev (fun k => spec_l12Match.f k l 0 0) (s, e, cs, p', sd') ∧ cs.length ≤ 1000 by
    obtain ⟨s, e, cs, p', sd', h, q⟩ := h
    exact ⟨s, e, cs, ev_bind h (ev_some _), q⟩
  simp only [spec_l12Match.f]
  cases b with
  | true =>
    obtain ⟨v4, sd4, e4⟩ := among_ok l hb hl (0 + 1 + 1 + 1) sd3 (by omega) (by omega) [(-1), 3, 9, 300] (by decide) (by decide)
    obtain ⟨e', cs, p', sd', h, q⟩ := match_j0 l hb hl v4 (wrap64 (v1 + v2)) (0 + 1 + 1 + 1 + 1) sd4 (by omega) (by omega)
    exact ⟨v4, e', cs, p', sd', ev_bindc e1 (ev_bindc e2 (ev_bindc e3 (ev_pos rfl (ev_bindc e4 h)))), q⟩
  | false =>
    obtain ⟨e', cs, p', sd', h, q⟩ := match_j0 l hb hl v1 (wrap64 (v1 + v2)) (0 + 1 + 1 + 1) sd3 (by omega) (by omega)
    exact ⟨v1, e', cs, p', sd', ev_bindc e1 (ev_bindc e2 (ev_bindc e3 (ev_neg Bool.false_ne_true h))), q⟩
end Go.Proofs.Ytabbpnkbhapibaa.PureFnCaptures
