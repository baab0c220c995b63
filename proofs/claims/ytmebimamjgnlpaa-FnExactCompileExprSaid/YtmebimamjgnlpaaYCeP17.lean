/- Printed functions: laws_markText, laws_markExprS, laws_markExpr. -/
import Derived.Test.YtmebimamjgnlpaaYCeP0
namespace Go.Proofs.Ytmebimamjgnlpaa.PFnExactCompileExpr
open Go.RowKit Go.Proofs.YtmebimamjgnlpaaG Go.Proofs.YtmebimamjgnlpaaW.PrintWords Go.Proofs.YtmebimamjgnlpaaW.PrintLast Go.Proofs.YtmebimamjgnlpaaW.PrintMore
attribute [local go_sem] max2_int min2_int max_two min_two max_three min_three max_four min_four   -- for this text's walks alone
set_option linter.unusedVariables false
set_option linter.unusedSimpArgs false
/-! ### laws_markText: function 46 -/
def laws_markText.l0 : Nat → Int → ByteArray → Option (ByteArray)
 | 0, _, _ => none
 | k + 1, x0, x3 => if x0 > 0 then ((some (([(wrap64 (48 + (Int.tmod x0 10))) % 256] : List Int) : List Int)).bind fun y322 => (if (strOfNums y322).size + x3.size ≤ 9223372036854775807 then (laws_markText.l0 k (wrap64 (Int.tdiv x0 10)) ((strOfNums y322) ++ x3)) else (none))) else (if 1 + x3.size ≤ 9223372036854775807 then (some ((⟨#[109]⟩ : ByteArray) ++ x3)) else (none))
def laws_markText.f (k : Nat) (a0 : Int) : Option (ByteArray) := if a0 ≤ 0 then (some (⟨#[109, 48]⟩ : ByteArray)) else (laws_markText.l0 k a0 (⟨#[]⟩ : ByteArray))
set_option maxHeartbeats 8000000 in
set_option maxRecDepth 100000 in
theorem laws_markText.calls (k : Nat) (a0 : Int) (r : ByteArray) (w : World) (h : laws_markText.f k a0 = some r) :
  Calls Try.prog 46 #[.int .i64 a0] w fun e w' => e = .returned (.string r) ∧ Below w.heap.size w w' := by
 have HB := Aside0.mk (Below.refl w.heap.size w)
 have H : (if a0 ≤ 0 then (some (⟨#[109, 48]⟩ : ByteArray)) else (laws_markText.l0 k a0 (⟨#[]⟩ : ByteArray))) = some r := h
 clear h
 by_cases c2 : a0 ≤ 0
 ·rw [if_pos c2] at H
  have c2b0 := decide_eq_true c2
  clear c2
  obtain rfl := Option.some.inj H
  go_enter Try.func46, Try.ntmps46
  go_wp2
  go_ret
  exact ⟨sq, sb⟩
 rw [if_neg c2] at H
 have c2b0 := decide_eq_false c2
 clear c2
 have H' := Aside0.mk H
 clear H
 go_enter Try.func46, Try.ntmps46
 go_wp2
 go_loopg [0, 3] k (fun kq v0 v3 w' => ∃ (x0_1 : Int) (x3_1 : ByteArray), v0 = .int .i64 x0_1 ∧ v3 = .string x3_1 ∧ Aside0 (laws_markText.l0 kq x0_1 x3_1 = some r) ∧ Aside0 (kq ≤ k) ∧ Aside0 (Below w.heap.size w w'))
 case atStart => exact ⟨(a0), ((⟨#[]⟩ : ByteArray)), sr, sr, H', ⟨Nat.le_refl _⟩, ⟨sb⟩⟩
 case round =>
  clear H'
  try clear c2
  try clear c2b0
  try clear p2
  obtain ⟨x0_1, x3_1, rfl, rfl, HA, HK1, HB⟩ := hrel
  cases gk with
  | zero => exact absurd HA.out (by simp [laws_markText.l0])
  | succ k1 =>
   have H := HA.out
   clear HA
   simp only [laws_markText.l0] at H
   by_cases c3 : x0_1 > 0
   ·rw [if_pos c3] at H
    have c3b0 : decide (0 < x0_1) = true := decide_eq_true c3
    clear c3
    obtain ⟨y322, hy322⟩ : ∃ y_ : List Int, y_ = (([(wrap64 (48 + (Int.tmod x0_1 10))) % 256] : List Int)) := ⟨_, rfl⟩
    replace H : (if (strOfNums y322).size + x3_1.size ≤ 9223372036854775807 then (laws_markText.l0 k1 (wrap64 (Int.tdiv x0_1 10)) ((strOfNums y322) ++ x3_1)) else (none)) = some r := by first | (rw [hy322]; with_reducible exact H) | (have H2_ := (Option.bind_some _ _).symm.trans H; rw [hy322]; with_reducible exact H2_) | (have H2_ := (Option.bind_some _ _).symm.trans H; with_reducible exact H2_) | with_reducible exact H | (rw [hy322]; exact H) | exact H
    have Ny322 := Aside0.mk hy322
    clear hy322
    by_cases c4 : (strOfNums y322).size + x3_1.size ≤ 9223372036854775807
    ·rw [if_pos c4] at H
     have c4b0 := eq_true c4
     have c4b1 := decide_eq_true c4
     try have c4b2 : (9223372036854775807 < (strOfNums y322).size + x3_1.size) = False := eq_false (Nat.not_lt.2 c4)
     have H' := Aside0.mk H
     clear H
     go_wp2_with (first | ((with_reducible refine gate_dst (N := 12) rfl ?_); refine Kd.R_lit (Kd.int .u8) _ 5 ?hg (N := 12) ?hd (xs := ([(wrap64 (48 + (Int.tmod x0_1 10))) % 256] : List Int)) (inner := [.int .u8 ((wrap64 (48 + (Int.tmod x0_1 10))) % 256)]) (ok := fun _ => True) (okp := fun _ => True) ?hr ?hp (fun _ hk => hk) trivial (Below.refl _ _) (Nat.le_refl _) (by simp) ?_; (case hd => rfl); (case hg => rfl); (case hr => first | (go_simp; done) | (go_simp; rfl)); (case hp => exact (Reps.one (show Kd.M (Kd.int .u8) _ _ _ ((wrap64 (48 + (Int.tmod x0_1 10))) % 256) [.int .u8 ((wrap64 (48 + (Int.tmod x0_1 10))) % 256)] from rfl) (Reps.none _ _))); intro v323 w5 ho6 hb hg_ hnew_; clear hg_ hnew_; (first | rw [← Ny322.out] at ho6 | (simp only [Int.reduceToNat] at ho6; rw [← Ny322.out] at ho6)); have n0_ := Aside0.mk (Kd.R_lower ho6 (below_size (sH HB.out))); have n1_ := sB HB hb; clear HB; have HO324 := n0_; have HB := n1_; clear n0_ n1_; clear hb ho6; have hcv7 := own_string (P := Try.prog) Try.underlying120 Try.underlying5 Try.underlying9 (Kd.own_of_R HO324.out)))
     go_roundg k1
     case measure => have := HK1.out; omega
     case rel => exact ⟨(wrap64 (Int.tdiv x0_1 10)), ((strOfNums y322) ++ x3_1), sr, sr, H', ⟨by have := HK1.out; omega⟩, ⟨sb⟩⟩
    rw [if_neg c4] at H
    exact absurd H (by simp)
   rw [if_neg c3] at H
   have c3b0 : decide (0 < x0_1) = false := decide_eq_false c3
   clear c3
   by_cases c8 : 1 + x3_1.size ≤ 9223372036854775807
   ·rw [if_pos c8] at H
    have c8b0 := eq_true c8
    have c8b1 := decide_eq_true c8
    try have c8b2 : (9223372036854775807 < 1 + x3_1.size) = False := eq_false (Nat.not_lt.2 c8)
    obtain rfl := Option.some.inj H
    go_wp2
    go_ret
    exact ⟨sq, sb⟩
   rw [if_neg c8] at H
   exact absurd H (by simp)

/-! ### laws_markExprS: function 47 -/
def laws_markExprS.mkLike (u v : Value) : Prop := (∃ a b, u = .int .i64 a ∧ v = .int .i64 b) ∨ (∃ a b, u = .string a ∧ v = .string b) ∨ u = v
theorem laws_markExprS.mkLike_refl (u : Value) : laws_markExprS.mkLike u u := .inr (.inr rfl)
theorem laws_markExprS.mkLike_trans {u v x : Value} (h : laws_markExprS.mkLike u v) (k : laws_markExprS.mkLike v x) : laws_markExprS.mkLike u x := by
  rcases h with ⟨a, b, rfl, rfl⟩ | ⟨a, b, rfl, rfl⟩ | rfl
  · rcases k with ⟨c, d, e, rfl⟩ | ⟨c, d, e, rfl⟩ | rfl
    · exact .inl ⟨_, _, rfl, rfl⟩
    · cases e
    · exact .inl ⟨_, _, rfl, rfl⟩
  · rcases k with ⟨c, d, e, rfl⟩ | ⟨c, d, e, rfl⟩ | rfl
    · cases e
    · exact .inr (.inl ⟨_, _, rfl, rfl⟩)
    · exact .inr (.inl ⟨_, _, rfl, rfl⟩)
  · exact k
theorem laws_markExprS.mkLike_int {a : Int} {v : Value} (h : laws_markExprS.mkLike (.int .i64 a) v) : ∃ b, v = .int .i64 b := by
  rcases h with ⟨_, b, _, rfl⟩ | ⟨_, _, e, _⟩ | rfl
  · exact ⟨b, rfl⟩
  · cases e
  · exact ⟨a, rfl⟩
theorem laws_markExprS.mkLike_str {a : ByteArray} {v : Value} (h : laws_markExprS.mkLike (.string a) v) : ∃ b, v = .string b := by
  rcases h with ⟨_, _, e, _⟩ | ⟨_, b, _, rfl⟩ | rfl
  · cases e
  · exact ⟨b, rfl⟩
  · exact ⟨a, rfl⟩
theorem laws_markExprS.mkLike_slice {A : Option Addr} {n c : Nat} {v : Value} (h : laws_markExprS.mkLike (.slice A n c) v) : v = .slice A n c := by
  rcases h with ⟨_, _, e, _⟩ | ⟨_, _, e, _⟩ | rfl
  · cases e
  · cases e
  · rfl
/-- The blocks of the sort keep their cells' sorts. -/
def laws_markExprS.mkSd (w w' : World) : Prop := ∀ (g t : Nat) (cs : Array Value), t = 26 → w.heap[g]? = some (.cells cs t (0, 0)) → ∃ cs' : Array Value, w'.heap[g]? = some (.cells cs' t (0, 0)) ∧ cs'.size = cs.size ∧ ∀ (j : Nat) (u : Value), cs[j]? = some u → ∃ u', cs'[j]? = some u' ∧ laws_markExprS.mkLike u u'
theorem laws_markExprS.mkSd.refl (w : World) : laws_markExprS.mkSd w w := fun g t cs _ hg => ⟨cs, hg, rfl, fun j u hu => ⟨u, hu, laws_markExprS.mkLike_refl u⟩⟩
theorem laws_markExprS.mkSd.trans {w w1 w2 : World} (h : laws_markExprS.mkSd w w1) (k : laws_markExprS.mkSd w1 w2) : laws_markExprS.mkSd w w2 := by
  intro g t cs ht hg
  obtain ⟨c1, h1, e1, l1⟩ := h g t cs ht hg
  obtain ⟨c2, h2, e2, l2⟩ := k g t c1 ht h1
  refine ⟨c2, h2, e2.trans e1, fun j u hu => ?_⟩
  obtain ⟨u1, hu1, m1⟩ := l1 j u hu
  obtain ⟨u2, hu2, m2⟩ := l2 j u1 hu1
  exact ⟨u2, hu2, laws_markExprS.mkLike_trans m1 m2⟩
theorem laws_markExprS.mkSd.of_below {w w1 : World} (h : Below w.heap.size w w1) : laws_markExprS.mkSd w w1 := fun g t cs _ hg => ⟨cs, (h.block g (blk_lt hg)).trans hg, rfl, fun j u hu => ⟨u, hu, laws_markExprS.mkLike_refl u⟩⟩
theorem laws_markExprS.mkSd.set {w : World} {g j : Nat} {u v : Value} (hu : w.cell? ⟨g, j, none⟩ = some u) (hl : laws_markExprS.mkLike u v) : laws_markExprS.mkSd w (w.setCell ⟨g, j, none⟩ v) := by
  intro g' t cs ht hg
  by_cases e : g' = g
  · subst e
    refine ⟨cs.setIfInBounds j v, blk_set hg j v, Array.size_setIfInBounds, fun i x hx => ?_⟩
    by_cases ei : i = j
    · subst ei
      have hc : w.cell? ⟨g', i, none⟩ = cs[i]? := by unfold World.cell?; simp only [hg]; rfl
      rw [hc] at hu
      have : x = u := Option.some.inj (hx.symm.trans hu)
      subst this
      have hi : i < cs.size := (Array.getElem?_eq_some_iff.1 hx).1
      exact ⟨v, by rw [Array.getElem?_setIfInBounds_self_of_lt hi], hl⟩
    · exact ⟨x, by rw [Array.getElem?_setIfInBounds_ne (Ne.symm ei)]; exact hx, laws_markExprS.mkLike_refl x⟩
  · exact ⟨cs, (Below.heap_setCell w ⟨g, j, none⟩ v g' e).trans hg, rfl, fun i x hx => ⟨x, hx, laws_markExprS.mkLike_refl x⟩⟩
theorem laws_markExprS.mkText (a : Int) (ha : a ≤ 9223372036854775807) : ∃ k t, laws_markText.f k a = some t := by
  have key : ∀ (d : Nat) (x : Int) (s : ByteArray), x ≤ d → 0 ≤ x → (s.size : Int) + (x + 1) / 2 + 2 ≤ 9223372036854775807 → x ≤ 9223372036854775807 → ∃ k t, laws_markText.l0 k x s = some t := by
    intro d
    induction d with
    | zero =>
      intro x s hx h0 hs _
      refine ⟨1, (⟨#[109]⟩ : ByteArray) ++ s, ?_⟩
      simp only [laws_markText.l0]
      rw [if_neg (by omega), if_pos (by omega)]
    | succ d ih =>
      intro x s hx h0 hs hm
      by_cases h : x > 0
      · have e1 : Int.tdiv x 10 = x / 10 := Int.tdiv_eq_ediv_of_nonneg (by omega)
        have e2 : wrap64 (Int.tdiv x 10) = x / 10 := by rw [e1]; unfold wrap64; omega
        have hsz : (strOfNums [(wrap64 (48 + (Int.tmod x 10))) % 256]).size = 1 := by simp [strOfNums, ByteArray.size]
        have hsz2 : (strOfNums [(wrap64 (48 + (Int.tmod x 10))) % 256] ++ s).size = 1 + s.size := by rw [ByteArray.size_append, hsz]
        obtain ⟨k, t, hk⟩ := ih (x / 10) (strOfNums [(wrap64 (48 + (Int.tmod x 10))) % 256] ++ s) (by omega) (by omega) (by rw [hsz2]; push_cast; omega) (by omega)
        refine ⟨k + 1, t, ?_⟩
        simp only [laws_markText.l0, Option.bind_some]
        rw [if_pos h, if_pos (by rw [hsz]; omega), e2]
        exact hk
      · refine ⟨1, (⟨#[109]⟩ : ByteArray) ++ s, ?_⟩
        simp only [laws_markText.l0]
        rw [if_neg h, if_pos (by omega)]
  by_cases h : a ≤ 0
  · exact ⟨0, _, by unfold laws_markText.f; rw [if_pos h]⟩
  · obtain ⟨k, t, hk⟩ := key a.toNat a ⟨#[]⟩ (by omega) (by omega) (by show ((0 : Nat) : Int) + (a + 1) / 2 + 2 ≤ _; omega) ha
    exact ⟨k, t, by unfold laws_markText.f; rw [if_neg h]; exact hk⟩
theorem laws_markExprS.mkTop (a : Int) : wrap64 a ≤ 9223372036854775807 := by unfold wrap64; omega
structure laws_markExprS.mkSt (w0 w : World) (P : Nat → Prop) (wr : World) : Prop where
  s : laws_markExprS.mkSd w wr
  k : Kept w wr P
  b : Below w0.heap.size w0 wr
theorem laws_markExprS.mkSt.start {w0 w : World} (P : Nat → Prop) (h : Below w0.heap.size w0 w) : laws_markExprS.mkSt w0 w P w := ⟨laws_markExprS.mkSd.refl w, Kept.refl w P, h⟩
theorem laws_markExprS.mkSt.below {w0 w wr w1 : World} {P : Nat → Prop} (h : laws_markExprS.mkSt w0 w P wr) (hb : Below wr.heap.size wr w1) : laws_markExprS.mkSt w0 w P w1 := ⟨h.s.trans (laws_markExprS.mkSd.of_below hb), h.k.below hb, below_step h.b hb⟩
theorem laws_markExprS.mkSt.set {w0 w wr : World} {P : Nat → Prop} (h : laws_markExprS.mkSt w0 w P wr) {g j : Nat} {u v : Value} (hu : wr.cell? ⟨g, j, none⟩ = some u) (hl : laws_markExprS.mkLike u v) (hP : P g) (hg : w0.heap.size ≤ g) : laws_markExprS.mkSt w0 w P (wr.setCell ⟨g, j, none⟩ v) :=
  ⟨h.s.trans (laws_markExprS.mkSd.set hu hl), h.k.setCell (.inl hP) v, below_set h.b hg⟩
theorem laws_markExprS.mkLike_i (a b : Int) : laws_markExprS.mkLike (.int .i64 a) (.int .i64 b) := .inl ⟨_, _, rfl, rfl⟩
theorem laws_markExprS.mkLike_s (a b : ByteArray) : laws_markExprS.mkLike (.string a) (.string b) := .inr (.inl ⟨_, _, rfl, rfl⟩)
theorem laws_markExprS.mkSt.after {w0 w wr w2 : World} {P : Nat → Prop} (h : laws_markExprS.mkSt w0 w P wr) (k : laws_markExprS.mkSt w0 wr P w2) : laws_markExprS.mkSt w0 w P w2 := ⟨h.s.trans k.s, h.k.then_ k.k (fun _ hk => .inl hk), k.b⟩
mutual
/-- How the nodes lie: where, and of which sorts; not what they hold. -/
def laws_markExprS.skE (w : World) (P : Nat → Prop) (b : Nat) : S26 → Value → Prop
  | ⟨_, _, _, ks⟩, v => ∃ A c, v = .slice A ks.length c ∧ ks.length ≤ 9223372036854775807 ∧ laws_markExprS.skL w P b ks A 0
def laws_markExprS.skL (w : World) (P : Nat → Prop) (b : Nat) : List S26 → Option Addr → Nat → Prop
  | [], _, _ => True
  | x :: l, A, i => (∃ (g : Nat) (cs : Array Value) (a d : Int) (t : ByteArray) (v : Value), A = some ⟨g, 0, none⟩ ∧ P g ∧ b ≤ g ∧ w.heap[g]? = some (.cells cs 26 (0, 0)) ∧ cs[i * 4]? = some (.int .i64 a) ∧ cs[i * 4 + 1]? = some (.int .i64 d) ∧ cs[i * 4 + 2]? = some (.string t) ∧ cs[i * 4 + 3]? = some v ∧ laws_markExprS.skE w P b x v) ∧ laws_markExprS.skL w P b l A (i + 1)
end
theorem laws_markExprS.skE_val {w : World} {P : Nat → Prop} {b : Nat} {x : S26} {v : Value} (h : laws_markExprS.skE w P b x v) : ∃ A c, v = .slice A x.f3.length c := by
  cases x
  unfold laws_markExprS.skE at h
  obtain ⟨A, c, hv, _⟩ := h
  exact ⟨A, c, hv⟩
mutual
theorem laws_markExprS.skE_keep {w w' : World} {P : Nat → Prop} {b : Nat} (h : laws_markExprS.mkSd w w') : ∀ (x : S26) (v : Value), laws_markExprS.skE w P b x v → laws_markExprS.skE w' P b x v
  | ⟨_, _, _, ks⟩, v, hs => by
    unfold laws_markExprS.skE at hs ⊢
    obtain ⟨A, c, hv, hm, hl⟩ := hs
    exact ⟨A, c, hv, hm, laws_markExprS.skL_keep h ks A 0 hl⟩
theorem laws_markExprS.skL_keep {w w' : World} {P : Nat → Prop} {b : Nat} (h : laws_markExprS.mkSd w w') : ∀ (l : List S26) (A : Option Addr) (i : Nat), laws_markExprS.skL w P b l A i → laws_markExprS.skL w' P b l A i
  | [], _, _, _ => by unfold laws_markExprS.skL; trivial
  | x :: l, A, i, hs => by
    unfold laws_markExprS.skL at hs ⊢
    obtain ⟨⟨g, cs, a, d, t, v, hA, hP, hb, hg, h0, h1, h2, h3, hx⟩, hl⟩ := hs
    obtain ⟨cs', hg', hz, hk⟩ := h g _ cs rfl hg
    obtain ⟨u0, e0, l0⟩ := hk _ _ h0
    obtain ⟨u1, e1, l1⟩ := hk _ _ h1
    obtain ⟨u2, e2, l2⟩ := hk _ _ h2
    obtain ⟨u3, e3, l3⟩ := hk _ _ h3
    obtain ⟨b0, rfl⟩ := laws_markExprS.mkLike_int l0
    obtain ⟨b1, rfl⟩ := laws_markExprS.mkLike_int l1
    obtain ⟨b2, rfl⟩ := laws_markExprS.mkLike_str l2
    obtain ⟨A3, c3, rfl⟩ := laws_markExprS.skE_val hx
    obtain rfl := laws_markExprS.mkLike_slice l3
    exact ⟨⟨g, cs', b0, b1, b2, _, hA, hP, hb, hg', e0, e1, e2, e3, laws_markExprS.skE_keep h x _ hx⟩, laws_markExprS.skL_keep h l A (i + 1) hl⟩
end
theorem laws_markExprS.skL_get {w : World} {P : Nat → Prop} {b : Nat} : ∀ (l : List S26) (A : Option Addr) (j : Nat), laws_markExprS.skL w P b l A j → ∀ (i : Nat) (hi : i < l.length), ∃ (g : Nat) (cs : Array Value) (a d : Int) (t : ByteArray) (v : Value), A = some ⟨g, 0, none⟩ ∧ P g ∧ b ≤ g ∧ w.heap[g]? = some (.cells cs 26 (0, 0)) ∧ cs[(j + i) * 4]? = some (.int .i64 a) ∧ cs[(j + i) * 4 + 1]? = some (.int .i64 d) ∧ cs[(j + i) * 4 + 2]? = some (.string t) ∧ cs[(j + i) * 4 + 3]? = some v ∧ laws_markExprS.skE w P b l[i] v
  | [], _, _, _, i, hi => absurd hi (by simp)
  | x :: l, A, j, hs, i, hi => by
    unfold laws_markExprS.skL at hs
    cases i with
    | zero => exact hs.1
    | succ i =>
      have h2 := laws_markExprS.skL_get l A (j + 1) hs.2 i (by simpa using hi)
      rw [show j + 1 + i = j + (i + 1) by omega] at h2
      exact h2
theorem laws_markExprS.skL_of {w : World} {P : Nat → Prop} {b : Nat} : ∀ (l : List S26) (A : Option Addr) (j : Nat), (∀ (i : Nat) (hi : i < l.length), ∃ (g : Nat) (cs : Array Value) (a d : Int) (t : ByteArray) (v : Value), A = some ⟨g, 0, none⟩ ∧ P g ∧ b ≤ g ∧ w.heap[g]? = some (.cells cs 26 (0, 0)) ∧ cs[(j + i) * 4]? = some (.int .i64 a) ∧ cs[(j + i) * 4 + 1]? = some (.int .i64 d) ∧ cs[(j + i) * 4 + 2]? = some (.string t) ∧ cs[(j + i) * 4 + 3]? = some v ∧ laws_markExprS.skE w P b l[i] v) → laws_markExprS.skL w P b l A j
  | [], _, _, _ => by unfold laws_markExprS.skL; trivial
  | x :: l, A, j, h => by
    unfold laws_markExprS.skL
    refine ⟨h 0 (by simp), laws_markExprS.skL_of l A (j + 1) (fun i hi => ?_)⟩
    have h2 := h (i + 1) (by simpa using hi)
    rw [show j + (i + 1) = j + 1 + i by omega] at h2
    exact h2
theorem laws_markExprS.sk_of_R {P : Nat → Prop} {base : Nat} {w : World} : ∀ (n : Nat) (xs : List S26), SizeOf.sizeOf xs < n → ∀ (ok : Nat → Prop) (v : Value), (∀ k, ok k → P k) → Kd.R k26 26 w base ok v xs → ∃ A c, v = .slice A xs.length c ∧ xs.length ≤ 9223372036854775807 ∧ laws_markExprS.skL w P base xs A 0
  | 0, _, h => absurd h (by omega)
  | n + 1, xs, hn => by
    intro ok v hok hR
    obtain ⟨h0, inner, ho, hr⟩ := hR
    obtain ⟨h1, h2⟩ := ho
    rcases h2 with ⟨rfl, hz⟩ | ⟨g, cap, cur, rfl, hb, hg, hnc, hm, hsz, htk⟩
    · have : xs = [] := List.eq_nil_of_length_eq_zero hz
      subst this
      exact ⟨none, 0, rfl, by simp, by unfold laws_markExprS.skL; trivial⟩
    · refine ⟨_, cap, rfl, by simp only [maxLen] at hm; omega, laws_markExprS.skL_of _ _ _ (fun i hi => ?_)⟩
      have hM := hr.2 i xs[i] (List.getElem?_eq_getElem hi)
      obtain ⟨v3, e, hR3⟩ := k26_openM hM
      have cell : ∀ q u, ([.int .i64 (xs[i]).f0, .int .i64 (xs[i]).f1, .string (xs[i]).f2, v3] : List Value)[q]? = some u → cur[i * 4 + q]? = some u := by
        intro q u hu
        rw [← e] at hu
        have hu2 : (List.take 4 (List.drop (i * 4) inner))[q]? = some u := hu
        rw [List.getElem?_take] at hu2
        split at hu2
        · rw [List.getElem?_drop, ← htk, List.getElem?_take] at hu2
          split at hu2
          · rw [Array.getElem?_toList] at hu2
            exact hu2
          · cases hu2
        · cases hu2
      have hs : SizeOf.sizeOf (xs[i]).f3 < n := by
        have h3 := List.sizeOf_lt_of_mem (List.getElem_mem hi)
        have h4 : SizeOf.sizeOf (xs[i]).f3 < SizeOf.sizeOf xs[i] := by
          cases xs[i]
          simp only [S26.mk.sizeOf_spec]
          omega
        omega
      obtain ⟨A3, c3, ev, hl3, hk3⟩ := laws_markExprS.sk_of_R n (xs[i]).f3 hs _ v3 (fun k hk => hok k hk.1) hR3
      refine ⟨g, cur, (xs[i]).f0, (xs[i]).f1, (xs[i]).f2, v3, rfl, hok g (h0 g rfl), hb, hg, ?_, ?_, ?_, ?_, ?_⟩
      · have := cell 0 _ rfl; simpa using this
      · have := cell 1 _ rfl; simpa using this
      · have := cell 2 _ rfl; simpa using this
      · have := cell 3 _ rfl; simpa using this
      · show laws_markExprS.skE w P base xs[i] v3
        generalize xs[i] = x at hk3 ev hl3
        cases x
        unfold laws_markExprS.skE
        exact ⟨A3, c3, ev, hl3, hk3⟩
mutual
/-- The number behind the marks: it hangs on the shape alone. -/
def laws_markExprS.cE : S26 → Int → Int
  | ⟨_, _, _, ks⟩, a => laws_markExprS.cS ks (wrap64 (wrap64 (wrap64 (a + 1) + 1) + 1))
def laws_markExprS.cS : List S26 → Int → Int
  | [], a => a
  | x :: l, a => laws_markExprS.cS l (laws_markExprS.cE x a)
end
theorem laws_markExprS.cE_eq (x : S26) (a : Int) : laws_markExprS.cE x a = laws_markExprS.cS x.f3 (wrap64 (wrap64 (wrap64 (a + 1) + 1) + 1)) := by
  cases x
  rw [laws_markExprS.cE]
theorem laws_markExprS.cS_step (xs : List S26) (i : Nat) (hi : i < xs.length) (a : Int) : laws_markExprS.cS (xs.drop i) a = laws_markExprS.cS (xs.drop (i + 1)) (laws_markExprS.cS (xs[i]).f3 (wrap64 (wrap64 (wrap64 (a + 1) + 1) + 1))) := by
  rw [List.drop_eq_getElem_cons hi, laws_markExprS.cS, laws_markExprS.cE_eq]
theorem laws_markExprS.el {w w1 : World} {P : Nat → Prop} {b : Nat} {xs : List S26} {A : Option Addr} (hs : laws_markExprS.mkSd w w1) (hk : laws_markExprS.skL w P b xs A 0) (i : Nat) (hi : i < xs.length) :
    ∃ (g : Nat) (a d : Int) (t : ByteArray) (A3 : Option Addr) (c3 : Nat), A = some ⟨g, 0, none⟩ ∧ P g ∧ b ≤ g ∧ w1.cell? ⟨g, i * 4, none⟩ = some (.int .i64 a) ∧ w1.cell? ⟨g, i * 4 + 1, none⟩ = some (.int .i64 d) ∧ w1.cell? ⟨g, i * 4 + 2, none⟩ = some (.string t) ∧ w1.cell? ⟨g, i * 4 + 3, none⟩ = some (.slice A3 (xs[i]).f3.length c3)
      ∧ w1.frozen? ⟨g, i * 4, none⟩ = false ∧ w1.frozen? ⟨g, i * 4 + 1, none⟩ = false ∧ w1.frozen? ⟨g, i * 4 + 2, none⟩ = false ∧ (xs[i]).f3.length ≤ 9223372036854775807 ∧ laws_markExprS.skL w1 P b (xs[i]).f3 A3 0 := by
  obtain ⟨g, cs, a, d, t, v, hA, hP, hb, hg, h0, h1, h2, h3, hx⟩ := laws_markExprS.skL_get _ _ _ (laws_markExprS.skL_keep hs _ _ _ hk) i hi
  rw [Nat.zero_add] at h0 h1 h2 h3
  have cell : ∀ q u, cs[q]? = some u → w1.cell? ⟨g, q, none⟩ = some u := fun q u hu => by unfold World.cell?; simp only [hg]; exact hu
  have frz : ∀ q, w1.frozen? ⟨g, q, none⟩ = false := fun q => by unfold World.frozen?; simp [hg]
  have hx2 : ∃ A c, v = .slice A (xs[i]).f3.length c ∧ (xs[i]).f3.length ≤ 9223372036854775807 ∧ laws_markExprS.skL w1 P b (xs[i]).f3 A 0 := by
    revert hx
    generalize xs[i] = x
    intro hx
    cases x
    unfold laws_markExprS.skE at hx
    exact hx
  obtain ⟨A3, c3, rfl, hl3, hk3⟩ := hx2
  exact ⟨g, a, d, t, A3, c3, hA, hP, hb, cell _ _ h0, cell _ _ h1, cell _ _ h2, cell _ _ h3, frz _, frz _, frz _, hl3, hk3⟩
theorem laws_markExprS.size_lt {xs : List S26} {i n : Nat} (hi : i < xs.length) (hn : SizeOf.sizeOf xs < n + 1) : SizeOf.sizeOf (xs[i]).f3 < n := by
  have h3 := List.sizeOf_lt_of_mem (List.getElem_mem hi)
  have h4 : SizeOf.sizeOf (xs[i]).f3 < SizeOf.sizeOf xs[i] := by
    cases xs[i]
    simp only [S26.mk.sizeOf_spec]
    omega
  omega
set_option maxHeartbeats 8000000 in
set_option maxRecDepth 100000 in
theorem laws_markExprS.walk : ∀ (n : Nat) (xs : List S26), SizeOf.sizeOf xs < n → ∀ (P : Nat → Prop) (A : Option Addr) (c : Nat) (a1 : Int) (w0 w : World), Below w0.heap.size w0 w → xs.length ≤ 9223372036854775807 → laws_markExprS.skL w P w0.heap.size xs A 0 →
    Calls Try.prog 47 #[.slice A xs.length c, .int .i64 a1] w fun e w' => e = .returned (.int .i64 (laws_markExprS.cS xs a1)) ∧ laws_markExprS.mkSt w0 w P w'
  | 0, _, h => absurd h (by omega)
  | n + 1, xs, hn => by
    intro P A c a1 w0 w hB hM hK
    have HK := Aside0.mk hK
    have HS := Aside0.mk (laws_markExprS.mkSt.start P hB)
    have HM := Aside0.mk hM
    have HN := Aside0.mk hn
    obtain ⟨r, hr⟩ : ∃ r, laws_markExprS.cS xs a1 = r := ⟨_, rfl⟩
    rw [hr]
    have HR := Aside0.mk (show laws_markExprS.cS (xs.drop 0) a1 = r from hr)
    have IH := Aside0.mk (laws_markExprS.walk n)
    clear hK hB hM hn hr
    go_enter Try.func47, Try.ntmps47
    go_wp2
    go_loopg [1, 5] xs.length (fun kq v1 v5 w' => ∃ (i : Nat) (x : Int), v1 = .int .i64 x ∧ v5 = .int .i64 (i : Int) ∧ Aside0 (i + kq = xs.length) ∧ Aside0 (laws_markExprS.cS (xs.drop i) x = r) ∧ Aside0 (laws_markExprS.mkSt w0 w P w'))
    case atStart => exact ⟨0, a1, rfl, rfl, ⟨by omega⟩, HR, HS⟩
    case round =>
      clear HR HS
      obtain ⟨i, x, rfl, rfl, HI, HR, HS⟩ := hrel
      cases gk with
      | zero =>
        have hi := HI.out
        have c3b : decide ((i : Int) < (xs.length : Int)) = false := decide_eq_false (by omega)
        have hn : x = r := by
          have := HR.out
          rw [List.drop_of_length_le (by omega), laws_markExprS.cS] at this
          exact this
        subst hn
        have q1 : i = xs.length := by omega
        subst q1
        clear hi c3b
        go_wp2
        go_ret
        exact ⟨rfl, HS.out⟩
      | succ k1 =>
        have hi := HI.out
        have c3b : decide ((i : Int) < (xs.length : Int)) = true := decide_eq_true (by omega)
        have p5 := eq_true (show 0 ≤ (i : Int) by omega)
        have q5 := eq_true (show (i : Int) < (xs.length : Int) by omega)
        have HX : Aside0 (i < xs.length) := ⟨by omega⟩
        clear hi
        obtain ⟨k, t, ht⟩ := laws_markExprS.mkText (wrap64 (wrap64 (x + 1) + 1)) (laws_markExprS.mkTop _)
        have HT := Aside0.mk ht
        clear ht
        obtain ⟨g, a, d, s, A3, c3, eA, hP, hg, x0, x1, x2, x3, f0, f1, f2, hl3, hk3⟩ := laws_markExprS.el HS.out.s HK.out i HX.out
        subst eA
        have GP := Aside0.mk hP
        have GB := Aside0.mk hg
        clear hP hg hl3 hk3
        go_wp2_with (first
          | ((with_reducible refine gate_store (t := 2) (p := 16) rfl ?_); refine store_event (t := 2) (p := 16) (v := ?vo_w12) (w1 := (wr.setCell ⟨g, i * 4, none⟩ (.int .i64 x))) ?hg ?ho ?hn ?hr ?_; (case ho => rfl); (case hg => rfl); (case hn => rfl); (case hr => first | (go_simp; done) | (go_simp; rfl)); intro w12 hw; have n0 : Aside0 (laws_markExprS.mkSt w0 w P w12) := ⟨by rw [hw]; exact HS.out.set x0 (laws_markExprS.mkLike_i _ _) GP.out GB.out⟩; clear HS hw x0 x1 x2 x3 f0 f1 f2; have HS := n0; clear n0; obtain ⟨g_, a, d, s, A3, c3, eA, _, _, x0, x1, x2, x3, f0, f1, f2, hl3, hk3⟩ := laws_markExprS.el HS.out.s HK.out i HX.out; cases eA; clear hl3 hk3)
          | ((with_reducible refine gate_store (t := 2) (p := 23) rfl ?_); refine store_event (t := 2) (p := 23) (v := ?vo_w14) (w1 := (w12.setCell ⟨g, i * 4 + 1, none⟩ (.int .i64 (wrap64 (x + 1))))) ?hg ?ho ?hn ?hr ?_; (case ho => rfl); (case hg => rfl); (case hn => rfl); (case hr => first | (go_simp; done) | (go_simp; rfl)); intro w14 hw; have n0 : Aside0 (laws_markExprS.mkSt w0 w P w14) := ⟨by rw [hw]; exact HS.out.set x1 (laws_markExprS.mkLike_i _ _) GP.out GB.out⟩; clear HS hw x0 x1 x2 x3 f0 f1 f2; have HS := n0; clear n0)
          | ((with_reducible refine gate_callee (f := 46) rfl ?_); refine goesL_ (some 29) rfl rfl Try.func46 (by kernel_rfl) rfl #[.int .i64 (wrap64 ((wrap64 (x + 1)) + 1))] rfl (by (try simp only [List.map_toArray, List.map_cons, List.map_nil]); first | done | rfl) ?_; (with_reducible refine (laws_markText.calls k (wrap64 ((wrap64 (x + 1)) + 1)) t _ HT.out).mono ?_); rintro e w15 ⟨rfl, hb⟩; refine ⟨_, rfl, ?_⟩; have n0 : Aside0 (laws_markExprS.mkSt w0 w P w15) := ⟨HS.out.below hb⟩; clear HS hb; have HS := n0; clear n0; obtain ⟨g_, a, d, s, A3, c3, eA, _, _, x0, x1, x2, x3, f0, f1, f2, hl3, hk3⟩ := laws_markExprS.el HS.out.s HK.out i HX.out; cases eA; clear hl3 hk3)
          | ((with_reducible refine gate_store (t := 9) (p := 31) rfl ?_); refine store_event (t := 9) (p := 31) (v := ?vo_w17) (w1 := (w15.setCell ⟨g, i * 4 + 2, none⟩ (.string t))) ?hg ?ho ?hn ?hr ?_; (case ho => rfl); (case hg => rfl); (case hn => rfl); (case hr => first | (go_simp; done) | (go_simp; rfl)); intro w17 hw; have n0 : Aside0 (laws_markExprS.mkSt w0 w P w17) := ⟨by rw [hw]; exact HS.out.set x2 (laws_markExprS.mkLike_s _ _) GP.out GB.out⟩; clear HS hw x0 x1 x2 x3 f0 f1 f2; have HS := n0; clear n0; obtain ⟨g_, a, d, s, A3, c3, eA, _, _, x0, x1, x2, x3, f0, f1, f2, hl3, hk3⟩ := laws_markExprS.el HS.out.s HK.out i HX.out; cases eA; have HL3 := Aside0.mk hl3; have HK3 := Aside0.mk hk3; clear hl3 hk3)
          | ((with_reducible refine gate_callee (f := 47) rfl ?_); refine goesL_ (some 40) rfl rfl Try.func47 (by kernel_rfl) rfl #[.slice A3 (xs[i]'HX.out).f3.length c3, .int .i64 (wrap64 (wrap64 ((wrap64 (x + 1)) + 1) + 1))] rfl (by (try simp only [List.map_toArray, List.map_cons, List.map_nil]); first | done | rfl) ?_; refine (IH.out (xs[i]'HX.out).f3 (laws_markExprS.size_lt HX.out HN.out) P A3 c3 (wrap64 (wrap64 ((wrap64 (x + 1)) + 1) + 1)) w0 w17 HS.out.b HL3.out HK3.out).mono ?_; rintro e w18 ⟨rfl, hb⟩; refine ⟨_, rfl, ?_⟩; have n0 : Aside0 (laws_markExprS.mkSt w0 w P w18) := ⟨HS.out.after hb⟩; clear HS hb x0 x1 x2 x3 f0 f1 f2; have HS := n0; clear n0))
        go_roundg k1
        case measure => omega
        case rel => exact ⟨i + 1, laws_markExprS.cS (xs[i]'HX.out).f3 (wrap64 (wrap64 (wrap64 (x + 1) + 1) + 1)), rfl, congrArg (Value.int .i64) (by have := HX.out; have := HM.out; unfold wrap64; omega), ⟨by have := HI.out; omega⟩, ⟨(laws_markExprS.cS_step xs i HX.out x).symm.trans HR.out⟩, HS⟩
def laws_markExprS.f (l0 : List S26) (a1 : Int) : Option Int := some (laws_markExprS.cS l0 a1)
theorem laws_markExprS.calls (P0_ : Nat → Prop) (u9000_ : Value) (l0 : List S26) (a1 : Int) (r1 : Int) (w0 w : World) (hB : Below w0.heap.size w0 w) (ho0 : Kd.R k26 26 w w0.heap.size P0_ u9000_ l0) (h : laws_markExprS.f l0 a1 = some r1) :
    Calls Try.prog 47 #[u9000_, .int .i64 a1] w fun e w' => e = .returned (.int .i64 r1) ∧ Below w0.heap.size w0 w' ∧ Kept w w' (fun k_ => P0_ k_ ∧ w0.heap.size ≤ k_ ∧ k_ < w.heap.size ∧ ∃ q, q ∈ 26 :: k26.E ∧ ∃ cells, w.heap[k_]? = some (.cells cells q (0, 0))) := by
  obtain rfl := Option.some.inj h
  obtain ⟨A, c, rfl, hm, hk⟩ := laws_markExprS.sk_of_R _ l0 (Nat.lt_succ_self _) _ _ (fun _ h => h) (Kd.R_bound ho0)
  exact (laws_markExprS.walk _ l0 (Nat.lt_succ_self _) _ A c a1 w0 w hB hm hk).mono (fun e w' hh => ⟨hh.1, hh.2.b, hh.2.k⟩)
theorem laws_markExprS.wk (P : Nat → Prop) (xs : List S26) (A : Option Addr) (c : Nat) (a1 : Int) (w0 w : World) (hB : Below w0.heap.size w0 w) (hR : Kd.R k26 26 w w0.heap.size P (.slice A xs.length c) xs) :
    Calls Try.prog 47 #[.slice A xs.length c, .int .i64 a1] w fun e w' => e = .returned (.int .i64 (laws_markExprS.cS xs a1)) ∧ laws_markExprS.mkSt w0 w P w' := by
  obtain ⟨A', c', e, hm, hk⟩ := laws_markExprS.sk_of_R _ xs (Nat.lt_succ_self _) _ _ (fun _ h => h) hR
  injection e with e1 e2 e3
  subst e1 e3
  exact laws_markExprS.walk _ xs (Nat.lt_succ_self _) P A c a1 w0 w hB hm hk

/-! ### laws_markExpr: function 14 -/
def laws_markExpr.f (a0_0 a0_1 : Int) (a0_2 : ByteArray) (l0_3 : List S26) (a1 : Int) : Option Int := some (laws_markExprS.cS l0_3 a1)
set_option maxHeartbeats 8000000 in
set_option maxRecDepth 100000 in
theorem laws_markExpr.mkMH (a0_0 a0_1 : Int) (a0_2 : ByteArray) (P : Nat → Prop) (u : Value) (xs : List S26) (a1 : Int) (r1 : Int) (w0 w : World) (hB : Below w0.heap.size w0 w) (hR : Kd.R k26 26 w w0.heap.size P u xs) (h : laws_markExprS.cS xs a1 = r1) :
    Calls Try.prog 14 #[.agg #[.int .i64 a0_0, .int .i64 a0_1, .string a0_2, u], .int .i64 a1] w fun e w' => e = .returned (.int .i64 r1) ∧ Below w0.heap.size w0 w' ∧ Kept w w' (fun k_ => P k_) := by
  have hu32 := Try.underlying26
  have HR := Aside0.mk hR
  have HS := Aside0.mk (laws_markExprS.mkSt.start P hB)
  have HN := Aside0.mk h
  clear hB hR h
  obtain ⟨A, c, eu⟩ := Kd.R_slice HR.out
  subst eu
  go_enter Try.func14, Try.ntmps14
  go_wp2_with (first
    | ((with_reducible refine gate_dst (N := 2) rfl ?_); refine box_event ?hg (N := 2) ?hd (cs := #[.int .i64 a0_0, .int .i64 a0_1, .string a0_2, .slice A xs.length c]) (t := 26) ?hr ?_; (case hd => rfl); (case hg => rfl); (case hr => first | (go_simp; done) | (go_simp; rfl)); intro gb hg w6 hbox hb; have BK := Aside0.mk hbox; have n0 : Aside0 (laws_markExprS.mkSt w0 w P w6) := ⟨HS.out.below hb⟩; have n1 : Aside0 (Kd.R k26 26 w6 w0.heap.size P (.slice A xs.length c) xs) := ⟨Kd.R_below HR.out hb⟩; clear HS HR hb hbox hg; have HS := n0; have HR := n1; clear n0 n1; obtain ⟨x0, x1, x2, x3⟩ := cells4 BK.out)
    | ((with_reducible refine gate_callee (f := 47) rfl ?_); refine goesL_ (some 8) rfl rfl Try.func47 (by kernel_rfl) rfl #[.slice A xs.length c, .int .i64 a1] rfl (by (try simp only [List.map_toArray, List.map_cons, List.map_nil]); first | done | rfl) ?_; (with_reducible refine (laws_markExprS.wk P xs A c a1 w0 w6 HS.out.b HR.out).mono ?_); rintro e_ w7 ⟨rfl, hb⟩; refine ⟨_, rfl, ?_⟩; have n0 : Aside0 (laws_markExprS.mkSt w0 w P w7) := ⟨HS.out.after hb⟩; rw [HN.out]; clear HS hb HR x0 x1 x2 x3 BK; have HS := n0; clear n0))
  go_ret
  exact ⟨rfl, HS.out.b, HS.out.k⟩
theorem laws_markExpr.calls (a0_0 a0_1 : Int) (a0_2 : ByteArray) (P0_ : Nat → Prop) (u : Value) (xs : List S26) (a1 : Int) (r1 : Int) (w0 w : World) (hB : Below w0.heap.size w0 w) (hR : Kd.R k26 26 w w0.heap.size P0_ u xs) (h : laws_markExpr.f a0_0 a0_1 a0_2 xs a1 = some r1) :
    Calls Try.prog 14 #[.agg #[.int .i64 a0_0, .int .i64 a0_1, .string a0_2, u], .int .i64 a1] w fun e w' => e = .returned (.int .i64 r1) ∧ Below w0.heap.size w0 w' ∧ Kept w w' (fun k_ => P0_ k_ ∧ w0.heap.size ≤ k_ ∧ k_ < w.heap.size ∧ ∃ q, q ∈ 26 :: k26.E ∧ ∃ cells, w.heap[k_]? = some (.cells cells q (0, 0))) := laws_markExpr.mkMH a0_0 a0_1 a0_2 _ u xs a1 r1 w0 w hB (Kd.R_bound hR) (Option.some.inj h)
end Go.Proofs.Ytmebimamjgnlpaa.PFnExactCompileExpr
