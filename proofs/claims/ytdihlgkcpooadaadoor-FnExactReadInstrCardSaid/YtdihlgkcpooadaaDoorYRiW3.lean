/- Words of the print, and of mine. -/
import Derived.ChangeSlices
import Derived.SizedLaws
import Derived.Test.YtdihlgkcpooadaaDoorYRiW2
section
namespace Go.Proofs.YtdihlgkcpooadaaDoorG
open Go.RowKit Go.Proofs.YtdihlgkcpooadaaDoorW.PrintWords
set_option linter.unusedVariables false
class FineC (α : Type) where
  fine : α → Prop
def Fine {α : Type} [FineC α] (a : α) : Prop := FineC.fine a
instance : FineC Int := ⟨fun x => -9223372036854775808 ≤ x ∧ x ≤ 9223372036854775807⟩
instance : FineC ByteArray := ⟨fun s => s.size ≤ 1048576⟩
instance : FineC Bool := ⟨fun _ => True⟩
instance {α : Type} [FineC α] : FineC (List α) := ⟨fun l => l.length ≤ 1048576 ∧ ∀ a, a ∈ l → FineC.fine a⟩
instance {α β : Type} [FineC α] [FineC β] : FineC (α × β) := ⟨fun p => FineC.fine p.1 ∧ FineC.fine p.2⟩
theorem Fine.i64 {x : Int} (h : Fine x) : -9223372036854775808 ≤ x ∧ x ≤ 9223372036854775807 := h
theorem Fine.size {s : ByteArray} (h : Fine s) : s.size ≤ 1048576 := h
theorem Fine.len {α : Type} [FineC α] {l : List α} (h : Fine l) : l.length ≤ 1048576 := h.1
theorem Fine.mem {α : Type} [FineC α] {l : List α} (h : Fine l) {a : α} (ha : a ∈ l) : Fine a := h.2 a ha
theorem Fine.fst {α β : Type} [FineC α] [FineC β] {p : α × β} (h : Fine p) : Fine p.1 := h.1
theorem Fine.snd {α β : Type} [FineC α] [FineC β] {p : α × β} (h : Fine p) : Fine p.2 := h.2
theorem Fine.list {α : Type} [FineC α] {l : List α} (h : l.length ≤ 1048576) (k : ∀ a, a ∈ l → Fine a) : Fine l := ⟨h, k⟩
theorem Fine.bool (b : Bool) : Fine b := trivial
def Sz (g : Nat → Option Int) (a : Int) (P : Prop) : Prop := ∃ v, Ev g v ∧ v ≤ a ∧ (0 ≤ v → P)
theorem sz_neg {a : Int} {P : Prop} (h : 0 ≤ a) : Sz (fun _ => some (-1)) a P := ⟨-1, ev_some _, by omega, fun h => absurd h (by omega)⟩
theorem sz_if {f : Nat → Option Int} {a s A : Int} {P : Prop} (hA : 0 ≤ A) (h0 : 0 ≤ a) (h1 : a ≤ 1048576) (hs : 0 ≤ s) (hs1 : s ≤ 9223372036854775807)
    (k : s ≤ a → 0 ≤ a - s → wrap64 (a - s) = a - s → Sz f A P) : Sz (fun n => if wrap64 (a - s) < 0 then some (-1) else f n) A P := by
  have e : wrap64 (a - s) = a - s := wrap_id (by omega) (by omega)
  by_cases c : wrap64 (a - s) < 0
  · obtain ⟨v, hv, r⟩ := sz_neg (a := A) (P := P) hA
    exact ⟨v, ev_pos c hv, r⟩
  · obtain ⟨v, hv, r⟩ := k (by omega) (by omega) e
    exact ⟨v, ev_neg c hv, r⟩
theorem sz_bind {g : Nat → Option Int} {f : Nat → Int → Option Int} {a A : Int} {P Q : Prop} (hA : 0 ≤ A) (hg : Sz g a Q)
    (k : ∀ v, 0 ≤ v → v ≤ a → Q → Sz (fun n => f n v) A P) : Sz (fun n => (g n).bind fun t => if t < 0 then some (-1) else f n t) A P := by
  obtain ⟨v, hv, hle, hq⟩ := hg
  by_cases c : v < 0
  · obtain ⟨u, hu, r⟩ := sz_neg (a := A) (P := P) hA
    exact ⟨u, ev_bind hv (ev_pos c hu), r⟩
  · obtain ⟨u, hu, r⟩ := k v (by omega) hle (hq (by omega))
    exact ⟨u, ev_bind hv (ev_neg c hu), r⟩
theorem sz_fold (v : Int) (f : Int → Option Int) : ((if v < 0 then some (-1) else some v).bind fun t => if t < 0 then some (-1) else f t) = if v < 0 then some (-1) else f v := by
  by_cases h : v < 0
  · rw [if_pos h, if_pos h]; rfl
  · rw [if_neg h, if_neg h, Option.bind_some, if_neg h]
theorem sz_mono {g : Nat → Option Int} {a : Int} {P Q : Prop} (h : Sz g a P) (k : P → Q) : Sz g a Q := by
  obtain ⟨v, hv, hle, hq⟩ := h
  exact ⟨v, hv, hle, fun h => k (hq h)⟩
theorem sz_loop {α : Type} (g : Nat → List α → Int → Int → Option Int) (p : Nat → α → Int → Option Int) (rd_ : List α → Int → α) (P : α → Prop)
    (hg : ∀ k xs n i, g (k + 1) xs n i = if i < (xs.length : Int) then (if 0 ≤ i then ((p k (rd_ xs i) n).bind fun t => if t < 0 then some (-1) else g k xs t (wrap64 (i + 1))) else none) else some n)
    (hrd : ∀ (xs : List α) (i : Nat) (h : i < xs.length), rd_ xs (i : Int) = xs[i]) (xs : List α) (hl : xs.length ≤ 9223372036854775807) (n : Int) (h0 : 0 ≤ n)
    (hp : ∀ x, x ∈ xs → ∀ m, 0 ≤ m → m ≤ n → Sz (fun k => p k x m) m (P x)) : Sz (fun k => g k xs n 0) n (∀ x, x ∈ xs → P x) := by
  suffices h : ∀ d i : Nat, i ≤ xs.length → xs.length - i = d → ∀ m, 0 ≤ m → m ≤ n → Sz (fun k => g k xs m (i : Int)) m (∀ x, x ∈ xs.drop i → P x) by
    have := h xs.length 0 (Nat.zero_le _) (Nat.sub_zero _) n h0 (Int.le_refl _)
    simpa using this
  intro d
  induction d with
  | zero =>
    intro i hi hd m hm hm1
    refine ⟨m, Ev.step (fun k => hg k xs _ _) (ev_neg (by omega) (ev_some _)), Int.le_refl _, fun _ => ?_⟩
    rw [List.drop_of_length_le (by omega)]
    intro x hx
    cases hx
  | succ d ih =>
    intro i hi hd m hm hm1
    have hlt : i < xs.length := by omega
    obtain ⟨v, hv, hle, hq⟩ := hp xs[i] (List.getElem_mem hlt) m hm hm1
    by_cases c : v < 0
    · refine ⟨-1, Ev.step (fun k => hg k xs _ _) (ev_pos (by omega) (ev_pos (by omega) ?_)), by omega, fun h => absurd h (by omega)⟩
      rw [hrd xs i hlt]
      exact ev_bind hv (ev_pos c (ev_some _))
    · obtain ⟨u, hu, hule, huq⟩ := ih (i + 1) (by omega) (by omega) v (by omega) (by omega)
      refine ⟨u, Ev.step (fun k => hg k xs _ _) (ev_pos (by omega) (ev_pos (by omega) ?_)), by omega, fun h => ?_⟩
      · rw [hrd xs i hlt, wrap_up (by omega) (show (i : Int) < (xs.length : Int) by omega) hl]
        refine ev_bind hv (ev_neg c ?_)
        simpa using hu
      · rw [List.drop_eq_getElem_cons hlt]
        intro x hx
        rcases List.mem_cons.1 hx with rfl | hx
        · exact hq (by omega)
        · exact huq h x hx
theorem bne_ff {α : Type} [BEq α] [ReflBEq α] (a : α) : ¬ ((a != a) = true) := by rw [bne, ReflBEq.rfl]; decide
theorem ev_skip {c : Prop} [Decidable c] {f : Nat → Option Bool} (h : ¬ c → Ev f true) : Ev (fun n => if c then some true else f n) true := by
  by_cases hc : c
  · exact ev_pos hc (ev_some _)
  · exact ev_neg hc (h hc)
def To {α : Type} [FineC α] (g : Nat → Option α) : Prop := ∃ v, Ev g v ∧ Fine v
theorem to_some {α : Type} [FineC α] {v : α} (h : Fine v) : To (fun _ => some v) := ⟨v, ev_some v, h⟩
theorem to_bind {α β : Type} [FineC α] [FineC β] {g : Nat → Option α} {f : Nat → α → Option β} (hg : To g) (k : ∀ v, Fine v → To (fun n => f n v)) : To (fun n => (g n).bind (f n)) := by
  obtain ⟨v, hv, h⟩ := hg
  obtain ⟨u, hu, r⟩ := k v h
  exact ⟨u, ev_bind hv hu, r⟩
theorem to_if {β : Type} [FineC β] {c : Prop} [Decidable c] {f g : Nat → Option β} (hc : c) (k : To f) : To (fun n => if c then f n else g n) := by
  obtain ⟨u, hu, r⟩ := k
  exact ⟨u, ev_pos hc hu, r⟩
theorem to_loop {α β : Type} [FineC β] (g : Nat → List α → List β → Int → Option (List β)) (p : Nat → α → Option β) (rd_ : List α → Int → α)
    (hg : ∀ k xs ys i, g (k + 1) xs ys i = if i < (xs.length : Int) then (if 0 ≤ i then ((p k (rd_ xs i)).bind fun t => if i < (ys.length : Int) then g k xs (ys.set (i : Int).toNat t) (wrap64 (i + 1)) else none) else none) else some ys)
    (hrd : ∀ (xs : List α) (i : Nat) (h : i < xs.length), rd_ xs (i : Int) = xs[i]) (xs : List α) (hl : xs.length ≤ 1048576) (z : β)
    (hp : ∀ x, x ∈ xs → To (fun k => p k x)) : To (fun k => g k xs (List.replicate ((xs.length : Int)).toNat z) 0) := by
  suffices h : ∀ d i : Nat, i ≤ xs.length → xs.length - i = d → ∀ ys : List β, ys.length = xs.length → (∀ b, b ∈ ys.take i → Fine b) → To (fun k => g k xs ys (i : Int)) by
    have := h xs.length 0 (Nat.zero_le _) (Nat.sub_zero _) (List.replicate ((xs.length : Int)).toNat z) (by simp) (by simp)
    simpa using this
  intro d
  induction d with
  | zero =>
    intro i hi hd ys hy hb
    refine ⟨ys, Ev.step (fun k => hg k xs _ _) (ev_neg (by omega) (ev_some _)), Fine.list (by omega) ?_⟩
    rw [List.take_of_length_le (by omega)] at hb
    exact hb
  | succ d ih =>
    intro i hi hd ys hy hb
    have hlt : i < xs.length := by omega
    obtain ⟨v, hv, hq⟩ := hp xs[i] (List.getElem_mem hlt)
    obtain ⟨u, hu, r⟩ := ih (i + 1) (by omega) (by omega) (ys.set i v) (by simpa using hy) (fun b hb' => by
      rw [List.take_succ_eq_append_getElem (by simp; omega), List.getElem_set_self, List.take_set_of_le (by omega)] at hb'
      rcases List.mem_append.1 hb' with h1 | h1
      · exact hb b h1
      · rw [List.mem_singleton.1 h1]; exact hq)
    refine ⟨u, Ev.step (fun k => hg k xs _ _) (ev_pos (by omega) (ev_pos (by omega) ?_)), r⟩
    rw [hrd xs i hlt, wrap_up (by omega) (show (i : Int) < (xs.length : Int) by omega) (by omega)]
    refine ev_bind hv (ev_pos (by omega) ?_)
    simpa using hu
theorem eq_loop {α : Type} (g : Nat → List α → List α → Int → Option Bool) (p : Nat → α → α → Option Bool) (rd_ : List α → Int → α)
    (hg : ∀ k xs ys i, g (k + 1) xs ys i = if i < (xs.length : Int) then (if 0 ≤ i then (if i < (ys.length : Int) then ((p k (rd_ xs i) (rd_ ys i)).bind fun t => if t = true then g k xs ys (wrap64 (i + 1)) else some false) else none) else none) else some true)
    (hrd : ∀ (xs : List α) (i : Nat) (h : i < xs.length), rd_ xs (i : Int) = xs[i]) (xs : List α) (hl : xs.length ≤ 1048576)
    (hp : ∀ x, x ∈ xs → Ev (fun k => p k x x) true) : Ev (fun k => g k xs xs 0) true := by
  suffices h : ∀ d i : Nat, i ≤ xs.length → xs.length - i = d → Ev (fun k => g k xs xs (i : Int)) true by
    have := h xs.length 0 (Nat.zero_le _) (Nat.sub_zero _)
    simpa using this
  intro d
  induction d with
  | zero =>
    intro i hi hd
    exact Ev.step (fun k => hg k xs _ _) (ev_neg (by omega) (ev_some _))
  | succ d ih =>
    intro i hi hd
    have hlt : i < xs.length := by omega
    refine Ev.step (fun k => hg k xs _ _) (ev_pos (by omega) (ev_pos (by omega) (ev_pos (by omega) ?_)))
    rw [hrd xs i hlt, wrap_up (by omega) (show (i : Int) < (xs.length : Int) by omega) (by omega)]
    refine ev_bind (hp _ (List.getElem_mem hlt)) (ev_pos rfl ?_)
    have := ih (i + 1) (by omega) (by omega)
    simpa using this
theorem not_ff {b : Bool} (h : (!b) = false) : b = true := by cases b with | true => rfl | false => cases h
theorem not_tt {b : Bool} (h : (!b) = true) : ¬ b = true := by cases b with | true => cases h | false => decide
def allN (n : Nat) (P : Nat → Bool) : Bool := (List.range' 0 n).all P
theorem allN_iff (n : Nat) (P : Nat → Bool) : allN n P = true ↔ ∀ i, i < n → P i = true := by
  simp [allN, List.all_eq_true, List.mem_range'_1]
theorem idx_all {g : Nat → Int → Option Bool} (n : Nat) (P : Nat → Bool) (h0 : Ev (fun k => g k (n : Int)) true)
    (h1 : ∀ i, i < n → P i = true → ∀ r, Ev (fun k => g k ((i : Int) + 1)) r → Ev (fun k => g k (i : Int)) r)
    (h2 : ∀ i, i < n → P i = false → Ev (fun k => g k (i : Int)) false) : Ev (fun k => g k 0) (allN n P) := by
  suffices h : ∀ d i : Nat, i + d = n → Ev (fun k => g k (i : Int)) ((List.range' i d).all P) from h n 0 (Nat.zero_add _)
  intro d
  induction d with
  | zero =>
    intro i hi
    have e : i = n := by omega
    subst e
    exact h0
  | succ d ih =>
    intro i hi
    rw [List.range'_succ, List.all_cons]
    cases hp : P i with
    | false => exact h2 i (by omega) hp
    | true => exact h1 i (by omega) hp _ (by simpa using ih (i + 1) (by omega))
theorem idx_and {g : Nat → Int → Option Bool} (n : Nat) (P : Nat → Bool) (r0 : Bool) (h0 : Ev (fun k => g k (n : Int)) r0)
    (h1 : ∀ i, i < n → P i = true → ∀ r, Ev (fun k => g k ((i : Int) + 1)) r → Ev (fun k => g k (i : Int)) r)
    (h2 : ∀ i, i < n → P i = false → Ev (fun k => g k (i : Int)) false) : Ev (fun k => g k 0) (allN n P && r0) := by
  suffices h : ∀ d i : Nat, i + d = n → Ev (fun k => g k (i : Int)) ((List.range' i d).all P && r0) from h n 0 (Nat.zero_add _)
  intro d
  induction d with
  | zero =>
    intro i hi
    have e : i = n := by omega
    subst e
    exact h0
  | succ d ih =>
    intro i hi
    rw [List.range'_succ, List.all_cons]
    cases hp : P i with
    | false => exact h2 i (by omega) hp
    | true => exact h1 i (by omega) hp _ (by simpa using ih (i + 1) (by omega))
theorem allN_congr {n : Nat} {P Q : Nat → Bool} (h : ∀ i, i < n → P i = Q i) : allN n P = allN n Q := by
  rw [Bool.eq_iff_iff, allN_iff, allN_iff]
  exact ⟨fun k i hi => (h i hi) ▸ k i hi, fun k i hi => (h i hi).symm ▸ k i hi⟩
theorem allN_and (n : Nat) (P Q : Nat → Bool) : allN n (fun i => P i && Q i) = (allN n P && allN n Q) := by
  rw [Bool.eq_iff_iff, Bool.and_eq_true, allN_iff, allN_iff, allN_iff]
  exact ⟨fun h => ⟨fun i hi => (Bool.and_eq_true _ _ ▸ h i hi).1, fun i hi => (Bool.and_eq_true _ _ ▸ h i hi).2⟩, fun h i hi => by rw [h.1 i hi, h.2 i hi]; rfl⟩
theorem idx_find {g : Nat → Int → Option Int} (n : Nat) (P : Nat → Bool) (h0 : Ev (fun k => g k (n : Int)) (-1))
    (h1 : ∀ i, i < n → P i = false → ∀ r, Ev (fun k => g k ((i : Int) + 1)) r → Ev (fun k => g k (i : Int)) r)
    (h2 : ∀ i, i < n → P i = true → Ev (fun k => g k (i : Int)) (i : Int)) :
    ∃ v, Ev (fun k => g k 0) v ∧ ((v = -1 ∧ ∀ i, i < n → P i = false) ∨ ∃ i : Nat, v = i ∧ i < n ∧ P i = true ∧ ∀ j, j < i → P j = false) := by
  suffices h : ∀ d i : Nat, i + d = n → (∀ j, j < i → P j = false) → ∃ v, Ev (fun k => g k (i : Int)) v ∧ ((v = -1 ∧ ∀ i, i < n → P i = false) ∨ ∃ i : Nat, v = i ∧ i < n ∧ P i = true ∧ ∀ j, j < i → P j = false) from h n 0 (Nat.zero_add _) (fun j hj => absurd hj (by omega))
  intro d
  induction d with
  | zero =>
    intro i hi hb
    have e : i = n := by omega
    subst e
    exact ⟨-1, h0, .inl ⟨rfl, hb⟩⟩
  | succ d ih =>
    intro i hi hb
    cases hp : P i with
    | true => exact ⟨i, h2 i (by omega) hp, .inr ⟨i, rfl, by omega, hp, hb⟩⟩
    | false =>
      obtain ⟨v, hv, hr⟩ := ih (i + 1) (by omega) (fun j hj => by
        rcases Nat.lt_or_eq_of_le (Nat.le_of_lt_succ hj) with r | r
        · exact hb j r
        · rw [r]; exact hp)
      exact ⟨v, h1 i (by omega) hp v (by simpa using hv), hr⟩
theorem mark_loop {α : Type} (g : Nat → List α → Int → Int → Option (Int × List α)) (H : α → Int → Prop) (c B : Int) (hc : 0 ≤ c)
    (hz : ∀ k (xs : List α) n, g (k + 1) xs n (xs.length : Int) = some (n, xs))
    (hs : ∀ n, 0 ≤ n → n ≤ B → ∀ (xs : List α) (i : Nat), i < xs.length → xs.length ≤ 1048576 → ∃ x', H x' n ∧ ∀ r, Ev (fun k => g k (xs.set i x') (n + c) ((i : Int) + 1)) r → Ev (fun k => g k xs n (i : Int)) r)
    (xs : List α) (hl : xs.length ≤ 1048576) (n : Int) (h0 : 0 ≤ n) (hB : n + c * (xs.length : Int) ≤ B) :
    ∃ ys, Ev (fun k => g k xs n 0) (n + c * (xs.length : Int), ys) ∧ ys.length = xs.length ∧ ∀ i (hi : i < ys.length), H ys[i] (n + c * (i : Int)) := by
  suffices h : ∀ d i : Nat, i + d = xs.length → ∀ zs : List α, zs.length = xs.length → (∀ j (hj : j < zs.length), j < i → H zs[j] (n + c * (j : Int))) →
      ∃ ys, Ev (fun k => g k zs (n + c * (i : Int)) (i : Int)) (n + c * (xs.length : Int), ys) ∧ ys.length = xs.length ∧ ∀ j (hj : j < ys.length), H ys[j] (n + c * (j : Int)) by
    have := h xs.length 0 (Nat.zero_add _) xs rfl (fun j hj h => absurd h (by omega))
    simpa using this
  intro d
  induction d with
  | zero =>
    intro i hi zs hz' hb
    have e : i = xs.length := by omega
    subst e
    refine ⟨zs, ?_, hz', fun j hj => hb j hj (by omega)⟩
    exact ⟨1, fun k hk => by
      obtain ⟨m, rfl⟩ : ∃ m, k = m + 1 := ⟨k - 1, by omega⟩
      have := hz m zs (n + c * (xs.length : Int))
      rw [hz'] at this
      exact this⟩
  | succ d ih =>
    intro i hi zs hz' hb
    have hm : c * (i : Int) ≤ c * (xs.length : Int) := Int.mul_le_mul_of_nonneg_left (by omega) hc
    have hm0 : 0 ≤ c * (i : Int) := Int.mul_nonneg hc (by omega)
    obtain ⟨x', hx', hstep⟩ := hs (n + c * (i : Int)) (by omega) (by omega) zs i (by omega) (by omega)
    obtain ⟨ys, hy, hyl, hyh⟩ := ih (i + 1) (by omega) (zs.set i x') (by simpa using hz') (fun j hj hji => by
      rcases Nat.lt_or_eq_of_le (Nat.le_of_lt_succ hji) with r | r
      · rw [List.getElem_set_ne (by omega)]
        exact hb j (by simpa using hj) r
      · subst r
        rw [List.getElem_set_self]
        exact hx')
    refine ⟨ys, hstep _ ?_, hyl, hyh⟩
    have e : n + c * (i : Int) + c = n + c * (((i + 1 : Nat)) : Int) := by
      rw [show (((i + 1 : Nat)) : Int) = (i : Int) + 1 from by omega, Int.mul_add, Int.mul_one, Int.add_assoc]
    rw [e]
    simpa using hy
theorem held_loop {α : Type} (g : Nat → List α → Int → Int → Option Int) (H : α → Int → Prop) (c B : Int) (hc : 0 ≤ c)
    (hz : ∀ k (xs : List α) n, g (k + 1) xs n (xs.length : Int) = some n)
    (hs : ∀ n, 0 ≤ n → n ≤ B → ∀ (xs : List α) (i : Nat) (hi : i < xs.length), xs.length ≤ 1048576 → H xs[i] n → ∀ r, Ev (fun k => g k xs (n + c) ((i : Int) + 1)) r → Ev (fun k => g k xs n (i : Int)) r)
    (xs : List α) (hl : xs.length ≤ 1048576) (n : Int) (h0 : 0 ≤ n) (hB : n + c * (xs.length : Int) ≤ B) (hx : ∀ i (hi : i < xs.length), H xs[i] (n + c * (i : Int))) :
    Ev (fun k => g k xs n 0) (n + c * (xs.length : Int)) := by
  suffices h : ∀ d i : Nat, i + d = xs.length → Ev (fun k => g k xs (n + c * (i : Int)) (i : Int)) (n + c * (xs.length : Int)) by
    have := h xs.length 0 (Nat.zero_add _)
    simpa using this
  intro d
  induction d with
  | zero =>
    intro i hi
    have e : i = xs.length := by omega
    subst e
    exact ⟨1, fun k hk => by
      obtain ⟨m, rfl⟩ : ∃ m, k = m + 1 := ⟨k - 1, by omega⟩
      exact hz m xs _⟩
  | succ d ih =>
    intro i hi
    have hm : c * (i : Int) ≤ c * (xs.length : Int) := Int.mul_le_mul_of_nonneg_left (by omega) hc
    have hm0 : 0 ≤ c * (i : Int) := Int.mul_nonneg hc (by omega)
    refine hs (n + c * (i : Int)) (by omega) (by omega) xs i (by omega) hl (hx i (by omega)) _ ?_
    have e : n + c * (i : Int) + c = n + c * (((i + 1 : Nat)) : Int) := by
      rw [show (((i + 1 : Nat)) : Int) = (i : Int) + 1 from by omega, Int.mul_add, Int.mul_one, Int.add_assoc]
    rw [e]
    simpa using ih (i + 1) (by omega)
theorem getD_set {α : Type} (z : α) (xs : List α) (i : Nat) (h : i < xs.length) (a : α) : (xs.set i a).getD (i : Int).toNat z = a := by
  rw [Int.toNat_natCast, List.getD_eq_getElem?_getD, List.getElem?_set_self h]; rfl
def flatN {β : Type} (n : Nat) (F : Nat → List β) : List β := (List.range' 0 n).flatMap F
theorem idx_collect {β : Type} {g : Nat → List β → Int → Option (List β)} (n M : Nat) (F : Nat → List β) (hF : ∀ i, i < n → (F i).length ≤ 1)
    (h0 : ∀ acc, Ev (fun k => g k acc (n : Int)) acc)
    (h1 : ∀ i, i < n → ∀ acc : List β, acc.length < M → ∀ r, Ev (fun k => g k (acc ++ F i) ((i : Int) + 1)) r → Ev (fun k => g k acc (i : Int)) r)
    (acc : List β) (hM : acc.length + n ≤ M) : Ev (fun k => g k acc 0) (acc ++ flatN n F) := by
  suffices h : ∀ d i : Nat, i + d = n → ∀ acc : List β, acc.length + d ≤ M → Ev (fun k => g k acc (i : Int)) (acc ++ (List.range' i d).flatMap F) from h n 0 (Nat.zero_add _) acc hM
  intro d
  induction d with
  | zero =>
    intro i hi acc _
    have e : i = n := by omega
    subst e
    simpa using h0 acc
  | succ d ih =>
    intro i hi acc ha
    rw [List.range'_succ, List.flatMap_cons, ← List.append_assoc]
    have := hF i (by omega)
    exact h1 i (by omega) acc (by omega) _ (by simpa using ih (i + 1) (by omega) (acc ++ F i) (by rw [List.length_append]; omega))
theorem flatN_mem {β : Type} {n : Nat} {F : Nat → List β} {b : β} (h : b ∈ flatN n F) : ∃ i, i < n ∧ b ∈ F i := by
  obtain ⟨i, hi, hb⟩ := List.mem_flatMap.1 h
  exact ⟨i, by simpa [List.mem_range'_1] using hi, hb⟩
theorem flatN_two {β γ : Type} (n : Nat) (F : Nat → List β) (G : Nat → List γ) (h : ∀ i, i < n → (F i).length + (G i).length ≤ 1) : (flatN n F).length + (flatN n G).length ≤ n := by
  suffices h : ∀ d i : Nat, i + d = n → ((List.range' i d).flatMap F).length + ((List.range' i d).flatMap G).length ≤ d from h n 0 (Nat.zero_add _)
  intro d
  induction d with
  | zero => intro i _; simp
  | succ d ih =>
    intro i hi
    rw [List.range'_succ, List.flatMap_cons, List.flatMap_cons, List.length_append, List.length_append]
    have h1 := ih (i + 1) (by omega)
    have h2 := h i (by omega)
    omega
theorem flatN_len {β : Type} (n : Nat) (F : Nat → List β) (h : ∀ i, i < n → (F i).length ≤ 1) : (flatN n F).length ≤ n := by
  have := flatN_two n F (fun _ => ([] : List β)) (fun i hi => by simpa using h i hi)
  omega
end Go.Proofs.YtdihlgkcpooadaaDoorG
end

section
namespace Go.Proofs.YtdihlgkcpooadaaDoorW.PrintWords
open Go.ChangeShapes Go.WideShapes
end Go.Proofs.YtdihlgkcpooadaaDoorW.PrintWords
end
