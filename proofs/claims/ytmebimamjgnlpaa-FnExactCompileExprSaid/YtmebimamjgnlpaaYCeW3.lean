/- Words of the print, and of mine. -/
import Derived.ChangeArms
import Derived.ChangeSlices
import Derived.DataElems
import Derived.RowKit
import Derived.SizedLaws
import Derived.WideShapes
import Derived.Test.YtmebimamjgnlpaaYCeW2
section
namespace Go.Proofs.YtmebimamjgnlpaaG
open Go.RowKit Go.Proofs.YtmebimamjgnlpaaW.PrintWords Go.Proofs.YtmebimamjgnlpaaW.PrintLast
set_option linter.unusedVariables false
def Opens (P : Program) (n : Nat) (t : TypeId) {α : Type} (d : Kd α) (wf : α → Prop) : Prop :=
  ∀ (H : Type) (enc : TypeId × Value → H) (W : World) (cs : List Value) (x : DataW H × List MemPlace),
    DataW.trod enc P W 0 (fun _ => true) true n t cs = some x → ∃ a, d.K W a cs ∧ wf a
def WInt (k : IntKind) (x : Int) : Prop := (Lit.int k x).wf = true
def WStr (s : ByteArray) : Prop := s.size ≤ 9223372036854775807
def WList {α : Type} (wf : α → Prop) (l : List α) : Prop := l.length ≤ 9223372036854775807 ∧ ∀ a, a ∈ l → wf a
theorem WInt.i64 {x : Int} (h : WInt .i64 x) : -9223372036854775808 ≤ x ∧ x ≤ 9223372036854775807 := by
  unfold WInt at h
  simp [Lit.wf, IntKind.min, IntKind.max, IntKind.bits, IntKind.signed] at h
  omega
theorem WInt.u8 {x : Int} (h : WInt .u8 x) : 0 ≤ x ∧ x ≤ 255 := by
  unfold WInt at h
  simp [Lit.wf, IntKind.min, IntKind.max, IntKind.bits, IntKind.signed] at h
  omega
section
variable {P : Program} {n : Nat} {t : TypeId}
theorem opens_int {k : IntKind} (hu : P.underlying t = some (.int k)) : Opens P n t (Kd.int k) (WInt k) := by
  intro H enc W cs x h
  obtain ⟨m, rfl, _, hw⟩ := DataW.trod_int hu h
  exact ⟨m, rfl, hw⟩
theorem opens_bool (hu : P.underlying t = some .bool) : Opens P n t Kd.bool (fun _ => True) := by
  intro H enc W cs x h
  obtain ⟨b, rfl, _⟩ := DataW.trod_bool hu h
  exact ⟨b, rfl, trivial⟩
theorem opens_string (hu : P.underlying t = some .string) : Opens P n t Kd.string WStr := by
  intro H enc W cs x h
  obtain ⟨s, rfl, _, hs⟩ := DataW.trod_string hu h
  exact ⟨s, rfl, hs⟩
theorem choose_list {α : Type} {R : Nat → α → Prop} : ∀ (len : Nat), (∀ i, i < len → ∃ a, R i a) → ∃ l : List α, l.length = len ∧ ∀ i a, l[i]? = some a → R i a
  | 0, _ => ⟨[], rfl, fun i a h => by simp at h⟩
  | len + 1, h => by
    obtain ⟨l, hl, hr⟩ := choose_list len (fun i hi => h i (by omega))
    obtain ⟨a, ha⟩ := h len (by omega)
    refine ⟨l ++ [a], by simp [hl], fun i b hb => ?_⟩
    rcases Nat.lt_or_ge i l.length with hi | hi
    · rw [List.getElem?_append_left hi] at hb
      exact hr i b hb
    · rw [List.getElem?_append_right hi] at hb
      have h0 : i - l.length = 0 := by
        have := (List.getElem?_eq_some_iff.1 hb).1
        simp at this
        omega
      rw [h0] at hb
      simp at hb
      subst hb
      have : i = len := by omega
      subst this
      exact ha
theorem opens_slice {α : Type} {e : TypeId} {d : Kd α} {wf : α → Prop} (hu : P.underlying t = some (.slice e)) (hs : P.cellsOf e = d.sz) (h : ∀ m, m < n → Opens P m e d wf) :
    Opens P n t (Kd.slice e d) (WList wf) := by
  intro H enc W cs x hx
  rcases DataW.trod_slice hu hx with ⟨rfl, _⟩ | ⟨a, len, cap, elems, rest, m, rfl, rfl, _, _, hlc, hcm, hel, hget, _, _⟩
  · exact ⟨[], ⟨none, 0, rfl, Nat.le_refl _, rfl, by simp, fun hp => absurd hp (Nat.lt_irrefl 0)⟩, by simp, by simp⟩
  · have hlm : len ≤ 9223372036854775807 := by simp only [maxLen] at hcm; omega
    obtain ⟨l, hl, hr⟩ := choose_list (R := fun i (b : α) => (∃ c, c.length = d.sz ∧ d.K W b c ∧ ∀ j u, c[j]? = some u → W.cell? (a.add (i * d.sz + j)) = some u) ∧ wf b) len (fun i hi => by
      have hg := hget i hi
      have hsome : elems[i]? = some (elems[i]'(by omega)) := List.getElem?_eq_getElem (by omega)
      rw [hsome, Option.bind_eq_some_iff] at hg
      obtain ⟨c, hc, hy⟩ := hg
      obtain ⟨_, hcl, hcell⟩ := World.cells?_some hc
      obtain ⟨b, hK, hw⟩ := h m (Nat.lt_succ_self m) H enc W c _ hy
      refine ⟨b, ⟨c, by rw [hcl, hs], hK, fun j u hj => ?_⟩, hw⟩
      have hjl : j < P.cellsOf e := by
        have := (List.getElem?_eq_some_iff.1 hj).1
        omega
      have hz := hcell j hjl
      rw [Addr.add_add, hs] at hz
      rw [hz, hj])
    refine ⟨l, ⟨some a, cap, by rw [hl], by omega, rfl, by omega, fun hp => ⟨a, rfl, fun j p hj => (hr j p hj).1⟩⟩, by omega, fun b hb => ?_⟩
    obtain ⟨i, hi, rfl⟩ := List.getElem_of_mem hb
    exact (hr i _ (List.getElem?_eq_getElem hi)).2
def OpensF (P : Program) (n : Nat) (fs : List Field) (off : Nat) {α : Type} (d : Kd α) (wf : α → Prop) : Prop :=
  ∀ (H : Type) (enc : TypeId × Value → H) (W : World) (cs : List Value),
    (∀ f, f ∈ fs → ∃ y, DataW.trod enc P W 0 (fun _ => true) true n f.type ((cs.drop f.offset).take (P.cellsOf f.type)) = some y) → cs.length = off + d.sz → ∃ a, d.K W a (cs.drop off) ∧ wf a
theorem opens_last {α : Type} {f : Field} {d : Kd α} {wf : α → Prop} {off : Nat} (ho : f.offset = off) (hs : P.cellsOf f.type = d.sz) (h : Opens P n f.type d wf) : OpensF P n [f] off d wf := by
  intro H enc W cs hf hl
  obtain ⟨y, hy⟩ := hf f (by simp)
  rw [ho, hs, List.take_of_length_le (by simp; omega)] at hy
  exact h H enc W _ y hy
theorem opens_field {α β : Type} {f : Field} {fs : List Field} {d : Kd α} {d' : Kd β} {wf : α → Prop} {wf' : β → Prop} {off : Nat} (ho : f.offset = off) (hs : P.cellsOf f.type = d.sz) (h : Opens P n f.type d wf)
    (hr : OpensF P n fs (off + d.sz) d' wf') : OpensF P n (f :: fs) off (Kd.pair d d') (fun x => wf x.1 ∧ wf' x.2) := by
  intro H enc W cs hf hl
  obtain ⟨y, hy⟩ := hf f (by simp)
  rw [ho, hs] at hy
  obtain ⟨a, ha, hwa⟩ := h H enc W _ y hy
  obtain ⟨b, hb, hwb⟩ := hr H enc W cs (fun g hg => hf g (List.mem_cons_of_mem _ hg)) (by rw [hl]; show off + (d.sz + d'.sz) = _; omega)
  refine ⟨(a, b), ⟨_, _, ?_, ha, hb⟩, hwa, hwb⟩
  rw [← List.drop_drop, List.take_append_drop]
theorem opens_struct {α : Type} {fs : Array Field} {d : Kd α} {wf : α → Prop} (hu : P.underlying t = some (.struct fs)) (hs : P.cellsOf t = d.sz) (h : ∀ m, m < n → OpensF P m fs.toList 0 d wf) : Opens P n t d wf := by
  intro H enc W cs x hx
  obtain ⟨xs, m, rfl, _, hl, hxl, hg⟩ := DataW.trod_struct hu hx
  obtain ⟨a, ha, hw⟩ := h m (Nat.lt_succ_self m) H enc W cs (fun f hf => by
    obtain ⟨i, hi, rfl⟩ := List.getElem_of_mem hf
    have hi' : i < fs.size := by simpa using hi
    have := hg i fs[i] (Array.getElem?_eq_getElem hi')
    refine ⟨xs[i]'(by omega), ?_⟩
    simp only [Array.getElem_toList]
    rw [this]
    exact List.getElem?_eq_getElem (by omega)) (by rw [hl, hs]; omega)
  exact ⟨a, by simpa using ha, hw⟩
theorem opens_iso {α β : Type} {d : Kd α} {wf : α → Prop} (f : β → α) (g : α → β) (hfg : ∀ a, f (g a) = a) (h : Opens P n t d wf) : Opens P n t (Kd.iso d f) (fun b => wf (f b)) := by
  intro H enc W cs x hx
  obtain ⟨a, ha, hw⟩ := h H enc W cs x hx
  refine ⟨g a, ?_, ?_⟩
  · show d.K W (f (g a)) cs
    rw [hfg]
    exact ha
  · show wf (f (g a))
    rw [hfg]
    exact hw
theorem opens_wf {α : Type} {d : Kd α} {wf wf' : α → Prop} (h : Opens P n t d wf) (hw : ∀ a, wf a → wf' a) : Opens P n t d wf' := by
  intro H enc W cs x hx
  obtain ⟨a, ha, hwa⟩ := h H enc W cs x hx
  exact ⟨a, ha, hw a hwa⟩
theorem opens_fix {α : Type} {F : Kd α → Kd α} {sz : Nat} {E : List Nat} {hs : ∀ n, (Kd.upto F sz E n).sz = sz} {hE : ∀ n q, q ∈ (Kd.upto F sz E n).E → q ∈ E} (hm : Kd.Mono F) {wf : α → Prop}
    (step : ∀ (n : Nat) (d : Kd α), d.sz = sz → (∀ m, m < n → Opens P m t d wf) → Opens P n t (F d) wf) : ∀ n, Opens P n t (Kd.fix F sz E hs hE) wf := by
  have up : ∀ n m, m ≤ n → Opens P m t (Kd.upto F sz E n) wf := by
    intro n
    induction n with
    | zero =>
      intro m hm0 H enc W cs x hx
      obtain rfl : m = 0 := by omega
      simp [DataW.trod] at hx
    | succ n ih =>
      intro m hmn
      exact step m _ (hs n) (fun j hj => ih j (by omega))
  intro n H enc W cs x hx
  obtain ⟨a, ha, hw⟩ := up n n (Nat.le_refl _) H enc W cs x hx
  exact ⟨a, ⟨n, ha⟩, hw⟩
end
end Go.Proofs.YtmebimamjgnlpaaG
end

section
namespace Go.Proofs.YtmebimamjgnlpaaG
open Go.RowKit Go.Proofs.YtmebimamjgnlpaaW.PrintWords
set_option linter.unusedVariables false
theorem wrap_id {x : Int} (h0 : -9223372036854775808 ≤ x) (h1 : x ≤ 9223372036854775807) : wrap64 x = x := by unfold wrap64; omega
theorem wrap_up {i : Int} {n : Nat} (h0 : 0 ≤ i) (h : i < (n : Int)) (hn : n ≤ 9223372036854775807) : wrap64 (i + 1) = i + 1 := by unfold wrap64; omega
section
variable {α β : Type}
theorem ev_some (r : α) : Ev (fun _ => some r) r := ⟨0, fun _ _ => rfl⟩
theorem ev_of_eq {x : Option α} {r : α} (h : x = some r) : Ev (fun _ => x) r := ⟨0, fun _ _ => h⟩
theorem ev_pos {c : Prop} [Decidable c] {f g : Nat → Option α} {r : α} (h : c) (k : Ev f r) : Ev (fun n => if c then f n else g n) r := Ev.congr (fun _ => if_pos h) k
theorem ev_neg {c : Prop} [Decidable c] {f g : Nat → Option α} {r : α} (h : ¬ c) (k : Ev g r) : Ev (fun n => if c then f n else g n) r := Ev.congr (fun _ => if_neg h) k
theorem ev_shift {g : Nat → Option α} {r : α} (h : Ev (fun k => g (k + 1)) r) : Ev g r := Ev.step (fun _ => rfl) h
theorem ev_bind {g : Nat → Option α} {f : Nat → α → Option β} {a : α} {r : β} (h : Ev g a) (k : Ev (fun n => f n a) r) : Ev (fun n => (g n).bind (f n)) r := Ev.bind h k
theorem ev_bindc {x : Option α} {f : Nat → α → Option β} {a : α} {r : β} (h : x = some a) (k : Ev (fun n => f n a) r) : Ev (fun n => x.bind (f n)) r := Ev.congr (fun _ => by rw [h]; rfl) k
theorem ev_ite {c : Prop} [Decidable c] {f g : Nat → Option α} {r s : α} (h : Ev f r) (k : Ev g s) : Ev (fun n => if c then f n else g n) (if c then r else s) := by
  by_cases hc : c
  · rw [if_pos hc]; exact ev_pos hc h
  · rw [if_neg hc]; exact ev_neg hc k
end
theorem bytes_size (s : ByteArray) : (bytesOf s).length = s.size := by simp [bytesOf]
theorem bt_get (s : ByteArray) (i : Nat) (h : i < s.size) : bt s (i : Int) = (bytesOf s)[i]'(by rw [bytes_size]; exact h) := by
  unfold bt
  rw [Int.toNat_natCast, dif_pos h]
  simp [bytesOf]
  rfl
theorem rd_get (l : List Int) (i : Nat) (h : i < l.length) : rd l (i : Int) = l[i] := by
  unfold rd
  rw [Int.toNat_natCast, List.getD_eq_getElem?_getD, List.getElem?_eq_getElem h]
  rfl
theorem rdOf_get {α : Type} (d : α) (l : List α) (i : Nat) (h : i < l.length) : rdOf d l (i : Int) = l[i] := by
  unfold rdOf
  rw [Int.toNat_natCast, List.getD_eq_getElem?_getD, List.getElem?_eq_getElem h]
  rfl
theorem getD_get {α : Type} (d : α) (l : List α) (i : Nat) (h : i < l.length) : l.getD (i : Int).toNat d = l[i] := by
  rw [Int.toNat_natCast, List.getD_eq_getElem?_getD, List.getElem?_eq_getElem h]
  rfl
theorem toList_nil (s : ByteArray) : s.toList = [] ↔ s.size = 0 := by
  rw [Go.ByteArray.toList_eq]
  constructor
  · intro h
    have := congrArg List.length h
    simpa using this
  · intro h
    apply List.eq_nil_of_length_eq_zero
    simpa using h
theorem toList_inj {a b : ByteArray} : a.toList = b.toList ↔ a = b := by
  constructor
  · intro h
    rw [Go.ByteArray.toList_eq, Go.ByteArray.toList_eq] at h
    exact ByteArray.ext (Array.toList_inj.1 h)
  · intro h; rw [h]
theorem areAll_loop {α : Type} (g : Nat → List α → Int → Int → Option Bool) (rd_ : List α → Int → α) (p : Nat → α → Option Bool) (P : α → Bool)
    (hg : ∀ k xs n i, g (k + 1) xs n i = if i < n then (if 0 ≤ i then (if i < (xs.length : Int) then ((p k (rd_ xs i)).bind fun t => (if t = true then g k xs n (wrap64 (i + 1)) else (some false))) else none) else none) else some true)
    (hrd : ∀ (xs : List α) (i : Nat) (h : i < xs.length), rd_ xs (i : Int) = xs[i]) (xs : List α) (hl : xs.length ≤ 9223372036854775807) (hp : ∀ x, x ∈ xs → Ev (fun k => p k x) (P x)) :
    Ev (fun k => g k xs (xs.length : Int) 0) (xs.all P) := by
  suffices h : ∀ d i : Nat, i ≤ xs.length → xs.length - i = d → Ev (fun k => g k xs (xs.length : Int) (i : Int)) ((xs.drop i).all P) by
    have := h xs.length 0 (Nat.zero_le _) (Nat.sub_zero _)
    simpa using this
  intro d
  induction d with
  | zero =>
    intro i hi hd
    refine Ev.step (fun k => hg k xs _ _) (ev_neg (by omega) ?_)
    rw [List.drop_of_length_le (by omega)]
    exact ev_some _
  | succ d ih =>
    intro i hi hd
    have hlt : i < xs.length := by omega
    refine Ev.step (fun k => hg k xs _ _) (ev_pos (by omega) (ev_pos (by omega) (ev_pos (by omega) ?_)))
    rw [List.drop_eq_getElem_cons hlt, List.all_cons]
    have hb := hp xs[i] (List.getElem_mem hlt)
    rw [hrd xs i hlt, wrap_up (by omega) (show (i : Int) < (xs.length : Int) by omega) hl]
    refine ev_bind hb ?_
    cases hP : P xs[i] with
    | false => exact ev_neg (by decide) (by simpa using ev_some false)
    | true =>
      refine ev_pos rfl ?_
      have := ih (i + 1) (by omega) (by omega)
      simpa using this
def isLet (c : Int) : Bool := (decide (65 ≤ c) && decide (c ≤ 90)) || (decide (97 ≤ c) && decide (c ≤ 122))
def isDig (c : Int) : Bool := decide (48 ≤ c) && decide (c ≤ 57)
def isNmB (c : Int) : Bool := isLet c || isDig c || decide (c = 95)
def isNameS (s : ByteArray) : Bool := decide (1 ≤ s.size) && decide (s.size ≤ 12) && isLet (bt s 0) && (bytesOf s).all isNmB
def validV (k n : Int) (t : ByteArray) (r : Int) : Bool :=
  if k = 1 then n == 0 && (r == 0 && decide (t.size ≤ 200))
  else if k = 2 then decide (t.size = 0) && (r == 0 && (decide (-1000000000000 ≤ n) && decide (n ≤ 1000000000000)))
  else if k = 3 then n == 0 && (r == 0 && (decide (1 ≤ t.size) && decide (t.size ≤ 1200)))
  else if k = 4 ∨ k = 5 ∨ k = 6 then n == 0 && (decide (t.size = 0) && (decide (1 ≤ r) && decide (r ≤ 1000000)))
  else if k = 7 ∨ k = 8 then n == 0 && (r == 0 && isNameS t)
  else false
end Go.Proofs.YtmebimamjgnlpaaG
end

section
namespace Go.Proofs.YtmebimamjgnlpaaG
open Go.RowKit Go.Proofs.YtmebimamjgnlpaaW.PrintWords
set_option linter.unusedVariables false
class FineC (α : Type) where
  fine : α → Prop
def Fine {α : Type} [FineC α] (a : α) : Prop := FineC.fine a
instance : FineC Int := ⟨fun x => -9223372036854775808 ≤ x ∧ x ≤ 9223372036854775807⟩
instance : FineC ByteArray := ⟨fun s => s.size ≤ 1048576⟩
instance : FineC Bool := ⟨fun _ => True⟩
instance {α : Type} [FineC α] : FineC (List α) := ⟨fun l => l.length ≤ 1048576 ∧ ∀ a, a ∈ l → FineC.fine a⟩
instance {α β : Type} [FineC α] [FineC β] : FineC (α × β) := ⟨fun p => FineC.fine p.1 ∧ FineC.fine p.2⟩
theorem Fine.i64 {x : Int} (h : Fine x) : -9223372036854775808 ≤ x ∧ x ≤ 9223372036854775807 := h
theorem Fine.size {s : ByteArray} (h : Fine s) : s.size ≤ 1048576 := h
theorem Fine.len {α : Type} [FineC α] {l : List α} (h : Fine l) : l.length ≤ 1048576 := h.1
theorem Fine.mem {α : Type} [FineC α] {l : List α} (h : Fine l) {a : α} (ha : a ∈ l) : Fine a := h.2 a ha
theorem Fine.fst {α β : Type} [FineC α] [FineC β] {p : α × β} (h : Fine p) : Fine p.1 := h.1
theorem Fine.snd {α β : Type} [FineC α] [FineC β] {p : α × β} (h : Fine p) : Fine p.2 := h.2
theorem Fine.list {α : Type} [FineC α] {l : List α} (h : l.length ≤ 1048576) (k : ∀ a, a ∈ l → Fine a) : Fine l := ⟨h, k⟩
theorem Fine.bool (b : Bool) : Fine b := trivial
def Sz (g : Nat → Option Int) (a : Int) (P : Prop) : Prop := ∃ v, Ev g v ∧ v ≤ a ∧ (0 ≤ v → P)
theorem sz_neg {a : Int} {P : Prop} (h : 0 ≤ a) : Sz (fun _ => some (-1)) a P := ⟨-1, ev_some _, by omega, fun h => absurd h (by omega)⟩
theorem sz_if {f : Nat → Option Int} {a s A : Int} {P : Prop} (hA : 0 ≤ A) (h0 : 0 ≤ a) (h1 : a ≤ 1048576) (hs : 0 ≤ s) (hs1 : s ≤ 9223372036854775807)
    (k : s ≤ a → 0 ≤ a - s → wrap64 (a - s) = a - s → Sz f A P) : Sz (fun n => if wrap64 (a - s) < 0 then some (-1) else f n) A P := by
  have e : wrap64 (a - s) = a - s := wrap_id (by omega) (by omega)
  by_cases c : wrap64 (a - s) < 0
  · obtain ⟨v, hv, r⟩ := sz_neg (a := A) (P := P) hA
    exact ⟨v, ev_pos c hv, r⟩
  · obtain ⟨v, hv, r⟩ := k (by omega) (by omega) e
    exact ⟨v, ev_neg c hv, r⟩
theorem sz_bind {g : Nat → Option Int} {f : Nat → Int → Option Int} {a A : Int} {P Q : Prop} (hA : 0 ≤ A) (hg : Sz g a Q)
    (k : ∀ v, 0 ≤ v → v ≤ a → Q → Sz (fun n => f n v) A P) : Sz (fun n => (g n).bind fun t => if t < 0 then some (-1) else f n t) A P := by
  obtain ⟨v, hv, hle, hq⟩ := hg
  by_cases c : v < 0
  · obtain ⟨u, hu, r⟩ := sz_neg (a := A) (P := P) hA
    exact ⟨u, ev_bind hv (ev_pos c hu), r⟩
  · obtain ⟨u, hu, r⟩ := k v (by omega) hle (hq (by omega))
    exact ⟨u, ev_bind hv (ev_neg c hu), r⟩
theorem sz_fold (v : Int) (f : Int → Option Int) : ((if v < 0 then some (-1) else some v).bind fun t => if t < 0 then some (-1) else f t) = if v < 0 then some (-1) else f v := by
  by_cases h : v < 0
  · rw [if_pos h, if_pos h]; rfl
  · rw [if_neg h, if_neg h, Option.bind_some, if_neg h]
theorem sz_mono {g : Nat → Option Int} {a : Int} {P Q : Prop} (h : Sz g a P) (k : P → Q) : Sz g a Q := by
  obtain ⟨v, hv, hle, hq⟩ := h
  exact ⟨v, hv, hle, fun h => k (hq h)⟩
theorem sz_loop {α : Type} (g : Nat → List α → Int → Int → Option Int) (p : Nat → α → Int → Option Int) (rd_ : List α → Int → α) (P : α → Prop)
    (hg : ∀ k xs n i, g (k + 1) xs n i = if i < (xs.length : Int) then (if 0 ≤ i then ((p k (rd_ xs i) n).bind fun t => if t < 0 then some (-1) else g k xs t (wrap64 (i + 1))) else none) else some n)
    (hrd : ∀ (xs : List α) (i : Nat) (h : i < xs.length), rd_ xs (i : Int) = xs[i]) (xs : List α) (hl : xs.length ≤ 9223372036854775807) (n : Int) (h0 : 0 ≤ n)
    (hp : ∀ x, x ∈ xs → ∀ m, 0 ≤ m → m ≤ n → Sz (fun k => p k x m) m (P x)) : Sz (fun k => g k xs n 0) n (∀ x, x ∈ xs → P x) := by
  suffices h : ∀ d i : Nat, i ≤ xs.length → xs.length - i = d → ∀ m, 0 ≤ m → m ≤ n → Sz (fun k => g k xs m (i : Int)) m (∀ x, x ∈ xs.drop i → P x) by
    have := h xs.length 0 (Nat.zero_le _) (Nat.sub_zero _) n h0 (Int.le_refl _)
    simpa using this
  intro d
  induction d with
  | zero =>
    intro i hi hd m hm hm1
    refine ⟨m, Ev.step (fun k => hg k xs _ _) (ev_neg (by omega) (ev_some _)), Int.le_refl _, fun _ => ?_⟩
    rw [List.drop_of_length_le (by omega)]
    intro x hx
    cases hx
  | succ d ih =>
    intro i hi hd m hm hm1
    have hlt : i < xs.length := by omega
    obtain ⟨v, hv, hle, hq⟩ := hp xs[i] (List.getElem_mem hlt) m hm hm1
    by_cases c : v < 0
    · refine ⟨-1, Ev.step (fun k => hg k xs _ _) (ev_pos (by omega) (ev_pos (by omega) ?_)), by omega, fun h => absurd h (by omega)⟩
      rw [hrd xs i hlt]
      exact ev_bind hv (ev_pos c (ev_some _))
    · obtain ⟨u, hu, hule, huq⟩ := ih (i + 1) (by omega) (by omega) v (by omega) (by omega)
      refine ⟨u, Ev.step (fun k => hg k xs _ _) (ev_pos (by omega) (ev_pos (by omega) ?_)), by omega, fun h => ?_⟩
      · rw [hrd xs i hlt, wrap_up (by omega) (show (i : Int) < (xs.length : Int) by omega) hl]
        refine ev_bind hv (ev_neg c ?_)
        simpa using hu
      · rw [List.drop_eq_getElem_cons hlt]
        intro x hx
        rcases List.mem_cons.1 hx with rfl | hx
        · exact hq (by omega)
        · exact huq h x hx
theorem bne_ff {α : Type} [BEq α] [ReflBEq α] (a : α) : ¬ ((a != a) = true) := by rw [bne, ReflBEq.rfl]; decide
theorem ev_skip {c : Prop} [Decidable c] {f : Nat → Option Bool} (h : ¬ c → Ev f true) : Ev (fun n => if c then some true else f n) true := by
  by_cases hc : c
  · exact ev_pos hc (ev_some _)
  · exact ev_neg hc (h hc)
def To {α : Type} [FineC α] (g : Nat → Option α) : Prop := ∃ v, Ev g v ∧ Fine v
theorem to_some {α : Type} [FineC α] {v : α} (h : Fine v) : To (fun _ => some v) := ⟨v, ev_some v, h⟩
theorem to_bind {α β : Type} [FineC α] [FineC β] {g : Nat → Option α} {f : Nat → α → Option β} (hg : To g) (k : ∀ v, Fine v → To (fun n => f n v)) : To (fun n => (g n).bind (f n)) := by
  obtain ⟨v, hv, h⟩ := hg
  obtain ⟨u, hu, r⟩ := k v h
  exact ⟨u, ev_bind hv hu, r⟩
theorem to_if {β : Type} [FineC β] {c : Prop} [Decidable c] {f g : Nat → Option β} (hc : c) (k : To f) : To (fun n => if c then f n else g n) := by
  obtain ⟨u, hu, r⟩ := k
  exact ⟨u, ev_pos hc hu, r⟩
theorem to_loop {α β : Type} [FineC β] (g : Nat → List α → List β → Int → Option (List β)) (p : Nat → α → Option β) (rd_ : List α → Int → α)
    (hg : ∀ k xs ys i, g (k + 1) xs ys i = if i < (xs.length : Int) then (if 0 ≤ i then ((p k (rd_ xs i)).bind fun t => if i < (ys.length : Int) then g k xs (ys.set (i : Int).toNat t) (wrap64 (i + 1)) else none) else none) else some ys)
    (hrd : ∀ (xs : List α) (i : Nat) (h : i < xs.length), rd_ xs (i : Int) = xs[i]) (xs : List α) (hl : xs.length ≤ 1048576) (z : β)
    (hp : ∀ x, x ∈ xs → To (fun k => p k x)) : To (fun k => g k xs (List.replicate ((xs.length : Int)).toNat z) 0) := by
  suffices h : ∀ d i : Nat, i ≤ xs.length → xs.length - i = d → ∀ ys : List β, ys.length = xs.length → (∀ b, b ∈ ys.take i → Fine b) → To (fun k => g k xs ys (i : Int)) by
    have := h xs.length 0 (Nat.zero_le _) (Nat.sub_zero _) (List.replicate ((xs.length : Int)).toNat z) (by simp) (by simp)
    simpa using this
  intro d
  induction d with
  | zero =>
    intro i hi hd ys hy hb
    refine ⟨ys, Ev.step (fun k => hg k xs _ _) (ev_neg (by omega) (ev_some _)), Fine.list (by omega) ?_⟩
    rw [List.take_of_length_le (by omega)] at hb
    exact hb
  | succ d ih =>
    intro i hi hd ys hy hb
    have hlt : i < xs.length := by omega
    obtain ⟨v, hv, hq⟩ := hp xs[i] (List.getElem_mem hlt)
    obtain ⟨u, hu, r⟩ := ih (i + 1) (by omega) (by omega) (ys.set i v) (by simpa using hy) (fun b hb' => by
      rw [List.take_succ_eq_append_getElem (by simp; omega), List.getElem_set_self, List.take_set_of_le (by omega)] at hb'
      rcases List.mem_append.1 hb' with h1 | h1
      · exact hb b h1
      · rw [List.mem_singleton.1 h1]; exact hq)
    refine ⟨u, Ev.step (fun k => hg k xs _ _) (ev_pos (by omega) (ev_pos (by omega) ?_)), r⟩
    rw [hrd xs i hlt, wrap_up (by omega) (show (i : Int) < (xs.length : Int) by omega) (by omega)]
    refine ev_bind hv (ev_pos (by omega) ?_)
    simpa using hu
theorem eq_loop {α : Type} (g : Nat → List α → List α → Int → Option Bool) (p : Nat → α → α → Option Bool) (rd_ : List α → Int → α)
    (hg : ∀ k xs ys i, g (k + 1) xs ys i = if i < (xs.length : Int) then (if 0 ≤ i then (if i < (ys.length : Int) then ((p k (rd_ xs i) (rd_ ys i)).bind fun t => if t = true then g k xs ys (wrap64 (i + 1)) else some false) else none) else none) else some true)
    (hrd : ∀ (xs : List α) (i : Nat) (h : i < xs.length), rd_ xs (i : Int) = xs[i]) (xs : List α) (hl : xs.length ≤ 1048576)
    (hp : ∀ x, x ∈ xs → Ev (fun k => p k x x) true) : Ev (fun k => g k xs xs 0) true := by
  suffices h : ∀ d i : Nat, i ≤ xs.length → xs.length - i = d → Ev (fun k => g k xs xs (i : Int)) true by
    have := h xs.length 0 (Nat.zero_le _) (Nat.sub_zero _)
    simpa using this
  intro d
  induction d with
  | zero =>
    intro i hi hd
    exact Ev.step (fun k => hg k xs _ _) (ev_neg (by omega) (ev_some _))
  | succ d ih =>
    intro i hi hd
    have hlt : i < xs.length := by omega
    refine Ev.step (fun k => hg k xs _ _) (ev_pos (by omega) (ev_pos (by omega) (ev_pos (by omega) ?_)))
    rw [hrd xs i hlt, wrap_up (by omega) (show (i : Int) < (xs.length : Int) by omega) (by omega)]
    refine ev_bind (hp _ (List.getElem_mem hlt)) (ev_pos rfl ?_)
    have := ih (i + 1) (by omega) (by omega)
    simpa using this
theorem not_ff {b : Bool} (h : (!b) = false) : b = true := by cases b with | true => rfl | false => cases h
theorem not_tt {b : Bool} (h : (!b) = true) : ¬ b = true := by cases b with | true => cases h | false => decide
def allN (n : Nat) (P : Nat → Bool) : Bool := (List.range' 0 n).all P
theorem allN_iff (n : Nat) (P : Nat → Bool) : allN n P = true ↔ ∀ i, i < n → P i = true := by
  simp [allN, List.all_eq_true, List.mem_range'_1]
theorem idx_all {g : Nat → Int → Option Bool} (n : Nat) (P : Nat → Bool) (h0 : Ev (fun k => g k (n : Int)) true)
    (h1 : ∀ i, i < n → P i = true → ∀ r, Ev (fun k => g k ((i : Int) + 1)) r → Ev (fun k => g k (i : Int)) r)
    (h2 : ∀ i, i < n → P i = false → Ev (fun k => g k (i : Int)) false) : Ev (fun k => g k 0) (allN n P) := by
  suffices h : ∀ d i : Nat, i + d = n → Ev (fun k => g k (i : Int)) ((List.range' i d).all P) from h n 0 (Nat.zero_add _)
  intro d
  induction d with
  | zero =>
    intro i hi
    have e : i = n := by omega
    subst e
    exact h0
  | succ d ih =>
    intro i hi
    rw [List.range'_succ, List.all_cons]
    cases hp : P i with
    | false => exact h2 i (by omega) hp
    | true => exact h1 i (by omega) hp _ (by simpa using ih (i + 1) (by omega))
theorem idx_and {g : Nat → Int → Option Bool} (n : Nat) (P : Nat → Bool) (r0 : Bool) (h0 : Ev (fun k => g k (n : Int)) r0)
    (h1 : ∀ i, i < n → P i = true → ∀ r, Ev (fun k => g k ((i : Int) + 1)) r → Ev (fun k => g k (i : Int)) r)
    (h2 : ∀ i, i < n → P i = false → Ev (fun k => g k (i : Int)) false) : Ev (fun k => g k 0) (allN n P && r0) := by
  suffices h : ∀ d i : Nat, i + d = n → Ev (fun k => g k (i : Int)) ((List.range' i d).all P && r0) from h n 0 (Nat.zero_add _)
  intro d
  induction d with
  | zero =>
    intro i hi
    have e : i = n := by omega
    subst e
    exact h0
  | succ d ih =>
    intro i hi
    rw [List.range'_succ, List.all_cons]
    cases hp : P i with
    | false => exact h2 i (by omega) hp
    | true => exact h1 i (by omega) hp _ (by simpa using ih (i + 1) (by omega))
theorem allN_congr {n : Nat} {P Q : Nat → Bool} (h : ∀ i, i < n → P i = Q i) : allN n P = allN n Q := by
  rw [Bool.eq_iff_iff, allN_iff, allN_iff]
  exact ⟨fun k i hi => (h i hi) ▸ k i hi, fun k i hi => (h i hi).symm ▸ k i hi⟩
theorem allN_and (n : Nat) (P Q : Nat → Bool) : allN n (fun i => P i && Q i) = (allN n P && allN n Q) := by
  rw [Bool.eq_iff_iff, Bool.and_eq_true, allN_iff, allN_iff, allN_iff]
  exact ⟨fun h => ⟨fun i hi => (Bool.and_eq_true _ _ ▸ h i hi).1, fun i hi => (Bool.and_eq_true _ _ ▸ h i hi).2⟩, fun h i hi => by rw [h.1 i hi, h.2 i hi]; rfl⟩
theorem idx_find {g : Nat → Int → Option Int} (n : Nat) (P : Nat → Bool) (h0 : Ev (fun k => g k (n : Int)) (-1))
    (h1 : ∀ i, i < n → P i = false → ∀ r, Ev (fun k => g k ((i : Int) + 1)) r → Ev (fun k => g k (i : Int)) r)
    (h2 : ∀ i, i < n → P i = true → Ev (fun k => g k (i : Int)) (i : Int)) :
    ∃ v, Ev (fun k => g k 0) v ∧ ((v = -1 ∧ ∀ i, i < n → P i = false) ∨ ∃ i : Nat, v = i ∧ i < n ∧ P i = true ∧ ∀ j, j < i → P j = false) := by
  suffices h : ∀ d i : Nat, i + d = n → (∀ j, j < i → P j = false) → ∃ v, Ev (fun k => g k (i : Int)) v ∧ ((v = -1 ∧ ∀ i, i < n → P i = false) ∨ ∃ i : Nat, v = i ∧ i < n ∧ P i = true ∧ ∀ j, j < i → P j = false) from h n 0 (Nat.zero_add _) (fun j hj => absurd hj (by omega))
  intro d
  induction d with
  | zero =>
    intro i hi hb
    have e : i = n := by omega
    subst e
    exact ⟨-1, h0, .inl ⟨rfl, hb⟩⟩
  | succ d ih =>
    intro i hi hb
    cases hp : P i with
    | true => exact ⟨i, h2 i (by omega) hp, .inr ⟨i, rfl, by omega, hp, hb⟩⟩
    | false =>
      obtain ⟨v, hv, hr⟩ := ih (i + 1) (by omega) (fun j hj => by
        rcases Nat.lt_or_eq_of_le (Nat.le_of_lt_succ hj) with r | r
        · exact hb j r
        · rw [r]; exact hp)
      exact ⟨v, h1 i (by omega) hp v (by simpa using hv), hr⟩
theorem mark_loop {α : Type} (g : Nat → List α → Int → Int → Option (Int × List α)) (H : α → Int → Prop) (c B : Int) (hc : 0 ≤ c)
    (hz : ∀ k (xs : List α) n, g (k + 1) xs n (xs.length : Int) = some (n, xs))
    (hs : ∀ n, 0 ≤ n → n ≤ B → ∀ (xs : List α) (i : Nat), i < xs.length → xs.length ≤ 1048576 → ∃ x', H x' n ∧ ∀ r, Ev (fun k => g k (xs.set i x') (n + c) ((i : Int) + 1)) r → Ev (fun k => g k xs n (i : Int)) r)
    (xs : List α) (hl : xs.length ≤ 1048576) (n : Int) (h0 : 0 ≤ n) (hB : n + c * (xs.length : Int) ≤ B) :
    ∃ ys, Ev (fun k => g k xs n 0) (n + c * (xs.length : Int), ys) ∧ ys.length = xs.length ∧ ∀ i (hi : i < ys.length), H ys[i] (n + c * (i : Int)) := by
  suffices h : ∀ d i : Nat, i + d = xs.length → ∀ zs : List α, zs.length = xs.length → (∀ j (hj : j < zs.length), j < i → H zs[j] (n + c * (j : Int))) →
      ∃ ys, Ev (fun k => g k zs (n + c * (i : Int)) (i : Int)) (n + c * (xs.length : Int), ys) ∧ ys.length = xs.length ∧ ∀ j (hj : j < ys.length), H ys[j] (n + c * (j : Int)) by
    have := h xs.length 0 (Nat.zero_add _) xs rfl (fun j hj h => absurd h (by omega))
    simpa using this
  intro d
  induction d with
  | zero =>
    intro i hi zs hz' hb
    have e : i = xs.length := by omega
    subst e
    refine ⟨zs, ?_, hz', fun j hj => hb j hj (by omega)⟩
    exact ⟨1, fun k hk => by
      obtain ⟨m, rfl⟩ : ∃ m, k = m + 1 := ⟨k - 1, by omega⟩
      have := hz m zs (n + c * (xs.length : Int))
      rw [hz'] at this
      exact this⟩
  | succ d ih =>
    intro i hi zs hz' hb
    have hm : c * (i : Int) ≤ c * (xs.length : Int) := Int.mul_le_mul_of_nonneg_left (by omega) hc
    have hm0 : 0 ≤ c * (i : Int) := Int.mul_nonneg hc (by omega)
    obtain ⟨x', hx', hstep⟩ := hs (n + c * (i : Int)) (by omega) (by omega) zs i (by omega) (by omega)
    obtain ⟨ys, hy, hyl, hyh⟩ := ih (i + 1) (by omega) (zs.set i x') (by simpa using hz') (fun j hj hji => by
      rcases Nat.lt_or_eq_of_le (Nat.le_of_lt_succ hji) with r | r
      · rw [List.getElem_set_ne (by omega)]
        exact hb j (by simpa using hj) r
      · subst r
        rw [List.getElem_set_self]
        exact hx')
    refine ⟨ys, hstep _ ?_, hyl, hyh⟩
    have e : n + c * (i : Int) + c = n + c * (((i + 1 : Nat)) : Int) := by
      rw [show (((i + 1 : Nat)) : Int) = (i : Int) + 1 from by omega, Int.mul_add, Int.mul_one, Int.add_assoc]
    rw [e]
    simpa using hy
theorem held_loop {α : Type} (g : Nat → List α → Int → Int → Option Int) (H : α → Int → Prop) (c B : Int) (hc : 0 ≤ c)
    (hz : ∀ k (xs : List α) n, g (k + 1) xs n (xs.length : Int) = some n)
    (hs : ∀ n, 0 ≤ n → n ≤ B → ∀ (xs : List α) (i : Nat) (hi : i < xs.length), xs.length ≤ 1048576 → H xs[i] n → ∀ r, Ev (fun k => g k xs (n + c) ((i : Int) + 1)) r → Ev (fun k => g k xs n (i : Int)) r)
    (xs : List α) (hl : xs.length ≤ 1048576) (n : Int) (h0 : 0 ≤ n) (hB : n + c * (xs.length : Int) ≤ B) (hx : ∀ i (hi : i < xs.length), H xs[i] (n + c * (i : Int))) :
    Ev (fun k => g k xs n 0) (n + c * (xs.length : Int)) := by
  suffices h : ∀ d i : Nat, i + d = xs.length → Ev (fun k => g k xs (n + c * (i : Int)) (i : Int)) (n + c * (xs.length : Int)) by
    have := h xs.length 0 (Nat.zero_add _)
    simpa using this
  intro d
  induction d with
  | zero =>
    intro i hi
    have e : i = xs.length := by omega
    subst e
    exact ⟨1, fun k hk => by
      obtain ⟨m, rfl⟩ : ∃ m, k = m + 1 := ⟨k - 1, by omega⟩
      exact hz m xs _⟩
  | succ d ih =>
    intro i hi
    have hm : c * (i : Int) ≤ c * (xs.length : Int) := Int.mul_le_mul_of_nonneg_left (by omega) hc
    have hm0 : 0 ≤ c * (i : Int) := Int.mul_nonneg hc (by omega)
    refine hs (n + c * (i : Int)) (by omega) (by omega) xs i (by omega) hl (hx i (by omega)) _ ?_
    have e : n + c * (i : Int) + c = n + c * (((i + 1 : Nat)) : Int) := by
      rw [show (((i + 1 : Nat)) : Int) = (i : Int) + 1 from by omega, Int.mul_add, Int.mul_one, Int.add_assoc]
    rw [e]
    simpa using ih (i + 1) (by omega)
theorem getD_set {α : Type} (z : α) (xs : List α) (i : Nat) (h : i < xs.length) (a : α) : (xs.set i a).getD (i : Int).toNat z = a := by
  rw [Int.toNat_natCast, List.getD_eq_getElem?_getD, List.getElem?_set_self h]; rfl
def flatN {β : Type} (n : Nat) (F : Nat → List β) : List β := (List.range' 0 n).flatMap F
theorem idx_collect {β : Type} {g : Nat → List β → Int → Option (List β)} (n M : Nat) (F : Nat → List β) (hF : ∀ i, i < n → (F i).length ≤ 1)
    (h0 : ∀ acc, Ev (fun k => g k acc (n : Int)) acc)
    (h1 : ∀ i, i < n → ∀ acc : List β, acc.length < M → ∀ r, Ev (fun k => g k (acc ++ F i) ((i : Int) + 1)) r → Ev (fun k => g k acc (i : Int)) r)
    (acc : List β) (hM : acc.length + n ≤ M) : Ev (fun k => g k acc 0) (acc ++ flatN n F) := by
  suffices h : ∀ d i : Nat, i + d = n → ∀ acc : List β, acc.length + d ≤ M → Ev (fun k => g k acc (i : Int)) (acc ++ (List.range' i d).flatMap F) from h n 0 (Nat.zero_add _) acc hM
  intro d
  induction d with
  | zero =>
    intro i hi acc _
    have e : i = n := by omega
    subst e
    simpa using h0 acc
  | succ d ih =>
    intro i hi acc ha
    rw [List.range'_succ, List.flatMap_cons, ← List.append_assoc]
    have := hF i (by omega)
    exact h1 i (by omega) acc (by omega) _ (by simpa using ih (i + 1) (by omega) (acc ++ F i) (by rw [List.length_append]; omega))
theorem flatN_mem {β : Type} {n : Nat} {F : Nat → List β} {b : β} (h : b ∈ flatN n F) : ∃ i, i < n ∧ b ∈ F i := by
  obtain ⟨i, hi, hb⟩ := List.mem_flatMap.1 h
  exact ⟨i, by simpa [List.mem_range'_1] using hi, hb⟩
theorem flatN_two {β γ : Type} (n : Nat) (F : Nat → List β) (G : Nat → List γ) (h : ∀ i, i < n → (F i).length + (G i).length ≤ 1) : (flatN n F).length + (flatN n G).length ≤ n := by
  suffices h : ∀ d i : Nat, i + d = n → ((List.range' i d).flatMap F).length + ((List.range' i d).flatMap G).length ≤ d from h n 0 (Nat.zero_add _)
  intro d
  induction d with
  | zero => intro i _; simp
  | succ d ih =>
    intro i hi
    rw [List.range'_succ, List.flatMap_cons, List.flatMap_cons, List.length_append, List.length_append]
    have h1 := ih (i + 1) (by omega)
    have h2 := h i (by omega)
    omega
theorem flatN_len {β : Type} (n : Nat) (F : Nat → List β) (h : ∀ i, i < n → (F i).length ≤ 1) : (flatN n F).length ≤ n := by
  have := flatN_two n F (fun _ => ([] : List β)) (fun i hi => by simpa using h i hi)
  omega
end Go.Proofs.YtmebimamjgnlpaaG
end

section
namespace Go.Proofs.YtmebimamjgnlpaaW.PrintWords
open Go.ChangeShapes Go.WideShapes
end Go.Proofs.YtmebimamjgnlpaaW.PrintWords
end
