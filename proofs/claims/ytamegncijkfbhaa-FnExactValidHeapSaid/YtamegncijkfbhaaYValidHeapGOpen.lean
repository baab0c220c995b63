/- What a reading of an argument (numbers, bools, strings, slices, structs, structs nested in themselves) tells of the cells that it lies in, in the words of the printed contracts. No condition. -/
import Derived.Test.YtamegncijkfbhaaYValidHeapWWords
import Derived.Test.YtamegncijkfbhaaYValidHeapWLast
import Derived.ChangeArms
import Derived.DataElems
import Derived.WideShapes
import Derived.RowKit
namespace Go.Proofs.YtamegncijkfbhaaG
open Go.RowKit Go.Proofs.YtamegncijkfbhaaW.PrintWords Go.Proofs.YtamegncijkfbhaaW.PrintLast
set_option linter.unusedVariables false

/-- Whatever reads as a value of type t, at depth n, is of the kind d, and fit. -/
def Opens (P : Program) (n : Nat) (t : TypeId) {α : Type} (d : Kd α) (wf : α → Prop) : Prop :=
  ∀ (H : Type) (enc : TypeId × Value → H) (W : World) (cs : List Value) (x : DataW H × List MemPlace),
    DataW.trod enc P W 0 (fun _ => true) true n t cs = some x → ∃ a, d.K W a cs ∧ wf a

def WInt (k : IntKind) (x : Int) : Prop := (Lit.int k x).wf = true
def WStr (s : ByteArray) : Prop := s.size ≤ 9223372036854775807
def WList {α : Type} (wf : α → Prop) (l : List α) : Prop := l.length ≤ 9223372036854775807 ∧ ∀ a, a ∈ l → wf a
theorem WInt.i64 {x : Int} (h : WInt .i64 x) : -9223372036854775808 ≤ x ∧ x ≤ 9223372036854775807 := by
  unfold WInt at h
  simp [Lit.wf, IntKind.min, IntKind.max, IntKind.bits, IntKind.signed] at h
  omega
theorem WInt.u8 {x : Int} (h : WInt .u8 x) : 0 ≤ x ∧ x ≤ 255 := by
  unfold WInt at h
  simp [Lit.wf, IntKind.min, IntKind.max, IntKind.bits, IntKind.signed] at h
  omega

section
variable {P : Program} {n : Nat} {t : TypeId}
theorem opens_int {k : IntKind} (hu : P.underlying t = some (.int k)) : Opens P n t (Kd.int k) (WInt k) := by
  intro H enc W cs x h
  obtain ⟨m, rfl, _, hw⟩ := DataW.trod_int hu h
  exact ⟨m, rfl, hw⟩
theorem opens_string (hu : P.underlying t = some .string) : Opens P n t Kd.string WStr := by
  intro H enc W cs x h
  obtain ⟨s, rfl, _, hs⟩ := DataW.trod_string hu h
  exact ⟨s, rfl, hs⟩
theorem choose_list {α : Type} {R : Nat → α → Prop} : ∀ (len : Nat), (∀ i, i < len → ∃ a, R i a) → ∃ l : List α, l.length = len ∧ ∀ i a, l[i]? = some a → R i a
  | 0, _ => ⟨[], rfl, fun i a h => by simp at h⟩
  | len + 1, h => by
    obtain ⟨l, hl, hr⟩ := choose_list len (fun i hi => h i (by omega))
    obtain ⟨a, ha⟩ := h len (by omega)
    refine ⟨l ++ [a], by simp [hl], fun i b hb => ?_⟩
    rcases Nat.lt_or_ge i l.length with hi | hi
    · rw [List.getElem?_append_left hi] at hb
      exact hr i b hb
    · rw [List.getElem?_append_right hi] at hb
      have h0 : i - l.length = 0 := by
        have := (List.getElem?_eq_some_iff.1 hb).1
        simp at this
        omega
      rw [h0] at hb
      simp at hb
      subst hb
      have : i = len := by omega
      subst this
      exact ha
theorem opens_slice {α : Type} {e : TypeId} {d : Kd α} {wf : α → Prop} (hu : P.underlying t = some (.slice e)) (hs : P.cellsOf e = d.sz) (h : ∀ m, m < n → Opens P m e d wf) :
    Opens P n t (Kd.slice e d) (WList wf) := by
  intro H enc W cs x hx
  rcases DataW.trod_slice hu hx with ⟨rfl, _⟩ | ⟨a, len, cap, elems, rest, m, rfl, rfl, _, _, hlc, hcm, hel, hget, _, _⟩
  · exact ⟨[], ⟨none, 0, rfl, Nat.le_refl _, rfl, by simp, fun hp => absurd hp (Nat.lt_irrefl 0)⟩, by simp, by simp⟩
  · have hlm : len ≤ 9223372036854775807 := by simp only [maxLen] at hcm; omega
    obtain ⟨l, hl, hr⟩ := choose_list (R := fun i (b : α) => (∃ c, c.length = d.sz ∧ d.K W b c ∧ ∀ j u, c[j]? = some u → W.cell? (a.add (i * d.sz + j)) = some u) ∧ wf b) len (fun i hi => by
      have hg := hget i hi
      have hsome : elems[i]? = some (elems[i]'(by omega)) := List.getElem?_eq_getElem (by omega)
      rw [hsome, Option.bind_eq_some_iff] at hg
      obtain ⟨c, hc, hy⟩ := hg
      obtain ⟨_, hcl, hcell⟩ := World.cells?_some hc
      obtain ⟨b, hK, hw⟩ := h m (Nat.lt_succ_self m) H enc W c _ hy
      refine ⟨b, ⟨c, by rw [hcl, hs], hK, fun j u hj => ?_⟩, hw⟩
      have hjl : j < P.cellsOf e := by
        have := (List.getElem?_eq_some_iff.1 hj).1
        omega
      have hz := hcell j hjl
      rw [Addr.add_add, hs] at hz
      rw [hz, hj])
    refine ⟨l, ⟨some a, cap, by rw [hl], by omega, rfl, by omega, fun hp => ⟨a, rfl, fun j p hj => (hr j p hj).1⟩⟩, by omega, fun b hb => ?_⟩
    obtain ⟨i, hi, rfl⟩ := List.getElem_of_mem hb
    exact (hr i _ (List.getElem?_eq_getElem hi)).2
/-- Fields in line, the first at 'off'. -/
def OpensF (P : Program) (n : Nat) (fs : List Field) (off : Nat) {α : Type} (d : Kd α) (wf : α → Prop) : Prop :=
  ∀ (H : Type) (enc : TypeId × Value → H) (W : World) (cs : List Value),
    (∀ f, f ∈ fs → ∃ y, DataW.trod enc P W 0 (fun _ => true) true n f.type ((cs.drop f.offset).take (P.cellsOf f.type)) = some y) → cs.length = off + d.sz → ∃ a, d.K W a (cs.drop off) ∧ wf a
theorem opens_last {α : Type} {f : Field} {d : Kd α} {wf : α → Prop} {off : Nat} (ho : f.offset = off) (hs : P.cellsOf f.type = d.sz) (h : Opens P n f.type d wf) : OpensF P n [f] off d wf := by
  intro H enc W cs hf hl
  obtain ⟨y, hy⟩ := hf f (by simp)
  rw [ho, hs, List.take_of_length_le (by simp; omega)] at hy
  exact h H enc W _ y hy
theorem opens_field {α β : Type} {f : Field} {fs : List Field} {d : Kd α} {d' : Kd β} {wf : α → Prop} {wf' : β → Prop} {off : Nat} (ho : f.offset = off) (hs : P.cellsOf f.type = d.sz) (h : Opens P n f.type d wf)
    (hr : OpensF P n fs (off + d.sz) d' wf') : OpensF P n (f :: fs) off (Kd.pair d d') (fun x => wf x.1 ∧ wf' x.2) := by
  intro H enc W cs hf hl
  obtain ⟨y, hy⟩ := hf f (by simp)
  rw [ho, hs] at hy
  obtain ⟨a, ha, hwa⟩ := h H enc W _ y hy
  obtain ⟨b, hb, hwb⟩ := hr H enc W cs (fun g hg => hf g (List.mem_cons_of_mem _ hg)) (by rw [hl]; show off + (d.sz + d'.sz) = _; omega)
  refine ⟨(a, b), ⟨_, _, ?_, ha, hb⟩, hwa, hwb⟩
  rw [← List.drop_drop, List.take_append_drop]
theorem opens_struct {α : Type} {fs : Array Field} {d : Kd α} {wf : α → Prop} (hu : P.underlying t = some (.struct fs)) (hs : P.cellsOf t = d.sz) (h : ∀ m, m < n → OpensF P m fs.toList 0 d wf) : Opens P n t d wf := by
  intro H enc W cs x hx
  obtain ⟨xs, m, rfl, _, hl, hxl, hg⟩ := DataW.trod_struct hu hx
  obtain ⟨a, ha, hw⟩ := h m (Nat.lt_succ_self m) H enc W cs (fun f hf => by
    obtain ⟨i, hi, rfl⟩ := List.getElem_of_mem hf
    have hi' : i < fs.size := by simpa using hi
    have := hg i fs[i] (Array.getElem?_eq_getElem hi')
    refine ⟨xs[i]'(by omega), ?_⟩
    simp only [Array.getElem_toList]
    rw [this]
    exact List.getElem?_eq_getElem (by omega)) (by rw [hl, hs]; omega)
  exact ⟨a, by simpa using ha, hw⟩
theorem opens_iso {α β : Type} {d : Kd α} {wf : α → Prop} (f : β → α) (g : α → β) (hfg : ∀ a, f (g a) = a) (h : Opens P n t d wf) : Opens P n t (Kd.iso d f) (fun b => wf (f b)) := by
  intro H enc W cs x hx
  obtain ⟨a, ha, hw⟩ := h H enc W cs x hx
  refine ⟨g a, ?_, ?_⟩
  · show d.K W (f (g a)) cs
    rw [hfg]
    exact ha
  · show wf (f (g a))
    rw [hfg]
    exact hw
end
end Go.Proofs.YtamegncijkfbhaaG
