/- A pointer to a struct that is only read, told as a row of one element: an element of a row, or a variable in memory, as such a row. No condition. -/
import Derived.Test.YtamegncijkfbhaaYValidHeapWWords
import Derived.Test.YtamegncijkfbhaaYValidHeapWLast
import Derived.Test.YtamegncijkfbhaaYValidHeapWMore
namespace Go.Proofs.YtamegncijkfbhaaG
open Go.RowKit Go.Proofs.YtamegncijkfbhaaW.PrintWords Go.Proofs.YtamegncijkfbhaaW.PrintLast Go.Proofs.YtamegncijkfbhaaW.PrintMore
set_option linter.unusedVariables false
section
variable {α : Type} {d : Kd α} {w : World}
theorem C_one {ad : Addr} {n : Nat} {xs : List α} (h : d.C w (some ad) n xs) (z : α) (i : Int) (h0 : 0 ≤ i) (h1 : i < (n : Int)) : d.C w (some (ad.add (i.toNat * d.sz))) 1 [xs.getD i.toNat z] := by
  obtain ⟨ad', c, e, hl, hK, hc⟩ := ReadsRow.get_ h z i h0 h1
  injection e with e
  subst e
  refine ⟨rfl, by decide, fun _ => ⟨_, rfl, fun j p hj => ?_⟩⟩
  have hj0 : j = 0 := by
    have := (List.getElem?_eq_some_iff.1 hj).1
    simp at this
    exact this
  subst hj0
  simp at hj
  subst hj
  refine ⟨c, hl, ?_, fun k u hu => ?_⟩
  · simpa [List.getD_eq_getElem?_getD] using hK
  · rw [add_add, Nat.zero_mul, Nat.zero_add]
    exact hc k u hu
theorem C_boxo {g : Nat} {cs : Array Value} {t : TypeId} {fr : Nat × Nat} (o : Nat) {x : α} (hb : w.heap[g]? = some (.cells cs t fr)) (hk : d.K w x ((cs.toList.drop o).take d.sz)) : d.C w (some ⟨g, o, none⟩) 1 [x] := by
  refine ⟨rfl, by decide, fun _ => ⟨_, rfl, fun j p hj => ?_⟩⟩
  have hj0 : j = 0 := by
    have := (List.getElem?_eq_some_iff.1 hj).1
    simp at this
    exact this
  subst hj0
  simp at hj
  subst hj
  refine ⟨_, d.K_len hk, hk, fun k u hu => ?_⟩
  have hk' : k < d.sz := by
    have := (List.getElem?_eq_some_iff.1 hu).1
    rw [d.K_len hk] at this
    exact this
  rw [List.getElem?_take_of_lt hk', List.getElem?_drop] at hu
  rw [add_at, Nat.zero_mul, Nat.zero_add]
  unfold World.cell?
  simp only [hb]
  rw [← Array.getElem?_toList, hu]
  rfl
theorem C_box {g : Nat} {cs : Array Value} {t : TypeId} {fr : Nat × Nat} {x : α} (hb : w.heap[g]? = some (.cells cs t fr)) (hk : d.K w x cs.toList) : d.C w (some ⟨g, 0, none⟩) 1 [x] :=
  C_boxo 0 hb (by
    have hl := d.K_len hk
    rw [List.drop_zero, List.take_of_length_le (by omega)]
    exact hk)
end
end Go.Proofs.YtamegncijkfbhaaG
