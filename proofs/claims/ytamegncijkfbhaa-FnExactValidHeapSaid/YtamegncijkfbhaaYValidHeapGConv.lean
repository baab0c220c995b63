/- A string's bytes, made by a conversion and only read behind it: as a function with a contract of its own, and the conversion's operation as that call. No condition. -/
import Derived.Test.YtamegncijkfbhaaYValidHeapWWords
import Derived.Test.YtamegncijkfbhaaYValidHeapWLast
import Derived.Test.YtamegncijkfbhaaYValidHeapWMore
import Derived.Test.YtamegncijkfbhaaYValidHeapWShare
import Derived.Lib.ConvBytes
namespace Go.Proofs.YtamegncijkfbhaaG
open Go.RowKit Go.Proofs.YtamegncijkfbhaaW.PrintWords Go.Proofs.YtamegncijkfbhaaW.PrintLast Go.Proofs.YtamegncijkfbhaaW.PrintMore
set_option linter.unusedVariables false

def conv_bytes.f (a0 : ByteArray) : Option (List Int) := if a0.size ≤ 9223372036854775807 then some (bytesOf a0) else none
def ConvR (e : TypeId) (s : ByteArray) (w : World) (Q : Ending → World → Prop) : Prop :=
  Q (.returned (.slice (some ⟨w.heap.size, 0, none⟩) s.size (grownCap w s.size 0 e))) (Lib.bytesWorld w e s)
theorem ConvR.mono {e : TypeId} {s : ByteArray} {w : World} {Q Q' : Ending → World → Prop} (h : ConvR e s w Q) (hm : ∀ e w', Q e w' → Q' e w') : ConvR e s w Q' := hm _ _ h
theorem conv_below (e : TypeId) (w : World) (s : ByteArray) : Below w.heap.size w (Lib.bytesWorld w e s) :=
  ⟨by simp [Lib.bytesWorld, World.freeze, World.alloc, World.drew, -World.alloc_eq, -World.drew_eq], by simp [Lib.bytesWorld, World.freeze, World.alloc, World.drew, -World.alloc_eq, -World.drew_eq], by simp [Lib.bytesWorld, World.freeze, World.alloc, World.drew, -World.alloc_eq, -World.drew_eq], by rw [Lib.bytesWorld_size]; omega, fun i hi => Lib.bytesWorld_at_old w e s i hi⟩
theorem bytes_len (s : ByteArray) : (bytesOf s).length = s.size := by simp [bytesOf]
theorem conv_reads (w : World) (e : TypeId) (s : ByteArray) (hs : s.size ≤ 9223372036854775807) {W' : World}
    (h : ∀ k, w.heap.size ≤ k → k < (Lib.bytesWorld w e s).heap.size → W'.heap[k]? = (Lib.bytesWorld w e s).heap[k]?) :
    Kd.C (Kd.int .u8) W' (some ⟨w.heap.size, 0, none⟩) (bytesOf s).length (bytesOf s) := by
  refine ⟨rfl, by rw [bytes_len]; exact hs, fun hp => ⟨_, rfl, fun j p hj => ⟨[.int .u8 p], rfl, rfl, fun i u hu => ?_⟩⟩⟩
  have hb := h w.heap.size (Nat.le_refl _) (by rw [Lib.bytesWorld_size]; omega)
  have hj' : j < s.size := by
    have := (List.getElem?_eq_some_iff.1 hj).1
    rwa [bytes_len] at this
  have hi : i = 0 := by
    have := (List.getElem?_eq_some_iff.1 hu).1
    simp at this
    exact this
  subst hi
  simp at hu
  subst hu
  have hc := Lib.bytesWorld_cell w e s j hj'
  rw [show (Kd.int .u8).sz = 1 from rfl, Nat.mul_one, Nat.add_zero, add_plain]
  unfold World.cell? at hc ⊢
  simp only [hb]
  rw [hc]
  have hp : p = ((s.data.toList.getD j 0).toNat : Int) := by
    simp [bytesOf] at hj
    obtain ⟨b, hb1, rfl⟩ := hj
    simp [List.getD_eq_getElem?_getD, hb1]
  rw [hp]
theorem conv_bytes.calls (e : TypeId) (a0 : ByteArray) (r : List Int) (w : World) (h : conv_bytes.f a0 = some r) :
    ConvR e a0 w fun en w' => ∃ v0_ : Value, en = .returned (v0_) ∧ Kd.V (Kd.int .u8) e w' w.heap.size (fun k_ => w.heap.size ≤ k_) v0_ r ∧ Below w.heap.size w w' := by
  unfold conv_bytes.f at h
  split at h
  · rename_i hs
    obtain rfl := Option.some.inj h
    refine ⟨_, rfl, ⟨_, _, by rw [bytes_len], by rw [bytes_len]; exact grownCap_ge w a0.size 0 e, ?_⟩, conv_below e w a0⟩
    intro W' hW
    exact conv_reads w e a0 hs hW
  · cases h
theorem gate_conv {P : Program} {ops : Array Oper} {Q : Exit → Act → World → Prop} {o : Oper} {rest : List Oper} {a : Act} {W : World} {src dst : TypeId} {x : Operand} (_ho : o.op = .convert src dst x) (h : wpList P ops Q (o :: rest) a W) : wpList P ops Q (o :: rest) a W := h
theorem conv_at {P : Program} {ops : Array Oper} {Q : Exit → Act → World → Prop} {rest : List Oper} {o : Oper} {a : Act} {w : World} {src dst e : TypeId} {x : Operand} (ho : o.op = .convert src dst x) (hgd : o.guard = none) (N : Option Tmp) (hd : o.dst = N) (s : ByteArray) (hx : a.eval x = .string s)
    (hs : P.underlying src = some .string) (ht : P.underlying dst = some (.slice e)) (he : P.underlying e = some (.int .u8))
    (h : ConvR e s w fun en w' => ∃ v, en = .returned v ∧ wpList P ops Q rest (a.put N v) w') : wpList P ops Q (o :: rest) a w := by
  obtain ⟨v, hv, hk⟩ := h
  injection hv with hv
  subst hv
  subst hd
  refine Kd.event_run hgd ?_ hk
  simp [execOp, ho, hx, Lib.run_convert_string_bytes w src dst e s hs ht he]
end Go.Proofs.YtamegncijkfbhaaG
