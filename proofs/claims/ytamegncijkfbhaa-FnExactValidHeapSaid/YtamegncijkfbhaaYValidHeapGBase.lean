/- Plain lemmas on numbers, rounds and lists, and what names and values are, in words of no program. No condition. -/
import Derived.Test.YtamegncijkfbhaaYValidHeapWWords
import Derived.Test.YtamegncijkfbhaaYValidHeapGConv
import Derived.Test.YtamegncijkfbhaaYValidHeapGOpen
namespace Go.Proofs.YtamegncijkfbhaaG
open Go.RowKit Go.Proofs.YtamegncijkfbhaaW.PrintWords
set_option linter.unusedVariables false

theorem wrap_id {x : Int} (h0 : -9223372036854775808 ≤ x) (h1 : x ≤ 9223372036854775807) : wrap64 x = x := by unfold wrap64; omega
theorem wrap_up {i : Int} {n : Nat} (h0 : 0 ≤ i) (h : i < (n : Int)) (hn : n ≤ 9223372036854775807) : wrap64 (i + 1) = i + 1 := by unfold wrap64; omega
section
variable {α β : Type}
theorem ev_some (r : α) : Ev (fun _ => some r) r := ⟨0, fun _ _ => rfl⟩
theorem ev_of_eq {x : Option α} {r : α} (h : x = some r) : Ev (fun _ => x) r := ⟨0, fun _ _ => h⟩
theorem ev_pos {c : Prop} [Decidable c] {f g : Nat → Option α} {r : α} (h : c) (k : Ev f r) : Ev (fun n => if c then f n else g n) r := Ev.congr (fun _ => if_pos h) k
theorem ev_neg {c : Prop} [Decidable c] {f g : Nat → Option α} {r : α} (h : ¬ c) (k : Ev g r) : Ev (fun n => if c then f n else g n) r := Ev.congr (fun _ => if_neg h) k
theorem ev_shift {g : Nat → Option α} {r : α} (h : Ev (fun k => g (k + 1)) r) : Ev g r := Ev.step (fun _ => rfl) h
theorem ev_bind {g : Nat → Option α} {f : Nat → α → Option β} {a : α} {r : β} (h : Ev g a) (k : Ev (fun n => f n a) r) : Ev (fun n => (g n).bind (f n)) r := Ev.bind h k
theorem ev_bindc {x : Option α} {f : Nat → α → Option β} {a : α} {r : β} (h : x = some a) (k : Ev (fun n => f n a) r) : Ev (fun n => x.bind (f n)) r := Ev.congr (fun _ => by rw [h]; rfl) k
end

theorem bytes_size (s : ByteArray) : (bytesOf s).length = s.size := by simp [bytesOf]
theorem bt_get (s : ByteArray) (i : Nat) (h : i < s.size) : bt s (i : Int) = (bytesOf s)[i]'(by rw [bytes_size]; exact h) := by
  unfold bt
  rw [Int.toNat_natCast, dif_pos h]
  simp [bytesOf]
  rfl
theorem rd_get (l : List Int) (i : Nat) (h : i < l.length) : rd l (i : Int) = l[i] := by
  unfold rd
  rw [Int.toNat_natCast, List.getD_eq_getElem?_getD, List.getElem?_eq_getElem h]
  rfl
theorem getD_get {α : Type} (d : α) (l : List α) (i : Nat) (h : i < l.length) : l.getD (i : Int).toNat d = l[i] := by
  rw [Int.toNat_natCast, List.getD_eq_getElem?_getD, List.getElem?_eq_getElem h]
  rfl
theorem toList_nil (s : ByteArray) : s.toList = [] ↔ s.size = 0 := by
  rw [Go.ByteArray.toList_eq]
  constructor
  · intro h
    have := congrArg List.length h
    simpa using this
  · intro h
    apply List.eq_nil_of_length_eq_zero
    simpa using h
theorem toList_inj {a b : ByteArray} : a.toList = b.toList ↔ a = b := by
  constructor
  · intro h
    rw [Go.ByteArray.toList_eq, Go.ByteArray.toList_eq] at h
    exact ByteArray.ext (Array.toList_inj.1 h)
  · intro h; rw [h]

/-- The loop of areAll. -/
theorem areAll_loop {α : Type} (g : Nat → List α → Int → Int → Option Bool) (rd_ : List α → Int → α) (p : Nat → α → Option Bool) (P : α → Bool)
    (hg : ∀ k xs n i, g (k + 1) xs n i = if i < n then (if 0 ≤ i then (if i < (xs.length : Int) then ((p k (rd_ xs i)).bind fun t => (if t = true then g k xs n (wrap64 (i + 1)) else (some false))) else none) else none) else some true)
    (hrd : ∀ (xs : List α) (i : Nat) (h : i < xs.length), rd_ xs (i : Int) = xs[i]) (xs : List α) (hl : xs.length ≤ 9223372036854775807) (hp : ∀ x, x ∈ xs → Ev (fun k => p k x) (P x)) :
    Ev (fun k => g k xs (xs.length : Int) 0) (xs.all P) := by
  suffices h : ∀ d i : Nat, i ≤ xs.length → xs.length - i = d → Ev (fun k => g k xs (xs.length : Int) (i : Int)) ((xs.drop i).all P) by
    have := h xs.length 0 (Nat.zero_le _) (Nat.sub_zero _)
    simpa using this
  intro d
  induction d with
  | zero =>
    intro i hi hd
    refine Ev.step (fun k => hg k xs _ _) (ev_neg (by omega) ?_)
    rw [List.drop_of_length_le (by omega)]
    exact ev_some _
  | succ d ih =>
    intro i hi hd
    have hlt : i < xs.length := by omega
    refine Ev.step (fun k => hg k xs _ _) (ev_pos (by omega) (ev_pos (by omega) (ev_pos (by omega) ?_)))
    rw [List.drop_eq_getElem_cons hlt, List.all_cons]
    have hb := hp xs[i] (List.getElem_mem hlt)
    rw [hrd xs i hlt, wrap_up (by omega) (show (i : Int) < (xs.length : Int) by omega) hl]
    refine ev_bind hb ?_
    cases hP : P xs[i] with
    | false => exact ev_neg (by decide) (by simpa using ev_some false)
    | true =>
      refine ev_pos rfl ?_
      have := ih (i + 1) (by omega) (by omega)
      simpa using this

def isLet (c : Int) : Bool := (decide (65 ≤ c) && decide (c ≤ 90)) || (decide (97 ≤ c) && decide (c ≤ 122))
def isDig (c : Int) : Bool := decide (48 ≤ c) && decide (c ≤ 57)
def isNmB (c : Int) : Bool := isLet c || isDig c || decide (c = 95)
def isNameS (s : ByteArray) : Bool := decide (1 ≤ s.size) && decide (s.size ≤ 12) && isLet (bt s 0) && (bytesOf s).all isNmB
def validV (k n : Int) (t : ByteArray) (r : Int) : Bool :=
  if k = 1 then n == 0 && (r == 0 && decide (t.size ≤ 200))
  else if k = 2 then decide (t.size = 0) && (r == 0 && (decide (-1000000000000 ≤ n) && decide (n ≤ 1000000000000)))
  else if k = 3 then n == 0 && (r == 0 && (decide (1 ≤ t.size) && decide (t.size ≤ 1200)))
  else if k = 4 ∨ k = 5 ∨ k = 6 then n == 0 && (decide (t.size = 0) && (decide (1 ≤ r) && decide (r ≤ 1000000)))
  else if k = 7 ∨ k = 8 then n == 0 && (r == 0 && isNameS t)
  else false
end Go.Proofs.YtamegncijkfbhaaG
