/- What the functions that keep the last assignment of each name come to. No condition. -/
import Derived.Test.YtabbpnkbhapibaaYFcW3
import Derived.Test.YtabbpnkbhapibaaYFcP0
import Derived.Test.YtabbpnkbhapibaaYFcP3
namespace Go.Proofs.Ytabbpnkbhapibaa.PureFnCaptures
open Go.RowKit Go.Proofs.YtabbpnkbhapibaaG Go.Proofs.Ytabbpnkbhapibaa.PFnExactFinalOf Go.Proofs.YtabbpnkbhapibaaW.PrintWords Go.Proofs.YtabbpnkbhapibaaW.PrintLast Go.Proofs.YtabbpnkbhapibaaW.PrintMore
set_option linter.unusedSimpArgs false
set_option linter.unusedVariables false

def hasN (x : ByteArray) (o : S37) : Bool := o.f0.toList == x.toList
def stepF (out : List S37) (a : S37) : List S37 := match out.findIdx? (hasN a.f0) with
  | some i => out.set i a
  | none => out ++ [a]
def finalF (l : List S37) : List S37 := l.foldl stepF []
theorem rd_as (l : List S37) (i : Nat) (h : i < l.length) : rd_T37 l (i : Int) = l[i] := getD_get _ l i h
theorem stepF_none (out : List S37) (a : S37) (h : ∀ j, j < out.length → hasN a.f0 (rd_T37 out (j : Int)) = false) : stepF out a = out ++ [a] := by
  have e : out.findIdx? (hasN a.f0) = none := by
    rw [List.findIdx?_eq_none_iff]
    intro x hx
    obtain ⟨i, hi, rfl⟩ := List.getElem_of_mem hx
    have := h i hi
    rw [rd_as out i hi] at this
    exact this
  unfold stepF; rw [e]
theorem stepF_some (out : List S37) (a : S37) (i : Nat) (hi : i < out.length) (hp : hasN a.f0 (rd_T37 out (i : Int)) = true) (hb : ∀ j, j < i → hasN a.f0 (rd_T37 out (j : Int)) = false) : stepF out a = out.set i a := by
  have e : out.findIdx? (hasN a.f0) = some i := by
    rw [List.findIdx?_eq_some_iff_getElem]
    refine ⟨hi, by rw [rd_as out i hi] at hp; exact hp, fun j hj => ?_⟩
    have := hb j hj
    rw [rd_as out j (by omega)] at this
    rw [this]; decide
  unfold stepF; rw [e]
theorem stepF_len (out : List S37) (a : S37) : (stepF out a).length ≤ out.length + 1 := by
  unfold stepF; split <;> simp
theorem stepF_mem (out : List S37) (a x : S37) (h : x ∈ stepF out a) : x ∈ out ∨ x = a := by
  unfold stepF at h
  split at h
  · rcases List.mem_or_eq_of_mem_set h with r | r
    · exact .inl r
    · exact .inr r
  · simpa using h
theorem foldF_mem (l out : List S37) (x : S37) (h : x ∈ l.foldl stepF out) : x ∈ out ∨ x ∈ l := by
  induction l generalizing out with
  | nil => exact .inl h
  | cons a l ih =>
    rcases ih (stepF out a) h with r | r
    · rcases stepF_mem out a x r with q | q
      · exact .inl q
      · exact .inr (by rw [q]; exact List.mem_cons_self)
    · exact .inr (List.mem_cons_of_mem _ r)
theorem foldF_len (l out : List S37) : (l.foldl stepF out).length ≤ out.length + l.length := by
  induction l generalizing out with
  | nil => simp
  | cons a l ih =>
    have h1 := ih (stepF out a)
    have h2 := stepF_len out a
    rw [List.foldl_cons, List.length_cons]
    omega
theorem fold_range (l : List S37) : ∀ d i : Nat, i + d = l.length → ∀ b, (List.range' i d).foldl (fun b (i : Nat) => stepF b (rd_T37 l (i : Int))) b = (l.drop i).foldl stepF b := by
  intro d
  induction d with
  | zero => intro i hi b; rw [List.drop_of_length_le (by omega)]; rfl
  | succ d ih =>
    intro i hi b
    rw [List.range'_succ, List.foldl_cons, ih (i + 1) (by omega), List.drop_eq_getElem_cons (show i < l.length by omega), List.foldl_cons, rd_as l i (by omega)]
/-- A loop that builds up. -/
theorem idx_foldI {β : Type} {g : Nat → β → Int → Option β} (n : Nat) (f : β → Nat → β) (I : Nat → β → Prop) (hs : ∀ i b, i < n → I i b → I (i + 1) (f b i)) (h0 : ∀ b, I n b → Ev (fun k => g k b (n : Int)) b)
    (h1 : ∀ i, i < n → ∀ b, I i b → ∀ r, Ev (fun k => g k (f b i) ((i : Int) + 1)) r → Ev (fun k => g k b (i : Int)) r) (b : β) (hb : I 0 b) : Ev (fun k => g k b 0) ((List.range' 0 n).foldl f b) := by
  suffices h : ∀ d i : Nat, i + d = n → ∀ b, I i b → Ev (fun k => g k b (i : Int)) ((List.range' i d).foldl f b) from h n 0 (Nat.zero_add _) b hb
  intro d
  induction d with
  | zero =>
    intro i hi b hb
    have e : i = n := by omega
    subst e
    exact h0 b hb
  | succ d ih =>
    intro i hi b hb
    rw [List.range'_succ, List.foldl_cons]
    exact h1 i (by omega) b hb _ (by simpa using ih (i + 1) (by omega) (f b i) (hs i b (by omega) hb))
theorem impl_index_ev (out : List S37) (ho : out.length ≤ 1048576) (a : S37) :
    ∃ v, Ev (fun k => impl_Assignment__impl_FinalOf_1.f k out [a]) v ∧ ((v = -1 ∧ ∀ i, i < out.length → hasN a.f0 (rd_T37 out (i : Int)) = false) ∨ ∃ i : Nat, v = i ∧ i < out.length ∧ hasN a.f0 (rd_T37 out (i : Int)) = true ∧ ∀ j, j < i → hasN a.f0 (rd_T37 out (j : Int)) = false) := by
  simp only [impl_Assignment__impl_FinalOf_1.f]
  have c : ∀ x : S37, impl_FinalOf_1.f x.f0 x.f1 x.f2 x.f3 [a] = some (hasN a.f0 x) := fun x => by
    simp only [impl_FinalOf_1.f]; rw [if_pos (by simp)]; rfl
  refine idx_find (g := fun k i => impl_Assignment__impl_FinalOf_1.l0 k out [a] (out.length : Int) i) out.length (fun i => hasN a.f0 (rd_T37 out (i : Int))) ?_ ?_ ?_
  · refine ev_shift ?_; simp only [impl_Assignment__impl_FinalOf_1.l0]; exact ev_neg (by omega) (ev_some _)
  · intro i hi hp r hr
    refine ev_shift ?_; simp only [impl_Assignment__impl_FinalOf_1.l0]
    refine ev_pos (by omega) (ev_pos (by omega) (ev_pos (by omega) (ev_bindc (c _) (ev_neg (fun h => absurd (hp.symm.trans h) Bool.false_ne_true) ?_))))
    rw [wrap_up (by omega) (show (i : Int) < (out.length : Int) by omega) (by omega)]; exact hr
  · intro i hi hp
    refine ev_shift ?_; simp only [impl_Assignment__impl_FinalOf_1.l0]
    exact ev_pos (by omega) (ev_pos (by omega) (ev_pos (by omega) (ev_bindc (c _) (ev_pos hp (ev_some _)))))
theorem impl_FinalOf_ev (l : List S37) (hl : l.length ≤ 1048576) : Ev (fun k => impl_FinalOf.f k l) (finalF l) := by
  simp only [impl_FinalOf.f]
  have e : finalF l = (List.range' 0 l.length).foldl (fun b (i : Nat) => stepF b (rd_T37 l (i : Int))) [] := by
    rw [fold_range l l.length 0 (Nat.zero_add _)]; rfl
  rw [e]
  refine idx_foldI (g := fun k b i => impl_FinalOf.l0 k b l (l.length : Int) i) l.length _ (fun i b => b.length ≤ i) ?_ ?_ ?_ [] (Nat.le_refl _)
  · intro i b _ hb; have := stepF_len b (rd_T37 l (i : Int)); omega
  · intro b _; refine ev_shift ?_; simp only [impl_FinalOf.l0]; exact ev_neg (by omega) (ev_some _)
  · intro i hi b hb r hr
    have up := wrap_up (i := (i : Int)) (by omega) (show (i : Int) < (l.length : Int) by omega) (by omega)
    obtain ⟨v, hv, hc⟩ := impl_index_ev b (by omega) (rd_T37 l (i : Int))
    refine ev_shift ?_; simp only [impl_FinalOf.l0]
    refine ev_pos (by omega) (ev_pos (by omega) (ev_pos (by omega) (ev_bind hv ?_)))
    rcases hc with ⟨rfl, hn⟩ | ⟨j, rfl, hj, hp, hb'⟩
    · refine ev_pos (by omega) (ev_pos (by omega) ?_)
      rw [stepF_none b _ hn] at hr
      rw [up]; exact hr
    · refine ev_neg (by omega) (ev_pos (by omega) (ev_pos (by omega) ?_))
      rw [stepF_some b _ j hj hp hb'] at hr
      rw [up, Int.toNat_natCast]; exact hr
end Go.Proofs.Ytabbpnkbhapibaa.PureFnCaptures
