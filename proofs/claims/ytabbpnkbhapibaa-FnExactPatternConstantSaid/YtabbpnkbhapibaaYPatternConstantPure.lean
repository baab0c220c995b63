/- The program's PatternConstant returns what the reference's returns, for every name: both look it up in the same list; no condition. -/
import Derived.Test.YtabbpnkbhapibaaYPcW2
import Derived.Test.YtabbpnkbhapibaaYPcP0
import Derived.Test.YtabbpnkbhapibaaYPcP1
import Derived.Test.YtabbpnkbhapibaaYPcP2
import Derived.Test.YtabbpnkbhapibaaYPcP3
import Derived.Test.YtabbpnkbhapibaaYPcP4
import Derived.Test.YtabbpnkbhapibaaYPcP5
namespace Go.Proofs.Ytabbpnkbhapibaa.Pure
open Go.RowKit Go.Proofs.YtabbpnkbhapibaaG Go.Proofs.Ytabbpnkbhapibaa.PFnExactPatternConstant Go.Proofs.YtabbpnkbhapibaaW.PrintWords Go.Proofs.YtabbpnkbhapibaaW.PrintLast Go.Proofs.YtabbpnkbhapibaaW.PrintMore

def namesP : List ByteArray := [(⟨#[82, 69, 77]⟩ : ByteArray), (⟨#[65, 82, 66]⟩ : ByteArray), (⟨#[66, 65, 76]⟩ : ByteArray), (⟨#[70, 69, 78, 67, 69]⟩ : ByteArray), (⟨#[65, 66, 79, 82, 84]⟩ : ByteArray), (⟨#[70, 65, 73, 76]⟩ : ByteArray), (⟨#[83, 85, 67, 67, 69, 69, 68]⟩ : ByteArray)]
theorem index_same (s : ByteArray) : ∃ v : Int, Ev (fun k => spec_l17At.f k namesP s) v ∧ Ev (fun k => slices_Index_string_string.f k namesP s) v ∧ -1 ≤ v ∧ v < 7 := by
  have hl : (namesP.length : Int) = 7 := rfl
  simp only [spec_l17At.f, slices_Index_string_string.f]
  obtain ⟨v, hv, h⟩ := idx_find (g := fun k i => spec_l17At.l0 k namesP s i) 7 (fun i => decide ((rdOf ByteArray.empty namesP (i : Int)).toList = s.toList))
    (by refine ev_shift ?_; simp only [spec_l17At.l0]; exact ev_neg (by decide) (ev_some _))
    (fun i hi hp r hr => by
      refine ev_shift ?_; simp only [spec_l17At.l0]
      refine ev_pos (by omega) (ev_pos (by omega) (ev_neg (of_decide_eq_false hp) ?_))
      rw [wrap_up (n := 7) (by omega) (by omega) (by omega)]; exact hr)
    (fun i hi hp => by
      refine ev_shift ?_; simp only [spec_l17At.l0]
      exact ev_pos (by omega) (ev_pos (by omega) (ev_pos (of_decide_eq_true hp) (ev_some _))))
  obtain ⟨u, hu, g⟩ := idx_find (g := fun k i => slices_Index_string_string.l0 k namesP s (namesP.length : Int) i) 7 (fun i => decide ((rdOf ByteArray.empty namesP (i : Int)).toList = s.toList))
    (by refine ev_shift ?_; simp only [slices_Index_string_string.l0]; exact ev_neg (by decide) (ev_some _))
    (fun i hi hp r hr => by
      refine ev_shift ?_; simp only [slices_Index_string_string.l0]
      refine ev_pos (by omega) (ev_pos (by omega) (ev_pos (by omega) (ev_neg (fun e => of_decide_eq_false hp e.symm) ?_)))
      rw [wrap_up (n := 7) (by omega) (by omega) (by omega)]; exact hr)
    (fun i hi hp => by
      refine ev_shift ?_; simp only [slices_Index_string_string.l0]
      exact ev_pos (by omega) (ev_pos (by omega) (ev_pos (by omega) (ev_pos (of_decide_eq_true hp).symm (ev_some _)))))
  have e : u = v := by
    rcases h with ⟨rfl, h⟩ | ⟨i, rfl, hi, hp, hb⟩ <;> rcases g with ⟨rfl, g⟩ | ⟨j, rfl, hj, hq, hc⟩
    · rfl
    · rw [h j hj] at hq; cases hq
    · rw [g i hi] at hp; cases hp
    · rcases Nat.lt_trichotomy i j with r | r | r
      · rw [hc i r] at hp; cases hp
      · rw [r]
      · rw [hb j r] at hq; cases hq
  refine ⟨v, hv, e ▸ hu, ?_, ?_⟩
  · rcases h with ⟨rfl, h⟩ | ⟨i, rfl, hi, hp, hb⟩ <;> omega
  · rcases h with ⟨rfl, h⟩ | ⟨i, rfl, hi, hp, hb⟩ <;> omega
theorem eq_pat (p : Int) : Ev (fun k => laws_eqPattern.f k p 0 (⟨#[]⟩ : ByteArray) [] p 0 (⟨#[]⟩ : ByteArray) []) true := by
  refine ⟨3, fun k hk => ?_⟩
  obtain ⟨m, rfl⟩ : ∃ m, k = m + 3 := ⟨k - 3, by omega⟩
  simp [laws_eqPattern.f, laws_eqPatternS.f, laws_eqPatternS.l0]
theorem held_pat (p : Int) : laws_heldPattern.f p 0 (⟨#[]⟩ : ByteArray) [] 1 = some 1 := rfl
theorem FnExactPatternConstant : laws_FnExactPatternConstant.Pure := by
  intro s _
  suffices hh : Ev (fun k => laws_FnExactPatternConstant.f k s) true by
    obtain ⟨K, hK⟩ := hh
    exact ⟨K, hK K (Nat.le_refl _)⟩
  have hb : ∃ (p : Int) (b : Bool), Ev (fun k => spec_PatternConstant.f k s) (p, 0, (⟨#[]⟩ : ByteArray), [], b) ∧ Ev (fun k => impl_PatternConstant.f k s) (p, 0, (⟨#[]⟩ : ByteArray), [], b) := by
    obtain ⟨v, h1, h2, _, _⟩ := index_same s
    simp only [spec_PatternConstant.f, impl_PatternConstant.f]
    by_cases hv : v < 0
    · exact ⟨_, _, ev_bind h1 (ev_pos hv (ev_some _)), ev_bind h2 (ev_pos hv (ev_some _))⟩
    · exact ⟨_, _, ev_bind h1 (ev_neg hv (ev_some _)), ev_bind h2 (ev_neg hv (ev_some _))⟩
  obtain ⟨p, b, hs, hi⟩ := hb
  have hj1 : Ev (fun k => laws_FnExactPatternConstant.j1 k 1 (b != b) p 0 (⟨#[]⟩ : ByteArray) []) true := by
    refine ev_shift ?_; simp only [laws_FnExactPatternConstant.j1]
    exact ev_neg (bne_ff b) (ev_bindc (held_pat p) (ev_neg (by decide) (ev_pos rfl (ev_some _))))
  simp only [laws_FnExactPatternConstant.f]
  refine ev_skip fun _ => ev_bind hs (ev_bind hi (ev_bind (eq_pat p) (ev_pos rfl ?_)))
  refine ev_shift ?_; simp only [laws_FnExactPatternConstant.j0]
  refine ev_neg (bne_ff b) (ev_bindc (a := (1 : Int)) rfl (ev_bindc (held_pat p) (ev_neg (by decide) (ev_pos rfl (ev_bind hi (ev_bind (eq_pat p) (ev_pos rfl hj1)))))))
end Go.Proofs.Ytabbpnkbhapibaa.Pure
