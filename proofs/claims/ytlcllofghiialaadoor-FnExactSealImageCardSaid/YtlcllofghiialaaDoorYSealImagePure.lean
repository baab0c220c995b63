/- The program's SealImage returns what the reference's returns, for every string: the text, a mark, and the same checksum's digits; no condition. -/
import Derived.Test.YtlcllofghiialaaDoorYSealImageO
import Derived.Test.YtlcllofghiialaaDoorYSealImageVDigits
namespace Go.Proofs.YtlcllofghiialaaDoor.Pure
open Go.Proofs.YtlcllofghiialaaDoor.PureFnExactSealImage Go.RowKit Go.Proofs.YtlcllofghiialaaDoorG Go.Proofs.YtlcllofghiialaaDoor.PFnExactSealImage Go.Proofs.YtlcllofghiialaaDoorW.PrintWords Go.Proofs.YtlcllofghiialaaDoorW.PrintLast Go.Proofs.YtlcllofghiialaaDoorW.PrintMore

theorem sums (s : ByteArray) (hn : s.size ≤ 1048576) (d : Nat) : ∀ (a b : Int) (i : Nat), i + d = s.size →
    ∃ r, Ev (fun k => spec_l26Sum.l0 k s a b (i : Int)) r ∧ Ev (fun k => impl_ImageSum.l0 k s a b (s.size : Int) (i : Int)) r ∧ -9223372036854775808 ≤ r ∧ r ≤ 9223372036854775807 := by
  induction d with
  | zero =>
    intro a b i hi
    refine ⟨wrap64 ((wrap64 (65536 * b)) + a), ?_, ?_, ?_, ?_⟩
    · refine ev_shift ?_; simp only [spec_l26Sum.l0]; exact ev_neg (by omega) (ev_some _)
    · refine ev_shift ?_; simp only [impl_ImageSum.l0]; exact ev_neg (by omega) (ev_some _)
    · unfold wrap64; omega
    · unfold wrap64; omega
  | succ d ih =>
    intro a b i hi
    obtain ⟨r, h1, h2, h3⟩ := ih (Int.tmod (wrap64 (a + (wrap64 (bt s (i : Int))))) 65521) (Int.tmod (wrap64 (b + (Int.tmod (wrap64 (a + (wrap64 (bt s (i : Int))))) 65521))) 65521) (i + 1) (by omega)
    refine ⟨r, ?_, ?_, h3⟩
    · refine ev_shift ?_; simp only [spec_l26Sum.l0]
      refine ev_pos (by omega) (ev_pos (by omega) ?_)
      rw [wrap_up (by omega) (show (i : Int) < (s.size : Int) by omega) (by omega)]
      exact h1
    · refine ev_shift ?_; simp only [impl_ImageSum.l0]
      refine ev_pos (by omega) (ev_pos (by omega) (ev_pos (by omega) ?_))
      rw [wrap_up (by omega) (show (i : Int) < (s.size : Int) by omega) (by omega)]
      exact h2
theorem FnExactSealImage : laws_FnExactSealImage.Pure := by
  intro s ws
  suffices hh : Ev (fun k => laws_FnExactSealImage.f k s) true by
    obtain ⟨K, hK⟩ := hh
    exact ⟨K, hK K (Nat.le_refl _)⟩
  simp only [laws_FnExactSealImage.f]
  refine ev_skip fun hs => ?_
  obtain ⟨r, h1, h2, h3, h4⟩ := sums s (by omega) s.size 1 0 0 (by omega)
  have hsz := itoa_size r h3 h4
  have e1 : Ev (fun k => spec_SealImage.f k s) ((s ++ (⟨#[32, 35]⟩ : ByteArray)) ++ itoaB r) := by
    simp only [spec_SealImage.f, spec_l26Seal.f, spec_l26Sum.f]
    exact ev_bind (ev_pos (by omega) (ev_bind h1 (ev_bind (spec_digits_ev r h3 h4) (ev_pos (by omega) (ev_some _))))) (ev_some _)
  have e2 : Ev (fun k => impl_SealImage.f k s) ((s ++ (⟨#[32, 35]⟩ : ByteArray)) ++ itoaB r) := by
    simp only [impl_SealImage.f, impl_ImageSum.f]
    exact ev_pos (by omega) (ev_bind h2 (ev_bindc (impl_decimal_eq r h3 h4) (ev_pos (by omega) (ev_some _))))
  exact ev_bind e1 (ev_bind e2 (ev_pos rfl (ev_some _)))
end Go.Proofs.YtlcllofghiialaaDoor.Pure
