/- The program's ImageSum returns what the reference's ImageSum returns, for every string (the loop over the bytes is the same in both); no condition. -/
import Derived.Test.YtcnganocdjcbdaaPFnExactImageSumx1
namespace Go.Proofs.Ytcnganocdjcbdaa.Pure
open Go.RowKit Go.Proofs.Ytcnganocdjcbdaa.PFnExactImageSum Go.Proofs.YtcnganocdjcbdaaW.PrintWords Go.Proofs.YtcnganocdjcbdaaW.PrintLast

theorem wrap_step {i : Int} {n : Nat} (h0 : 0 ≤ i) (h : i < (n : Int)) (hn : n ≤ 140737488351232) : wrap64 (i + 1) = i + 1 := by
  unfold wrap64
  omega

theorem both (s : ByteArray) (hn : s.size ≤ 140737488351232) (d : Nat) : ∀ (k : Nat) (a b i : Int), 0 ≤ i → i ≤ s.size → (s.size : Int) - i = d → d < k →
    ∃ r, spec_l26Sum.l0 k s a b i = some r ∧ impl_ImageSum.l0 k s a b (s.size : Int) i = some r := by
  induction d with
  | zero =>
    intro k a b i h0 h1 hd hk
    obtain ⟨k, rfl⟩ : ∃ m, k = m + 1 := ⟨k - 1, by omega⟩
    refine ⟨wrap64 ((wrap64 (65536 * b)) + a), ?_, ?_⟩
    · simp only [spec_l26Sum.l0]; rw [if_neg (by omega)]
    · simp only [impl_ImageSum.l0]; rw [if_neg (by omega)]
  | succ d ih =>
    intro k a b i h0 h1 hd hk
    obtain ⟨k, rfl⟩ : ∃ m, k = m + 1 := ⟨k - 1, by omega⟩
    have hlt : i < (s.size : Int) := by omega
    obtain ⟨r, hr, h⟩ := ih k (Int.tmod (wrap64 (a + (wrap64 (bt s i)))) 65521) (Int.tmod (wrap64 (b + (Int.tmod (wrap64 (a + (wrap64 (bt s i)))) 65521))) 65521) (i + 1) (by omega) (by omega) (by omega) (by omega)
    refine ⟨r, ?_, ?_⟩
    · simp only [spec_l26Sum.l0]; rw [if_pos hlt, if_pos h0, wrap_step h0 hlt hn]; exact hr
    · simp only [impl_ImageSum.l0]; rw [if_pos hlt, if_pos h0, if_pos hlt, wrap_step h0 hlt hn]; exact h

theorem FnExactImageSum : laws_FnExactImageSum.Pure := by
  intro s hn
  obtain ⟨r, hr, h⟩ := both s hn s.size (s.size + 1) 1 0 0 (by omega) (by omega) (by omega) (by omega)
  refine ⟨s.size + 1, ?_⟩
  unfold laws_FnExactImageSum.f spec_ImageSum.f spec_l26Sum.f impl_ImageSum.f
  rw [hr, h]
  simp

end Go.Proofs.Ytcnganocdjcbdaa.Pure
