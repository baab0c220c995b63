/- The program's BuiltinArity returns what the reference's BuiltinArity returns, for every string: for each of the 43 names by computation, for every other string both say -1; no condition. -/
import Derived.Test.YtcnganocdjcbdaaPFnExactBuiltinArityx2
namespace Go.Proofs.Ytcnganocdjcbdaa.Pure
open Go.RowKit Go.Proofs.Ytcnganocdjcbdaa.PFnExactBuiltinArity Go.Proofs.YtcnganocdjcbdaaW.PrintWords Go.Proofs.YtcnganocdjcbdaaW.PrintLast

theorem step1 {i : Int} {n : Nat} (h0 : 0 ≤ i) (h : i < (n : Int)) (hn : n ≤ 1000) : wrap64 (i + 1) = i + 1 := by
  unfold wrap64
  omega

theorem at_no (xs : List ByteArray) (s : ByteArray) (hn : xs.length ≤ 1000) (hno : ∀ x, x ∈ xs → x.toList ≠ s.toList) (d : Nat) : ∀ (k : Nat) (i : Int), 0 ≤ i → i ≤ xs.length → (xs.length : Int) - i = d → d < k →
    spec_l17At.l0 k xs s i = some (-1) := by
  induction d with
  | zero =>
    intro k i h0 h1 hd hk
    obtain ⟨k, rfl⟩ : ∃ m, k = m + 1 := ⟨k - 1, by omega⟩
    simp only [spec_l17At.l0]; rw [if_neg (by omega)]
  | succ d ih =>
    intro k i h0 h1 hd hk
    obtain ⟨k, rfl⟩ : ∃ m, k = m + 1 := ⟨k - 1, by omega⟩
    have hlt : i < (xs.length : Int) := by omega
    have hm : rdOf ByteArray.empty xs i ∈ xs := by
      unfold rdOf
      rw [List.getD_eq_getElem?_getD, List.getElem?_eq_getElem (show i.toNat < xs.length by omega)]
      exact List.getElem_mem _
    simp only [spec_l17At.l0]; rw [if_pos hlt, if_pos h0, if_neg (hno _ hm), step1 h0 hlt hn]
    exact ih k (i + 1) (by omega) (by omega) (by omega) (by omega)

theorem find_no (xs : List S56) (s : ByteArray) (hn : xs.length ≤ 1000) (hno : ∀ x, x ∈ xs → x.f0.toList ≠ s.toList) (d : Nat) : ∀ (k : Nat) (i : Int), 0 ≤ i → i ≤ xs.length → (xs.length : Int) - i = d → d < k →
    impl_findBuiltin.l0 k s xs (xs.length : Int) i = some ((⟨#[]⟩ : ByteArray), 0, (⟨#[]⟩ : ByteArray), false) := by
  induction d with
  | zero =>
    intro k i h0 h1 hd hk
    obtain ⟨k, rfl⟩ : ∃ m, k = m + 1 := ⟨k - 1, by omega⟩
    simp only [impl_findBuiltin.l0]; rw [if_neg (by omega)]
  | succ d ih =>
    intro k i h0 h1 hd hk
    obtain ⟨k, rfl⟩ : ∃ m, k = m + 1 := ⟨k - 1, by omega⟩
    have hlt : i < (xs.length : Int) := by omega
    have hm : rd_T56 xs i ∈ xs := by
      unfold rd_T56
      rw [List.getD_eq_getElem?_getD, List.getElem?_eq_getElem (show i.toNat < xs.length by omega)]
      exact List.getElem_mem _
    simp only [impl_findBuiltin.l0]; rw [if_pos hlt, if_pos h0, if_pos hlt, if_neg (hno _ hm), step1 h0 hlt hn]
    exact ih k (i + 1) (by omega) (by omega) (by omega) (by omega)

def NL : List ByteArray := (spec_BuiltinNames.f 300).getD []
def BL : List S56 := (impl_builtins.f).getD []
theorem names_300 : spec_BuiltinNames.f 300 = some NL := by decide +kernel
theorem names_298 : spec_BuiltinNames.f 298 = some NL := by decide +kernel
theorem builtins_is : impl_builtins.f = some BL := by unfold BL impl_builtins.f; rfl
theorem preds_sub : ((spec_l17Predicates.f).getD []).all (fun x => NL.any fun y => y.toList == x.toList) = true := by decide +kernel
theorem bl_sub : BL.all (fun x => NL.any fun y => y.toList == x.f0.toList) = true := by decide +kernel
theorem all_good : NL.all (fun x => laws_FnExactBuiltinArity.f 300 x == some true) = true := by decide +kernel

theorem in_names (l : List UInt8) (h : (NL.any fun y => y.toList == l) = true) {s : ByteArray} (hno : ∀ x, x ∈ NL → x.toList ≠ s.toList) : ¬ (s.toList = l) := by
  intro he
  obtain ⟨y, hy, e⟩ := List.any_eq_true.1 h
  exact hno y hy (by rw [he]; exact beq_iff_eq.1 e)

theorem FnExactBuiltinArity : laws_FnExactBuiltinArity.Pure := by
  intro s hn
  refine ⟨300, ?_⟩
  by_cases hin : ∃ x, x ∈ NL ∧ x.toList = s.toList
  · obtain ⟨x, hx, e⟩ := hin
    have hxs : x = s := by
      rw [Go.ByteArray.toList_eq, Go.ByteArray.toList_eq] at e
      exact ByteArray.ext (Array.toList_inj.1 e)
    subst hxs
    exact beq_iff_eq.1 (List.all_eq_true.1 all_good x hx)
  · have hno : ∀ x, x ∈ NL → x.toList ≠ s.toList := fun x hx e => hin ⟨x, hx, e⟩
    have hpred : ∃ P, spec_l17Predicates.f = some P ∧ P.length ≤ 1000 ∧ P.length < 298 ∧ ∀ x, x ∈ P → x.toList ≠ s.toList := by
      refine ⟨(spec_l17Predicates.f).getD [], by rfl, by decide +kernel, by decide +kernel, fun x hx e => ?_⟩
      obtain ⟨y, hy, e2⟩ := List.any_eq_true.1 (List.all_eq_true.1 preds_sub x hx)
      exact hno y hy (by rw [← e]; exact beq_iff_eq.1 e2)
    have hbl : ∀ x, x ∈ BL → x.f0.toList ≠ s.toList := fun x hx e => by
      obtain ⟨y, hy, e2⟩ := List.any_eq_true.1 (List.all_eq_true.1 bl_sub x hx)
      exact hno y hy (by rw [← e]; exact beq_iff_eq.1 e2)
    have n1 : NL.length ≤ 1000 := by decide +kernel
    have n2 : NL.length < 298 := by decide +kernel
    have b1 : BL.length ≤ 1000 := by decide +kernel
    have b2 : BL.length < 300 := by decide +kernel
    obtain ⟨P, hP, p1, p2, p3⟩ := hpred
    have himpl : impl_BuiltinArity.f 300 s = some (-1) := by
      unfold impl_BuiltinArity.f impl_findBuiltin.f
      rw [builtins_is]
      simp only [Option.bind_some]
      rw [find_no BL s b1 hbl BL.length 300 0 (by omega) (by omega) (by omega) (by omega)]
      rfl
    have h1 := in_names [82, 69, 80, 76, 65, 67, 69] (by decide +kernel) hno
    have h2 := in_names [76, 80, 65, 68] (by decide +kernel) hno
    have h3 := in_names [82, 80, 65, 68] (by decide +kernel) hno
    have h4 := in_names [83, 85, 66, 83, 84, 82] (by decide +kernel) hno
    have h5 := in_names [68, 85, 80, 76] (by decide +kernel) hno
    have h6 := in_names [65, 82, 82, 65, 89] (by decide +kernel) hno
    have h7 := in_names [75, 69, 89] (by decide +kernel) hno
    have h8 := in_names [73, 84, 69, 77] (by decide +kernel) hno
    have h9 := in_names [79, 80, 69, 78] (by decide +kernel) hno
    have h10 := in_names [80, 85, 84] (by decide +kernel) hno
    have hj1 : spec_BuiltinArity.j1 299 s false = some (-1) := by
      simp only [spec_BuiltinArity.j1]
      rw [if_neg (by decide), names_298]
      simp only [Option.bind_some, spec_l17At.f]
      rw [at_no NL s n1 hno NL.length 298 0 (by omega) (by omega) (by omega) (by omega)]
      simp
    have hj0 : spec_BuiltinArity.j0 300 s s false = some (-1) := by
      simp only [spec_BuiltinArity.j0]
      rw [if_neg (by decide), if_neg h5, if_neg h6, if_neg h7, if_neg h8, if_neg h9, if_neg h10, hP]
      simp only [Option.bind_some, spec_l17At.f]
      rw [at_no P s p1 p3 P.length 299 0 (by omega) (by omega) (by omega) (by omega)]
      simp only [Option.bind_some]
      rw [if_neg (by decide)]
      exact hj1
    have hspec : spec_BuiltinArity.f 300 s = some (-1) := by
      unfold spec_BuiltinArity.f
      rw [if_neg h1, if_neg h2, if_neg h3, beq_eq_false_iff_ne.2 h4]
      exact hj0
    unfold laws_FnExactBuiltinArity.f
    rw [hspec, himpl]
    simp

end Go.Proofs.Ytcnganocdjcbdaa.Pure
