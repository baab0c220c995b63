/- Both functions print the tokens alike. -/
import Derived.Test.YtpbjagjknaglgaaDoorYPrintTokensA
import Derived.Test.YtpbjagjknaglgaaDoorYPrintTokensVValues
import Derived.Test.YtpbjagjknaglgaaDoorYPrintTokensVQuotes
import Derived.Test.YtpbjagjknaglgaaDoorYPrintTokensVDigits
import Derived.Test.YtpbjagjknaglgaaDoorYPrintTokensVTokens
namespace Go.Proofs.YtpbjagjknaglgaaDoor.Pure
open Go.Proofs.YtpbjagjknaglgaaDoor.PureFnExactPrintTokens Go.RowKit Go.Proofs.YtpbjagjknaglgaaDoorG Go.Proofs.YtpbjagjknaglgaaDoor.PFnExactPrintTokens Go.Proofs.YtpbjagjknaglgaaDoorW.PrintWords Go.Proofs.YtpbjagjknaglgaaDoorW.PrintLast Go.Proofs.YtpbjagjknaglgaaDoorW.PrintMore

def valT (x : S26) : Bool := tokV x.f0 x.f1 x.f2
def outT (x : S26) : ByteArray := textT x.f0 x.f1 x.f2
def sepT (l : List S26) (i : Nat) : Bool := decide (0 < i) && ((rd_T26 l (i : Int)).f3 || (rd_T26 l ((i : Int) - 1)).f4)
def preT (l : List S26) : Nat → ByteArray
  | 0 => ⟨#[]⟩
  | i + 1 => (if sepT l i = true then preT l i ++ (⟨#[32]⟩ : ByteArray) else preT l i) ++ outT (rd_T26 l (i : Int))
theorem textT_size (k n : Int) (t : ByteArray) (ht : t.size ≤ 1048576) (h : tokV k n t = true) : (textT k n t).size ≤ 1048580 := by
  unfold textT
  by_cases h2 : k = 2
  · subst h2
    have := tok_two h
    rw [if_pos rfl]; have := itoa_size n (by omega) (by omega); omega
  · rw [if_neg h2]
    by_cases h3 : k = 3
    · rw [if_pos h3]; have := quoted_size t; omega
    · rw [if_neg h3]
      by_cases h1 : k = 1
      · rw [if_pos h1]; omega
      · rw [if_neg h1]
        by_cases h4 : k = 4
        · rw [if_pos h4]; omega
        · rw [if_neg h4]
          have := tok_rest h h1 h2 h3 h4
          have : k = 5 ∨ k = 6 ∨ k = 7 ∨ k = 8 ∨ k = 9 ∨ k = 10 := by omega
          rcases this with rfl | rfl | rfl | rfl | rfl | rfl <;> decide
theorem rd_to (l : List S26) (i : Nat) (h : i < l.length) : rd_T26 l (i : Int) = l[i] := getD_get _ l i h
theorem preT_size (l : List S26) (hs : ∀ x, x ∈ l → (outT x).size ≤ 1048580) : ∀ i : Nat, i ≤ l.length → (preT l i).size ≤ i * 1048581 := by
  intro i
  induction i with
  | zero => intro _; exact Nat.le_refl _
  | succ i ih =>
    intro h
    have h1 := ih (by omega)
    have h2 := hs _ (List.getElem_mem (show i < l.length by omega))
    rw [← rd_to l i (by omega)] at h2
    have e1 : (⟨#[32]⟩ : ByteArray).size = 1 := rfl
    unfold preT
    split
    · simp only [ByteArray.size_append, e1]; omega
    · simp only [ByteArray.size_append]; omega
theorem spec_step (l : List S26) (hl : l.length ≤ 1048576) (hs : ∀ x, x ∈ l → x.f2.size ≤ 1048576) (i : Nat) (hi : i < l.length) (hp : (preT l i).size ≤ i * 1048581) :
    (valT l[i] = true → ∀ r, Ev (fun k => spec_PrintTokens.l0 k l (preT l (i + 1)) ((i : Int) + 1)) r → Ev (fun k => spec_PrintTokens.l0 k l (preT l i) (i : Int)) r) ∧
    (valT l[i] = false → Ev (fun k => spec_PrintTokens.l0 k l (preT l i) (i : Int)) (⟨#[]⟩ : ByteArray)) := by
  have hr := rd_to l i hi
  have hv := spec_ValidToken_ev l[i].f0 l[i].f1 l[i].f2 l[i].f3 l[i].f4
  have hw := wrap_up (show (0 : Int) ≤ (i : Int) by omega) (show (i : Int) < (l.length : Int) by omega) (by omega)
  have e1 : (⟨#[32]⟩ : ByteArray).size = 1 := rfl
  refine ⟨fun h r hk => ?_, fun h => ?_⟩
  · rw [show tokV l[i].f0 l[i].f1 l[i].f2 = true from h] at hv
    have ht := spec_text_ev l[i].f0 l[i].f1 l[i].f2 l[i].f3 l[i].f4 h
    have hz := textT_size _ _ _ (hs _ (List.getElem_mem hi)) h
    have hp1 : preT l (i + 1) = (if sepT l i = true then preT l i ++ (⟨#[32]⟩ : ByteArray) else preT l i) ++ textT l[i].f0 l[i].f1 l[i].f2 := by
      rw [show preT l (i + 1) = (if sepT l i = true then preT l i ++ (⟨#[32]⟩ : ByteArray) else preT l i) ++ outT (rd_T26 l (i : Int)) from rfl, hr]; rfl
    refine ev_shift ?_; simp only [spec_PrintTokens.l0]
    rw [hr, hw]
    refine ev_pos (by omega) (ev_pos (by omega) (ev_bind hv (ev_pos rfl ?_)))
    by_cases h0 : 0 < i
    · refine ev_pos (by omega) ?_
      by_cases h3 : l[i].f3 = true
      · have hsep : sepT l i = true := by unfold sepT; rw [hr, h3]; simp [h0]
        rw [hsep, if_pos rfl] at hp1
        rw [hp1] at hk
        exact ev_pos h3 (ev_pos (by omega) (ev_bind ht (ev_pos (by omega) hk)))
      · have hw2 : wrap64 ((i : Int) - 1) = (i : Int) - 1 := by unfold wrap64; omega
        refine ev_neg h3 ?_
        rw [hw2]
        refine ev_pos (by omega) (ev_pos (by omega) ?_)
        by_cases h4 : (rd_T26 l ((i : Int) - 1)).f4 = true
        · have hsep : sepT l i = true := by unfold sepT; rw [h4]; simp [h0]
          rw [hsep, if_pos rfl] at hp1
          rw [hp1] at hk
          exact ev_pos h4 (ev_pos (by omega) (ev_bind ht (ev_pos (by omega) hk)))
        · have hsep : sepT l i = false := by unfold sepT; rw [hr, Bool.eq_false_iff.2 h3, Bool.eq_false_iff.2 h4]; simp
          rw [hsep, if_neg Bool.false_ne_true] at hp1
          rw [hp1] at hk
          exact ev_neg h4 (ev_bind ht (ev_pos (by omega) hk))
    · have hsep : sepT l i = false := by unfold sepT; rw [decide_eq_false h0]; rfl
      rw [hsep, if_neg Bool.false_ne_true] at hp1
      rw [hp1] at hk
      exact ev_neg (by omega) (ev_bind ht (ev_pos (by omega) hk))
  · rw [show tokV l[i].f0 l[i].f1 l[i].f2 = false from h] at hv
    refine ev_shift ?_; simp only [spec_PrintTokens.l0]
    rw [hr]
    exact ev_pos (by omega) (ev_pos (by omega) (ev_bind hv (ev_neg Bool.false_ne_true (ev_some _))))
theorem spec_all (l : List S26) (hl : l.length ≤ 1048576) (hs : ∀ x, x ∈ l → x.f2.size ≤ 1048576) (ha : ∀ x, x ∈ l → valT x = true) : ∀ d i : Nat, i + d = l.length → Ev (fun k => spec_PrintTokens.l0 k l (preT l i) (i : Int)) (preT l l.length) := by
  intro d
  induction d with
  | zero =>
    intro i hi
    obtain rfl : i = l.length := by omega
    refine ev_shift ?_; simp only [spec_PrintTokens.l0]; exact ev_neg (by omega) (ev_some _)
  | succ d ih =>
    intro i hi
    have hp := preT_size l (fun x hx => textT_size _ _ _ (hs x hx) (ha x hx)) i (by omega)
    exact (spec_step l hl hs i (by omega) hp).1 (ha _ (List.getElem_mem _)) _ (by simpa using ih (i + 1) (by omega))
theorem spec_bad (l : List S26) (hl : l.length ≤ 1048576) (hs : ∀ x, x ∈ l → x.f2.size ≤ 1048576) (j : Nat) (hj : j < l.length) (hb : valT l[j] = false) (hf : ∀ q (h : q < l.length), q < j → valT l[q] = true) : ∀ d i : Nat, i + d = j → (preT l i).size ≤ i * 1048581 → Ev (fun k => spec_PrintTokens.l0 k l (preT l i) (i : Int)) (⟨#[]⟩ : ByteArray) := by
  intro d
  induction d with
  | zero =>
    intro i hi hp
    obtain rfl : i = j := by omega
    exact (spec_step l hl hs i hj hp).2 hb
  | succ d ih =>
    intro i hi hp
    have hv := hf i (by omega) (by omega)
    refine (spec_step l hl hs i (by omega) hp).1 hv _ (by
      have := ih (i + 1) (by omega) (by
        have h2 := textT_size _ _ _ (hs _ (List.getElem_mem (show i < l.length by omega))) hv
        have e1 : (⟨#[32]⟩ : ByteArray).size = 1 := rfl
        have h3 : (outT (rd_T26 l (i : Int))).size ≤ 1048580 := by rw [rd_to l i (by omega)]; exact h2
        unfold preT
        split
        · simp only [ByteArray.size_append, e1]; omega
        · simp only [ByteArray.size_append]; omega)
      simpa using this)
theorem impl_all (l : List S26) (hl : l.length ≤ 1048576) (hs : ∀ x, x ∈ l → x.f2.size ≤ 1048576) (ha : ∀ x, x ∈ l → valT x = true) : ∀ d i : Nat, i + d = l.length → Ev (fun k => impl_PrintTokens.l0 k l (preT l i) (i : Int)) (preT l l.length) := by
  intro d
  induction d with
  | zero =>
    intro i hi
    obtain rfl : i = l.length := by omega
    refine ev_shift ?_; simp only [impl_PrintTokens.l0]; exact ev_neg (by omega) (ev_some _)
  | succ d ih =>
    intro i hi
    have hp := preT_size l (fun x hx => textT_size _ _ _ (hs x hx) (ha x hx)) i (by omega)
    have hil : i < l.length := by omega
    have hr := rd_to l i hil
    have hv := ha _ (List.getElem_mem hil)
    have ht := impl_text_ev l[i].f0 l[i].f1 l[i].f2 l[i].f3 l[i].f4 hv
    have hz := textT_size _ _ _ (hs _ (List.getElem_mem hil)) hv
    have hw := wrap_up (show (0 : Int) ≤ (i : Int) by omega) (show (i : Int) < (l.length : Int) by omega) (by omega)
    have hw2 : 0 < i → wrap64 ((i : Int) - 1) = (i : Int) - 1 := fun h => by unfold wrap64; omega
    have e1 : (⟨#[32]⟩ : ByteArray).size = 1 := rfl
    have hk := ih (i + 1) (by omega)
    have hp1 : preT l (i + 1) = (if sepT l i = true then preT l i ++ (⟨#[32]⟩ : ByteArray) else preT l i) ++ textT l[i].f0 l[i].f1 l[i].f2 := by
      rw [show preT l (i + 1) = (if sepT l i = true then preT l i ++ (⟨#[32]⟩ : ByteArray) else preT l i) ++ outT (rd_T26 l (i : Int)) from rfl, hr]; rfl
    refine ev_shift ?_; simp only [impl_PrintTokens.l0]
    rw [hr, hw]
    refine ev_pos (by omega) (ev_pos (by omega) (ev_bind ht ?_))
    by_cases hc : sepT l i = true
    · rw [hc, if_pos rfl] at hp1
      rw [hp1] at hk
      refine ev_pos ?_ (ev_pos (by omega) (by simpa using hk))
      have hc2 := hc
      unfold sepT at hc2
      rw [Bool.and_eq_true, Bool.or_eq_true, decide_eq_true_eq] at hc2
      rw [hw2 hc2.1]
      exact ⟨by omega, by rw [hr] at hc2; exact hc2.2⟩
    · rw [if_neg hc] at hp1
      rw [hp1] at hk
      refine ev_neg ?_ (ev_pos (by omega) (by simpa using hk))
      rintro ⟨h0, h⟩
      rw [hw2 (by omega)] at h
      refine hc ?_
      unfold sepT
      rw [Bool.and_eq_true, Bool.or_eq_true, decide_eq_true_eq]
      exact ⟨by omega, by rw [hr]; exact h⟩
theorem first_bad (l : List S26) (h : ¬ ∀ x, x ∈ l → valT x = true) : ∃ j, ∃ hj : j < l.length, valT l[j] = false ∧ ∀ q (hq : q < l.length), q < j → valT l[q] = true := by
  induction l with
  | nil => exact absurd (fun x hx => absurd hx List.not_mem_nil) h
  | cons a l ih =>
    by_cases c : valT a = true
    · obtain ⟨j, hj, h1, h2⟩ := ih (fun hh => h (by
        intro x hx
        rcases List.mem_cons.1 hx with rfl | hx
        · exact c
        · exact hh x hx))
      refine ⟨j + 1, by simp; omega, by simpa using h1, fun q hq hlt => ?_⟩
      cases q with
      | zero => exact c
      | succ q => simpa using h2 q (by simpa using hq) (by omega)
    · exact ⟨0, by simp, by simpa using c, fun q _ h => absurd h (by omega)⟩
theorem core2 (l : List S26) (hl : l.length ≤ 1048576) (hs : ∀ x, x ∈ l → x.f2.size ≤ 1048576) : ∃ r, Ev (fun k => spec_PrintTokens.f k l) r ∧ Ev (fun k => impl_PrintTokens.f k l) r := by
  have hA : Ev (fun k => impl_Token__impl_ValidToken.f k l) (l.all valT) := by
    simp only [impl_Token__impl_ValidToken.f]
    exact areAll_loop impl_Token__impl_ValidToken.l0 rd_T26 (fun k x => impl_ValidToken.f k x.f0 x.f1 x.f2 x.f3 x.f4) valT (fun k xs n i => by simp only [impl_Token__impl_ValidToken.l0]) (fun xs i h => rd_to xs i h) l (by omega) (fun x _ => impl_ValidToken_ev x.f0 x.f1 x.f2 x.f3 x.f4)
  simp only [spec_PrintTokens.f, impl_PrintTokens.f]
  by_cases ha : ∀ x, x ∈ l → valT x = true
  · rw [List.all_eq_true.2 ha] at hA
    exact ⟨preT l l.length, by simpa [preT] using spec_all l hl hs ha l.length 0 (by omega), ev_pos (by omega) (ev_bind hA (ev_pos rfl (by simpa [preT] using impl_all l hl hs ha l.length 0 (by omega))))⟩
  · have hb : l.all valT = false := Bool.eq_false_iff.2 (fun h => ha (List.all_eq_true.1 h))
    rw [hb] at hA
    obtain ⟨j, hj, h1, h2⟩ := first_bad l ha
    exact ⟨_, by simpa [preT] using spec_bad l hl hs j hj h1 h2 j 0 (by omega) (Nat.le_refl _), ev_pos (by omega) (ev_bind hA (ev_neg Bool.false_ne_true (ev_some _)))⟩
theorem FnExactPrintTokens : laws_FnExactPrintTokens.Pure := by
  intro x0 w_x0
  suffices hh : Ev (fun k => laws_FnExactPrintTokens.f k x0) true by
    obtain ⟨K, hK⟩ := hh
    exact ⟨K, hK K (Nat.le_refl _)⟩
  simp only [laws_FnExactPrintTokens.f]
  obtain ⟨v1, e1, b1, q1⟩ := laws_szTokenS_sz x0 1048576 (w_x0) (by omega) (by omega)
  refine ev_bind e1 (ev_skip fun c1 => ?_)
  obtain g1_0 := q1 (by omega)
  obtain ⟨v2, e2, g2⟩ := laws_toTokenS_to x0 g1_0
  refine ev_bind e2 ?_
  obtain ⟨r, es, ei⟩ := core2 v2 g2.len (fun x hx => (show Fine x.f0 ∧ Fine x.f1 ∧ Fine x.f2 ∧ Fine x.f3 ∧ Fine x.f4 from g2.mem hx).2.2.1.size)
  refine ev_bind es ?_
  refine ev_bind e2 ?_
  refine ev_bind ei ?_
  have p0_ : Fine v2 := g2
  repeat (first | exact ev_some _ | refine ev_pos trivial ?_ | refine ev_pos rfl ?_ | refine ev_neg (bne_ff _) ?_ | refine ev_neg Bool.false_ne_true ?_ | refine ev_neg id ?_ | refine ev_bind e2 ?_ | refine ev_bind (laws_eqTokenS_rf _ (by assumption)) ?_)
end Go.Proofs.YtpbjagjknaglgaaDoor.Pure
