/- Both functions write the value alike. -/
import Derived.Test.YtpbjagjknaglgaaDoorYValueTextA
import Derived.Test.YtpbjagjknaglgaaDoorYValueTextVValues
import Derived.Test.YtpbjagjknaglgaaDoorYValueTextVDigits
namespace Go.Proofs.YtpbjagjknaglgaaDoor.Pure
open Go.Proofs.YtpbjagjknaglgaaDoor.PureFnExactValueText Go.RowKit Go.Proofs.YtpbjagjknaglgaaDoorG Go.Proofs.YtpbjagjknaglgaaDoor.PFnExactValueText Go.Proofs.YtpbjagjknaglgaaDoorW.PrintWords Go.Proofs.YtpbjagjknaglgaaDoorW.PrintLast Go.Proofs.YtpbjagjknaglgaaDoorW.PrintMore

def dblB (l : List UInt8) : List UInt8 := l.flatMap (fun c => if c = 34 then [34, 34] else [c])
theorem index_ne (b c : UInt8) (l : List UInt8) (h : b ≠ c) : Lib.index (b :: l) [c] = if Lib.index l [c] == -1 then -1 else Lib.index l [c] + 1 := by
  have hp : ([c] : List UInt8).isPrefixOf (b :: l) = false := by simp [List.isPrefixOf, Ne.symm h]
  rw [Lib.index, hp]; rfl
theorem index_eq (c : UInt8) (l : List UInt8) : Lib.index (c :: l) [c] = 0 := by
  have hp : ([c] : List UInt8).isPrefixOf (c :: l) = true := by simp [List.isPrefixOf]
  rw [Lib.index, hp]; rfl
theorem repK_ne (b c : UInt8) (new : List UInt8) (k : Nat) (l : List UInt8) (h : b ≠ c) : Lib.replaceK [c] new k (b :: l) = b :: Lib.replaceK [c] new k l := by
  cases k with
  | zero => rfl
  | succ k =>
    have hi := index_ne b c l h
    by_cases e : Lib.index l [c] = -1
    · rw [e] at hi
      rw [Lib.replaceK, Lib.replaceK, e, hi]
      rfl
    · have hge := Lib.index_ge l [c]
      have h1 : Lib.index l [c] = ((Lib.index l [c]).toNat : Int) := by omega
      have h2 : Lib.index (b :: l) [c] = (((Lib.index l [c]).toNat + 1 : Nat) : Int) := by
        rw [hi, if_neg (by simpa using e)]; omega
      rw [Lib.replaceK_hit _ _ _ _ _ h1, Lib.replaceK_hit _ _ _ _ _ h2, Nat.add_right_comm]
      rfl
theorem repK_eq (c : UInt8) (new : List UInt8) (k : Nat) (l : List UInt8) : Lib.replaceK [c] new (k + 1) (c :: l) = new ++ Lib.replaceK [c] new k l := by
  rw [Lib.replaceK_hit [c] new k (c :: l) 0 (index_eq c l)]
  rfl
theorem rep_dbl : ∀ s : List UInt8, Lib.replaceK [34] [34, 34] (Lib.count s [34]) s = dblB s
  | [] => by rfl
  | b :: l => by
    by_cases h : b = 34
    · subst h
      rw [Lib.count_hit (i := 0) (by simp) (index_eq 34 l), Nat.add_comm 1]
      rw [repK_eq]
      rw [show (List.drop (0 + [(34 : UInt8)].length) (34 :: l)) = l from rfl, rep_dbl l]
      rfl
    · rw [Lib.count_cons_ne b 34 l h, repK_ne b 34 _ _ _ h, rep_dbl l]
      simp [dblB, h]
theorem replaceAll_dbl (s : List UInt8) : Lib.replaceAll s [34] [34, 34] = dblB s := by
  unfold Lib.replaceAll Lib.replace Lib.replaceNum
  rw [if_neg (by decide), if_pos (Or.inl (by decide))]
  exact rep_dbl s
theorem dbl_length (s : List UInt8) : (dblB s).length ≤ 2 * s.length := by
  induction s with
  | nil => decide
  | cons b l ih =>
    unfold dblB at *
    rw [List.flatMap_cons, List.length_append]
    have : (if b = 34 then [(34 : UInt8), 34] else [b]).length ≤ 2 := by split <;> simp
    simp only [List.length_cons]
    omega
def quoteQ (t : ByteArray) : ByteArray := ⟨(34 :: (dblB t.data.toList ++ [34])).toArray⟩
theorem dbl_append (a b : List UInt8) : dblB (a ++ b) = dblB a ++ dblB b := by simp [dblB]
theorem impl_Quote_eq (t : ByteArray) (ht : t.size ≤ 1048576) : impl_QuoteText.f t = some (quoteQ t) := by
  have hc : Lib.countB t (⟨#[34]⟩ : ByteArray) ≤ t.size + 1 := by
    have := Lib.count_le t.data.toList [34]
    have e : t.data.toList.length = t.size := by simp
    unfold Lib.countB
    first | omega | (simpa using this)
  have hd := dbl_length t.data.toList
  have e : t.data.toList.length = t.size := by simp
  have e1 : (⟨#[34]⟩ : ByteArray).size = 1 := rfl
  have e2 : (⟨#[34, 34]⟩ : ByteArray).size = 2 := rfl
  have hr : strings_ReplaceAll.f t (⟨#[34]⟩ : ByteArray) (⟨#[34, 34]⟩ : ByteArray) = some ⟨(dblB t.data.toList).toArray⟩ := by
    unfold strings_ReplaceAll.f
    rw [if_pos (by omega), if_pos (by omega), if_pos (by rw [e2]; omega)]
    rw [← replaceAll_dbl]
  simp only [impl_QuoteText.f]
  rw [hr, Option.bind_some, if_pos (by rw [size_bytes]; omega), if_pos (by rw [size_bytes]; omega)]
  rw [show (⟨#[34]⟩ : ByteArray) = ⟨([34] : List UInt8).toArray⟩ from rfl, cat_bytes, cat_bytes]
  rfl
theorem one_byte (t : ByteArray) (i : Nat) (h : i < t.data.toList.length) : t.extract i (i + 1) = ⟨([t.data.toList[i]] : List UInt8).toArray⟩ := by
  apply ByteArray.ext
  apply Array.toList_inj.1
  simp only [ByteArray.data_extract, Array.toList_extract, List.extract]
  rw [show i + 1 - i = 1 by omega]
  have := List.drop_eq_getElem_cons h
  rw [this]
  rfl
theorem spec_Quote_loop (t : ByteArray) (ht : t.size ≤ 1048576) : ∀ d i : Nat, i + d = t.size → Ev (fun k => spec_QuoteText.l0 k t ⟨(34 :: dblB (t.data.toList.take i)).toArray⟩ (i : Int)) (quoteQ t) := by
  have e : t.data.toList.length = t.size := by simp
  have e1 : (⟨#[34]⟩ : ByteArray).size = 1 := rfl
  intro d
  induction d with
  | zero =>
    intro i hi
    have hd := dbl_length (t.data.toList.take i)
    have hl := List.length_take_le i t.data.toList
    refine ev_shift ?_; simp only [spec_QuoteText.l0]
    refine ev_neg (by omega) (ev_pos (by rw [size_bytes, List.length_cons]; omega) ?_)
    rw [show (⟨#[34]⟩ : ByteArray) = ⟨([34] : List UInt8).toArray⟩ from rfl, cat_bytes, List.take_of_length_le (by omega)]
    exact ev_some _
  | succ d ih =>
    intro i hi
    have hi2 : i < t.data.toList.length := by omega
    have hd := dbl_length (t.data.toList.take i)
    have hl := List.length_take_le i t.data.toList
    have hw := wrap_up (show (0 : Int) ≤ (i : Int) by omega) (show (i : Int) < (t.size : Int) by omega) (by omega)
    have hx := one_byte t i hi2
    have hk := ih (i + 1) (by omega)
    rw [List.take_succ_eq_append_getElem hi2, dbl_append] at hk
    have hb : bt t (i : Int) = (t.data.toList[i].toNat : Int) := by
      rw [bt_get t i (by omega)]; simp [bytesOf]
    refine ev_shift ?_; simp only [spec_QuoteText.l0]
    rw [hw, Int.toNat_natCast, show ((i : Int) + 1).toNat = i + 1 by omega, hx]
    refine ev_pos (by omega) (ev_pos (by omega) ?_)
    by_cases c : t.data.toList[i] = 34
    · rw [show dblB [t.data.toList[i]] = [34, 34] by rw [c]; rfl] at hk
      rw [c]
      refine ev_pos (by rw [hb, c]; rfl) (ev_pos (by rw [size_bytes, List.length_cons]; omega) (ev_pos (by omega) (ev_pos (by omega) (ev_pos (by rw [size_bytes, size_bytes, List.length_cons]; simp; omega) ?_))))
      rw [show (⟨#[34]⟩ : ByteArray) = ⟨([34] : List UInt8).toArray⟩ from rfl, cat_bytes, cat_bytes]
      simpa using hk
    · rw [show dblB [t.data.toList[i]] = [t.data.toList[i]] by show (if t.data.toList[i] = 34 then [34, 34] else [t.data.toList[i]]) ++ [] = [t.data.toList[i]]; rw [if_neg c]; rfl] at hk
      refine ev_neg (by rw [hb]; intro h; exact c (UInt8.toNat_inj.1 (by show t.data.toList[i].toNat = 34; omega))) (ev_pos (by omega) (ev_pos (by omega) (ev_pos (by rw [size_bytes, size_bytes, List.length_cons]; simp; omega) ?_)))
      rw [cat_bytes]
      simpa using hk
theorem spec_Quote_ev (t : ByteArray) (ht : t.size ≤ 1048576) : Ev (fun k => spec_QuoteText.f k t) (quoteQ t) := by
  simp only [spec_QuoteText.f]
  simpa [dblB] using spec_Quote_loop t ht t.size 0 (by omega)
theorem valid_kind {k n : Int} {t : ByteArray} {r : Int} (h : validV k n t r = true) : 1 ≤ k ∧ k ≤ 8 := by
  refine Classical.byContradiction fun c => ?_
  have h1 : k ≠ 1 := by omega
  have h2 : k ≠ 2 := by omega
  have h3 : k ≠ 3 := by omega
  have h4 : k ≠ 4 := by omega
  have h5 : k ≠ 5 := by omega
  have h6 : k ≠ 6 := by omega
  have h7 : k ≠ 7 := by omega
  have h8 : k ≠ 8 := by omega
  simp [validV, h1, h2, h3, h4, h5, h6, h7, h8] at h
theorem core2 (k n : Int) (t : ByteArray) (r : Int) (hn : Fine n) (ht : Fine t) (hr : Fine r) : ∃ x, Ev (fun j => spec_ValueText.f j k n t r) x ∧ Ev (fun j => impl_ValueText.f j k n t r) x := by
  have hs := spec_ValidValue_ev k n t r
  have hi := impl_ValidValue_ev k n t r
  have ht' : t.size ≤ 1048576 := ht
  have hn' : -9223372036854775808 ≤ n ∧ n ≤ 9223372036854775807 := hn
  have hr' : -9223372036854775808 ≤ r ∧ r ≤ 9223372036854775807 := hr
  simp only [spec_ValueText.f, impl_ValueText.f]
  cases hv : validV k n t r with
  | false =>
    rw [hv] at hs hi
    exact ⟨_, ev_bind hs (ev_neg Bool.false_ne_true (ev_some _)), ev_bind hi (ev_neg Bool.false_ne_true (ev_some _))⟩
  | true =>
    have hk := valid_kind hv
    rw [hv] at hs hi
    by_cases k1 : k = 1
    · exact ⟨quoteQ t, ev_bind hs (ev_pos rfl (ev_pos k1 (ev_bind (spec_Quote_ev t ht') (ev_some _)))), ev_bind hi (ev_pos rfl (ev_bind (ev_of_eq (by simp only [impl_Value_text.f]; rw [if_pos k1, impl_Quote_eq t ht', Option.bind_some])) (ev_some _)))⟩
    by_cases k2 : k = 2
    · exact ⟨itoaB n, ev_bind hs (ev_pos rfl (ev_neg k1 (ev_pos k2 (ev_bind (spec_digits_ev n hn'.1 hn'.2) (ev_some _))))), ev_bind hi (ev_pos rfl (ev_bind (ev_of_eq (by simp only [impl_Value_text.f]; rw [if_neg k1, if_pos k2, impl_decimal_eq n hn'.1 hn'.2, Option.bind_some])) (ev_some _)))⟩
    by_cases k3 : k = 3
    · exact ⟨_, ev_bind hs (ev_pos rfl (ev_neg k1 (ev_neg k2 (ev_pos k3 (ev_pos (by omega) (ev_pos (by omega) (ev_some _))))))), ev_bind hi (ev_pos rfl (ev_bind (ev_of_eq (by simp only [impl_Value_text.f]; rw [if_neg k1, if_neg k2, if_pos k3, if_pos (by omega), if_pos (by omega)])) (ev_some _)))⟩
    by_cases k7 : k = 7
    · exact ⟨_, ev_bind hs (ev_pos rfl (ev_neg k1 (ev_neg k2 (ev_neg k3 (ev_pos k7 (ev_pos (by omega) (ev_some _))))))), ev_bind hi (ev_pos rfl (ev_bind (ev_of_eq (by simp only [impl_Value_text.f]; rw [if_neg k1, if_neg k2, if_neg k3, if_pos k7, if_pos (by omega)])) (ev_some _)))⟩
    by_cases k8 : k = 8
    · exact ⟨_, ev_bind hs (ev_pos rfl (ev_neg k1 (ev_neg k2 (ev_neg k3 (ev_neg k7 (ev_pos k8 (ev_pos (by omega) (ev_some _)))))))), ev_bind hi (ev_pos rfl (ev_bind (ev_of_eq (by simp only [impl_Value_text.f]; rw [if_neg k1, if_neg k2, if_neg k3, if_neg k7, if_pos k8, if_pos (by omega)])) (ev_some _)))⟩
    have hd := itoa_size r hr'.1 hr'.2
    have hT : Ev (fun j => spec_DataType.f j k n t r) (rdOf ByteArray.empty impl_typeName.names k) := by
      simp only [spec_DataType.f]
      have hw : wrap64 (k - 1) = k - 1 := by unfold wrap64; omega
      rw [hw]
      refine ev_bind hs (ev_pos rfl (ev_bind (ev_some _) ?_))
      have : k = 4 ∨ k = 5 ∨ k = 6 := by omega
      rcases this with rfl | rfl | rfl <;> exact ev_pos (by decide) (ev_pos (by decide) (ev_some _))
    have hz : (rdOf ByteArray.empty impl_typeName.names k).size ≤ 100 := by
      have : k = 4 ∨ k = 5 ∨ k = 6 := by omega
      rcases this with rfl | rfl | rfl <;> decide
    exact ⟨_, ev_bind hs (ev_pos rfl (ev_neg k1 (ev_neg k2 (ev_neg k3 (ev_neg k7 (ev_neg k8 (ev_bind hT (ev_pos (by omega) (ev_bind (spec_digits_ev r hr'.1 hr'.2) (ev_pos (by omega) (ev_some _))))))))))), ev_bind hi (ev_pos rfl (ev_bind (ev_of_eq (by simp only [impl_Value_text.f, impl_typeName.f]; rw [if_neg k1, if_neg k2, if_neg k3, if_neg k7, if_neg k8, if_pos (by omega), if_pos (by omega), Option.bind_some, if_pos (by omega), impl_decimal_eq r hr'.1 hr'.2, Option.bind_some, if_pos (by omega)])) (ev_some _)))⟩
theorem FnExactValueText : laws_FnExactValueText.Pure := by
  intro x0 w_x0
  suffices hh : Ev (fun k => laws_FnExactValueText.f k x0.f0 x0.f1 x0.f2 x0.f3) true by
    obtain ⟨K, hK⟩ := hh
    exact ⟨K, hK K (Nat.le_refl _)⟩
  simp only [laws_FnExactValueText.f]
  obtain ⟨v1, e1, b1, q1⟩ := laws_szValue_sz x0.f0 x0.f1 x0.f2 x0.f3 1048576 ((show (WInt .i64) x0.f0 ∧ (WInt .i64) x0.f1 ∧ WStr x0.f2 ∧ (WInt .i64) x0.f3 from w_x0).1) ((show (WInt .i64) x0.f0 ∧ (WInt .i64) x0.f1 ∧ WStr x0.f2 ∧ (WInt .i64) x0.f3 from w_x0).2.1) ((show (WInt .i64) x0.f0 ∧ (WInt .i64) x0.f1 ∧ WStr x0.f2 ∧ (WInt .i64) x0.f3 from w_x0).2.2.1) ((show (WInt .i64) x0.f0 ∧ (WInt .i64) x0.f1 ∧ WStr x0.f2 ∧ (WInt .i64) x0.f3 from w_x0).2.2.2) (by omega) (by omega)
  refine ev_bind e1 (ev_skip fun c1 => ?_)
  obtain ⟨g1_0, g1_1, g1_2, g1_3⟩ := q1 (by omega)
  obtain ⟨v2, e2, g2⟩ := laws_toValue_to x0.f0 x0.f1 x0.f2 x0.f3 g1_0 g1_1 g1_2 g1_3
  refine ev_bind e2 ?_
  obtain ⟨r, es, ei⟩ := core2 v2.1 v2.2.1 v2.2.2.1 v2.2.2.2 (g2.snd.fst) (g2.snd.snd.fst) (g2.snd.snd.snd)
  refine ev_bind es ?_
  refine ev_bind e2 ?_
  refine ev_bind ei ?_
  repeat (first | exact ev_some _ | refine ev_pos trivial ?_ | refine ev_pos rfl ?_ | refine ev_neg (bne_ff _) ?_ | refine ev_neg Bool.false_ne_true ?_ | refine ev_neg id ?_ | refine ev_bind e2 ?_)
end Go.Proofs.YtpbjagjknaglgaaDoor.Pure
