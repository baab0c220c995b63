/- The program's ReadInstr returns what the reference's returns, for every text: either reads back each instruction that is spelled so, and takes nothing else; no condition. -/
import Derived.Lib.ParseIntBTie
import Derived.Lib.AtoiTie
import Derived.Lib.AtoiAllCases
import Derived.Lib.IndexMore
import Derived.Lib.IndexBytes
import Derived.Test.YtdihlgkcpooadaaDoorYReadInstrO
import Derived.Test.YtdihlgkcpooadaaDoorYReadInstrVValues
import Derived.Test.YtdihlgkcpooadaaDoorYReadInstrVQuotes
import Derived.Test.YtdihlgkcpooadaaDoorYReadInstrVInstrs
import Derived.Test.YtdihlgkcpooadaaDoorYReadInstrVDigits
namespace Go.Proofs.YtdihlgkcpooadaaDoor.Pure
open Go.Proofs.YtdihlgkcpooadaaDoor.PureFnExactReadInstr Go.RowKit Go.Proofs.YtdihlgkcpooadaaDoorG Go.Proofs.YtdihlgkcpooadaaDoor.PFnExactReadInstr Go.Proofs.YtdihlgkcpooadaaDoorW.PrintWords Go.Proofs.YtdihlgkcpooadaaDoorW.PrintLast Go.Proofs.YtdihlgkcpooadaaDoorW.PrintMore

set_option linter.unusedSimpArgs false
set_option linter.unusedVariables false
def decV (l : List UInt8) (acc : Nat) : Nat := l.foldl (fun a c => 10 * a + (c.toNat - 48)) acc
def dgB (c : UInt8) : Prop := 48 ≤ c.toNat ∧ c.toNat ≤ 57
theorem dec_rec (m : Nat) : Lib.decDigits m = if m < 10 then [UInt8.ofNat (48 + m)] else Lib.decDigits (m / 10) ++ [UInt8.ofNat (48 + m % 10)] := by
  rw [Lib.decDigits]; split <;> rfl
theorem dig_num (d : Nat) (h : d < 10) : (UInt8.ofNat (48 + d)).toNat = 48 + d := by
  simp; omega
theorem dec_props : ∀ m : Nat, (∀ c, c ∈ Lib.decDigits m → dgB c) ∧ 1 ≤ (Lib.decDigits m).length ∧ decV (Lib.decDigits m) 0 = m ∧ (∀ d, m < 10 ^ (d + 1) → (Lib.decDigits m).length ≤ d + 1) := by
  intro m
  induction m using Nat.strongRecOn with
  | _ m ih =>
    rw [dec_rec]
    by_cases h : m < 10
    · rw [if_pos h]
      refine ⟨fun c hc => ?_, by simp, by simp [decV]; omega, fun d _ => by simp⟩
      obtain rfl := List.mem_singleton.1 hc
      unfold dgB; rw [dig_num m h]; omega
    · rw [if_neg h]
      obtain ⟨h1, h2, h3, h4⟩ := ih (m / 10) (by omega)
      refine ⟨fun c hc => ?_, by simp, ?_, fun d hd => ?_⟩
      · rcases List.mem_append.1 hc with hc | hc
        · exact h1 c hc
        · obtain rfl := List.mem_singleton.1 hc
          unfold dgB; rw [dig_num _ (by omega)]; omega
      · unfold decV at h3 ⊢
        rw [List.foldl_append, h3]
        show 10 * (m / 10) + ((UInt8.ofNat (48 + m % 10)).toNat - 48) = m
        rw [dig_num _ (by omega)]; omega
      · rw [List.length_append]
        cases d with
        | zero => exact absurd hd (by omega)
        | succ d =>
          have := h4 d (by rw [Nat.pow_succ] at hd; omega)
          simpa using this
theorem decV_ge : ∀ (l : List UInt8) (acc : Nat), acc ≤ decV l acc := by
  intro l
  induction l with
  | nil => intro acc; exact Nat.le_refl _
  | cons c l ih =>
    intro acc
    have := ih (10 * acc + (c.toNat - 48))
    unfold decV at this ⊢
    rw [List.foldl_cons]; omega
theorem parse_dec (M : Nat) : ∀ (l : List UInt8) (acc : Nat), (∀ c, c ∈ l → dgB c) → decV l acc ≤ M → decV l acc < 1844674407370955162 → Lib.parseUintM M acc l = .ok (decV l acc) := by
  intro l
  induction l with
  | nil => intro acc _ _ _; rfl
  | cons c l ih =>
    intro acc hd hv hM
    have hc := hd c (List.mem_cons_self ..)
    have h1 : decV (c :: l) acc = decV l (acc * 10 + (c.toNat - 48)) := by unfold decV; rw [List.foldl_cons, Nat.mul_comm]
    rw [h1] at hv hM ⊢
    have h2 := decV_ge l (acc * 10 + (c.toNat - 48))
    unfold dgB at hc
    rw [Lib.parseUintM, if_pos hc, if_neg (by omega), if_neg (by omega)]
    exact ih _ (fun x hx => hd x (List.mem_cons_of_mem _ hx)) hv hM
theorem itoa_nat (m : Nat) : Lib.itoa (m : Int) = Lib.decDigits m := by rw [Lib.itoa, if_neg (by omega), Int.toNat_natCast]
theorem ext_list (s : ByteArray) (x y : Nat) : (s.extract x y).data.toList = (s.data.toList.drop x).take (y - x) := by
  rw [ByteArray.data_extract, Array.toList_extract]
theorem bt_nat (s : ByteArray) (i : Nat) (h : i < s.data.toList.length) : bt s (i : Int) = (s.data.toList[i].toNat : Int) := by
  have e : s.data.toList.length = s.size := by simp
  rw [bt_get s i (by omega)]; simp [bytesOf]
/-! The reference's loops. -/
def dB (s : ByteArray) (m : Nat) : Prop := 48 ≤ bt s (m : Int) ∧ bt s (m : Int) ≤ 57
instance (s : ByteArray) (m : Nat) : Decidable (dB s m) := by unfold dB; infer_instance
def stopN (s : ByteArray) : Nat → Nat
  | 0 => 0
  | m + 1 => if dB s m ∧ s.size - (m + 1) < 11 then stopN s m else m + 1

def BL (l : List UInt8) : ByteArray := ⟨l.toArray⟩
theorem BL_data (s : ByteArray) : BL s.data.toList = s := by apply ByteArray.ext; simp [BL]
theorem data_BL (l : List UInt8) : (BL l).data.toList = l := by simp [BL]
theorem BL_toList (l : List UInt8) : (BL l).toList = l := by rw [Go.ByteArray.toList_eq, data_BL]
theorem BL_size (l : List UInt8) : (BL l).size = l.length := size_bytes l
def cutA (l : List UInt8) : List UInt8 := l.takeWhile (fun c => c != 32)
def cutZ (l : List UInt8) : List UInt8 := (l.dropWhile (fun c => c != 32)).drop 1
theorem cutA_cons (b : UInt8) (l : List UInt8) : cutA (b :: l) = if b = 32 then [] else b :: cutA l := by
  unfold cutA; rw [List.takeWhile_cons]
  by_cases h : b = 32
  · rw [if_pos h, if_neg (by simp [h])]
  · rw [if_neg h, if_pos (by simp [h])]
theorem cutZ_cons (b : UInt8) (l : List UInt8) : cutZ (b :: l) = if b = 32 then l else cutZ l := by
  unfold cutZ; rw [List.dropWhile_cons]
  by_cases h : b = 32
  · rw [if_pos h, if_neg (by simp [h])]; rfl
  · rw [if_neg h, if_pos (by simp [h])]
theorem cut_len (l : List UInt8) : (cutA l).length ≤ l.length ∧ (cutZ l).length ≤ l.length := by
  induction l with
  | nil => exact ⟨Nat.le_refl _, Nat.le_refl _⟩
  | cons b l ih =>
    rw [cutA_cons, cutZ_cons]
    by_cases h : b = 32
    · rw [if_pos h, if_pos h]; simp
    · rw [if_neg h, if_neg h]; simp; omega
theorem cut_app (a r : List UInt8) (h : ∀ c, c ∈ a → c ≠ 32) : cutA (a ++ 32 :: r) = a ∧ cutZ (a ++ 32 :: r) = r := by
  induction a with
  | nil => rw [List.nil_append, cutA_cons, cutZ_cons, if_pos rfl, if_pos rfl]; exact ⟨rfl, rfl⟩
  | cons b a ih =>
    have hb := h b (List.mem_cons_self ..)
    obtain ⟨h1, h2⟩ := ih (fun c hc => h c (List.mem_cons_of_mem _ hc))
    rw [List.cons_append, cutA_cons, cutZ_cons, if_neg hb, if_neg hb, h1, h2]; exact ⟨rfl, rfl⟩
theorem cut_all (a : List UInt8) (h : ∀ c, c ∈ a → c ≠ 32) : cutA a = a ∧ cutZ a = [] := by
  induction a with
  | nil => exact ⟨rfl, rfl⟩
  | cons b a ih =>
    have hb := h b (List.mem_cons_self ..)
    obtain ⟨h1, h2⟩ := ih (fun c hc => h c (List.mem_cons_of_mem _ hc))
    rw [cutA_cons, cutZ_cons, if_neg hb, if_neg hb, h1, h2]; exact ⟨rfl, rfl⟩
theorem ib_cases : ∀ l : List UInt8, (Lib.indexByte l 32 = -1 ∧ cutA l = l ∧ cutZ l = []) ∨ (Lib.indexByte l 32 = ((cutA l).length : Int) ∧ l = cutA l ++ 32 :: cutZ l) := by
  intro l
  induction l with
  | nil => exact Or.inl ⟨rfl, rfl, rfl⟩
  | cons b l ih =>
    rw [cutA_cons, cutZ_cons, Lib.indexByte]
    by_cases h : b = 32
    · rw [if_pos h, if_pos h, if_pos (by simp [h])]; exact Or.inr ⟨rfl, by rw [h]; rfl⟩
    · rw [if_neg h, if_neg h, if_neg (by simp [h])]
      rcases ih with ⟨h1, h2, h3⟩ | ⟨h1, h2⟩
      · refine Or.inl ⟨?_, by rw [h2], h3⟩
        rw [h1]; rfl
      · refine Or.inr ⟨?_, by rw [List.cons_append, ← h2]⟩
        rw [h1, if_neg (by rw [beq_iff_eq]; omega), List.length_cons]; omega
theorem libcut_eq (l : List UInt8) : (Lib.cut l [32]).1 = cutA l ∧ (Lib.cut l [32]).2.1 = cutZ l := by
  unfold Lib.cut
  rw [Lib.index_one]
  rcases ib_cases l with ⟨h1, h2, h3⟩ | ⟨h1, h2⟩
  · rw [h1, if_neg (by decide), h2, h3]; exact ⟨rfl, rfl⟩
  · rw [h1, if_pos (by omega)]
    clear h1
    generalize cutA l = a at h2 ⊢
    generalize cutZ l = z at h2 ⊢
    subst h2
    simp only [Int.toNat_natCast]
    refine ⟨by simp, ?_⟩
    rw [show a.length + [(32 : UInt8)].length = a.length + 1 from rfl, ← List.drop_drop, List.drop_left]; rfl
theorem cutf_eq (s : ByteArray) (hs : s.size ≤ 1048576) : ∃ b, strings_Cut.f s (⟨#[32]⟩ : ByteArray) = some (BL (cutA s.data.toList), BL (cutZ s.data.toList), b) := by
  simp only [strings_Cut.f]
  rw [if_pos (by rw [Go.ByteArray.toList_eq]), if_pos (by omega)]
  obtain ⟨h1, h2⟩ := libcut_eq s.data.toList
  exact ⟨_, by rw [h1, h2]; rfl⟩
theorem split_ev (s : ByteArray) (hs : s.size ≤ 1048576) : Ev (fun k => spec_l24Split.f k s) (BL (cutA s.data.toList), BL (cutZ s.data.toList)) := by
  simp only [spec_l24Split.f]
  have hL : s.data.toList.length = s.size := by simp
  suffices h : ∀ d i : Nat, i + d = s.size → Ev (fun k => spec_l24Split.l0 k s (i : Int)) (BL (s.data.toList.take i ++ cutA (s.data.toList.drop i)), BL (cutZ (s.data.toList.drop i))) by
    simpa using h s.size 0 (by omega)
  intro d
  induction d with
  | zero =>
    intro i hi
    refine ev_shift ?_; simp only [spec_l24Split.l0]
    rw [List.drop_of_length_le (by omega), List.take_of_length_le (by omega)]
    refine ev_neg (by omega) ?_
    rw [show s.data.toList ++ cutA [] = s.data.toList from by simp [cutA], BL_data]; exact ev_some _
  | succ d ih =>
    intro i hi
    have hlt : i < s.data.toList.length := by omega
    refine ev_shift ?_; simp only [spec_l24Split.l0]
    rw [bt_nat s i hlt, wrap_up (by omega) (show (i : Int) < (s.size : Int) by omega) (by omega)]
    refine ev_pos (by omega) (ev_pos (by omega) ?_)
    rw [List.drop_eq_getElem_cons hlt, cutA_cons, cutZ_cons]
    by_cases h : s.data.toList[i] = 32
    · rw [if_pos h, if_pos h, List.append_nil]
      refine ev_pos (by rw [h]; rfl) (ev_pos (by omega) (ev_pos (by omega) (ev_pos (by omega) ?_)))
      rw [Int.toNat_natCast, show ((i : Int) + 1).toNat = i + 1 from by omega]
      have e1 : s.extract 0 i = BL (s.data.toList.take i) := by rw [← BL_data (s.extract 0 i), ext_list]; simp
      have e2 : s.extract (i + 1) s.size = BL (s.data.toList.drop (i + 1)) := by rw [← BL_data (s.extract (i + 1) s.size), ext_list, List.take_of_length_le (by rw [List.length_drop]; omega)]
      rw [e1, e2]; exact ev_some _
    · rw [if_neg h, if_neg h]
      refine ev_neg (fun hh => h ?_) ?_
      · apply UInt8.toNat_inj.1; exact Int.ofNat.inj hh
      · have := ih (i + 1) (by omega)
        rw [List.take_succ_eq_append_getElem hlt, List.append_assoc] at this
        rw [show (((i + 1 : Nat) : Int)) = (i : Int) + 1 from by omega] at this
        exact this
theorem decV_lt : ∀ (l : List UInt8) (acc i : Nat), acc < 10 ^ i → (∀ c, c ∈ l → dgB c) → decV l acc < 10 ^ (i + l.length) := by
  intro l
  induction l with
  | nil => intro acc i h _; exact h
  | cons c l ih =>
    intro acc i h hd
    have hc := hd c (List.mem_cons_self ..)
    unfold dgB at hc
    have h1 : decV (c :: l) acc = decV l (10 * acc + (c.toNat - 48)) := by unfold decV; rw [List.foldl_cons]
    rw [h1, List.length_cons, show i + (l.length + 1) = (i + 1) + l.length from by omega]
    exact ih _ (i + 1) (by rw [Nat.pow_succ]; omega) (fun x hx => hd x (List.mem_cons_of_mem _ hx))
theorem wstep (acc c : Nat) (ha : acc < 1000000000000000) (h1 : ¬ c < 48) (h2 : ¬ c > 57) : wrap64 (wrap64 ((acc : Int) * 10) + ((c : Int) - 48) % 256) = ((10 * acc + (c - 48) : Nat) : Int) := by unfold wrap64; omega
theorem wneg (acc : Nat) (ha : acc < 1000000000000000) : -9223372036854775808 ≤ wrap64 (-(acc : Int)) ∧ wrap64 (-(acc : Int)) ≤ 9223372036854775807 := by unfold wrap64; omega
theorem nstep (acc c i : Nat) (ha : acc < 10 ^ i) (h1 : ¬ c < 48) (h2 : ¬ c > 57) : 10 * acc + (c - 48) < 10 ^ (i + 1) := by rw [Nat.pow_succ]; omega
theorem acc_lt (acc i : Nat) (hi : i ≤ 14) (ha : acc < 10 ^ i) : acc < 1000000000000000 :=
  Nat.lt_of_lt_of_le ha (Nat.le_trans (Nat.pow_le_pow_right (by decide) hi) (by decide))
theorem num_loop (s : ByteArray) (hs : s.size ≤ 14) (fr : Int) : ∀ d i : Nat, i + d = s.size → ∀ acc : Nat, acc < 10 ^ i →
    ∃ n ok, Ev (fun k => spec_l06Number.l0 k s (acc : Int) fr (i : Int)) (n, ok) ∧ -9223372036854775808 ≤ n ∧ n ≤ 9223372036854775807 ∧
      (fr = 0 → (∀ c, c ∈ s.data.toList.drop i → dgB c) → n = (decV (s.data.toList.drop i) acc : Nat) ∧ ok = ((itoaB n).toList == s.toList)) := by
  have hL : s.data.toList.length = s.size := by simp
  intro d
  induction d with
  | zero =>
    intro i hi acc ha
    have hacc := acc_lt acc i (by omega) ha
    clear ha
    have hz : s.data.toList.drop i = [] := List.drop_of_length_le (by omega)
    by_cases h : fr = 1
    · refine ⟨wrap64 (-(acc : Int)), ((itoaB (wrap64 (-(acc : Int)))).toList == s.toList), ev_shift ?_, ?_, ?_, fun h0 => by omega⟩
      · simp only [spec_l06Number.l0]
        exact ev_neg (by omega) (ev_pos h (ev_bind (spec_digits_ev _ (wneg acc hacc).1 (wneg acc hacc).2) (ev_some _)))
      · exact (wneg acc hacc).1
      · exact (wneg acc hacc).2
    · refine ⟨(acc : Int), ((itoaB (acc : Int)).toList == s.toList), ev_shift ?_, by omega, by omega, fun _ _ => ⟨by rw [hz]; rfl, rfl⟩⟩
      simp only [spec_l06Number.l0]
      exact ev_neg (by omega) (ev_neg h (ev_bind (spec_digits_ev _ (by omega) (by omega)) (ev_some _)))
  | succ d ih =>
    intro i hi acc ha
    have hlt : i < s.data.toList.length := by omega
    have hacc := acc_lt acc i (by omega) ha
    have hbt := bt_nat s i hlt
    rw [List.drop_eq_getElem_cons hlt]
    by_cases h1 : s.data.toList[i].toNat < 48
    · refine ⟨0, false, ev_shift ?_, by omega, by omega, fun _ hd => ?_⟩
      · simp only [spec_l06Number.l0]; rw [hbt]
        exact ev_pos (by omega) (ev_pos (by omega) (ev_pos (by omega) (ev_some _)))
      · have := hd _ (List.mem_cons_self ..); unfold dgB at this; omega
    · by_cases h2 : s.data.toList[i].toNat > 57
      · refine ⟨0, false, ev_shift ?_, by omega, by omega, fun _ hd => ?_⟩
        · simp only [spec_l06Number.l0]; rw [hbt]
          exact ev_pos (by omega) (ev_pos (by omega) (ev_neg (by omega) (ev_pos (by omega) (ev_some _))))
        · have := hd _ (List.mem_cons_self ..); unfold dgB at this; omega
      · obtain ⟨n, ok, e, b1, b2, hh⟩ := ih (i + 1) (by omega) (10 * acc + (s.data.toList[i].toNat - 48)) (nstep acc _ i ha h1 h2)
        refine ⟨n, ok, ev_shift ?_, b1, b2, fun h0 hd => ?_⟩
        · simp only [spec_l06Number.l0]; rw [hbt]
          refine ev_pos (by omega) (ev_pos (by omega) (ev_neg (by omega) (ev_neg (by omega) ?_)))
          rw [wrap_up (by omega) (show (i : Int) < (s.size : Int) by omega) (by omega)]
          rw [show wrap64 (wrap64 ((acc : Int) * 10) + ((s.data.toList[i].toNat : Int) - 48) % 256) = ((10 * acc + (s.data.toList[i].toNat - 48) : Nat) : Int) from wstep acc _ hacc h1 h2]
          rw [show (((i + 1 : Nat) : Int)) = (i : Int) + 1 from by omega] at e
          exact e
        · have := hh h0 (fun c hc => hd c (List.mem_cons_of_mem _ hc))
          rw [show decV (s.data.toList[i] :: s.data.toList.drop (i + 1)) acc = decV (s.data.toList.drop (i + 1)) (10 * acc + (s.data.toList[i].toNat - 48)) from by unfold decV; rw [List.foldl_cons]]
          exact this
theorem number_ev (s : ByteArray) (hs : s.size ≤ 1048576) : ∃ n ok, Ev (fun k => spec_l06Number.f k s) (n, ok) ∧ -9223372036854775808 ≤ n ∧ n ≤ 9223372036854775807 ∧
    (∀ m : Nat, m ≤ 1000000000000 → s = itoaB (m : Int) → n = (m : Int) ∧ ok = true) := by
  have hL : s.data.toList.length = s.size := by simp
  have canon : ∀ m : Nat, m ≤ 1000000000000 → s = itoaB (m : Int) → s.data.toList = Lib.decDigits m ∧ 1 ≤ s.size ∧ s.size ≤ 13 := by
    intro m hm hsm
    have e : s.data.toList = Lib.decDigits m := by rw [hsm, itoaB, itoa_nat]
    obtain ⟨d1, d2, d3, d4⟩ := dec_props m
    have := d4 12 (by omega)
    rw [← e, hL] at this d2
    exact ⟨e, d2, this⟩
  have j2 : ∀ (fr : Int) (b : Bool), s.size ≤ 14 → (fr = 0 ∨ fr = 1) → fr ≤ s.size → (b = true → (s.size : Int) = fr) → ∃ n ok, Ev (fun k => spec_l06Number.j2 k s 0 fr b) (n, ok) ∧ -9223372036854775808 ≤ n ∧ n ≤ 9223372036854775807 ∧
      (∀ m : Nat, m ≤ 1000000000000 → s = itoaB (m : Int) → fr = 0 → n = (m : Int) ∧ ok = true) := by
    intro fr b h14 hfr hle hb
    cases b with
    | true =>
      refine ⟨0, false, ev_shift ?_, by omega, by omega, fun m hm hsm h0 => ?_⟩
      · simp only [spec_l06Number.j2]; exact ev_pos trivial (ev_some _)
      · have := canon m hm hsm; have := hb rfl; omega
    | false =>
      obtain ⟨i, rfl⟩ : ∃ i : Nat, fr = (i : Int) := ⟨fr.toNat, by omega⟩
      obtain ⟨n, ok, e, b1, b2, hh⟩ := num_loop s h14 (i : Int) (s.size - i) i (by omega) 0 (Nat.pow_pos (by omega))
      refine ⟨n, ok, ev_shift ?_, b1, b2, fun m hm hsm h0 => ?_⟩
      · simp only [spec_l06Number.j2]; exact ev_neg (by decide) e
      · obtain ⟨c1, c2, c3⟩ := canon m hm hsm
        have hi0 : i = 0 := by omega
        subst hi0
        rw [List.drop_zero, c1] at hh
        obtain ⟨d1, d2, d3, d4⟩ := dec_props m
        have hn := hh rfl d1
        rw [d3] at hn
        refine ⟨hn.1, ?_⟩
        rw [hn.2, hn.1, hsm]; simp
  have j1 : ∀ fr : Int, (fr = 0 ∨ fr = 1) → fr ≤ s.size → ∃ n ok, Ev (fun k => spec_l06Number.j1 k s 0 fr) (n, ok) ∧ -9223372036854775808 ≤ n ∧ n ≤ 9223372036854775807 ∧
      (∀ m : Nat, m ≤ 1000000000000 → s = itoaB (m : Int) → fr = 0 → n = (m : Int) ∧ ok = true) := by
    intro fr hfr hle
    by_cases h14 : s.size ≤ 14
    · obtain ⟨n, ok, e, r⟩ := j2 fr ((s.size : Int) == fr) h14 hfr hle (fun h => beq_iff_eq.1 h)
      refine ⟨n, ok, ev_shift ?_, r⟩
      simp only [spec_l06Number.j1]; exact ev_neg (by omega) e
    · refine ⟨0, false, ev_shift ?_, by omega, by omega, fun m hm hsm _ => ?_⟩
      · simp only [spec_l06Number.j1]
        refine ev_pos (by omega) (ev_shift ?_)
        simp only [spec_l06Number.j2]; exact ev_pos trivial (ev_some _)
      · have := canon m hm hsm; omega
  simp only [spec_l06Number.f]
  by_cases h0 : s.size = 0
  · obtain ⟨n, ok, e, b1, b2, hh⟩ := j1 0 (Or.inl rfl) (by omega)
    refine ⟨n, ok, ev_pos ((toList_nil s).2 h0) (ev_shift ?_), b1, b2, fun m hm hsm => hh m hm hsm rfl⟩
    simp only [spec_l06Number.j0]; exact ev_neg (by decide) e
  · have hb0 := bt_nat s 0 (by omega)
    by_cases hm : bt s 0 = 45
    · obtain ⟨n, ok, e, b1, b2, hh⟩ := j1 1 (Or.inr rfl) (by omega)
      refine ⟨n, ok, ev_neg (fun h => h0 ((toList_nil s).1 h)) (ev_pos (by omega) (ev_shift ?_)), b1, b2, fun m hm2 hsm => ?_⟩
      · simp only [spec_l06Number.j0]; exact ev_pos (by simp [hm]) e
      · obtain ⟨c1, c2, c3⟩ := canon m hm2 hsm
        have := (dec_props m).1 (s.data.toList[0]'(by omega)) (by rw [← c1]; exact List.getElem_mem _)
        unfold dgB at this
        have e0 : bt s 0 = ((s.data.toList[0]'(by omega)).toNat : Int) := hb0
        omega
    · obtain ⟨n, ok, e, b1, b2, hh⟩ := j1 0 (Or.inl rfl) (by omega)
      refine ⟨n, ok, ev_neg (fun h => h0 ((toList_nil s).1 h)) (ev_pos (by omega) (ev_shift ?_)), b1, b2, fun m hm2 hsm => hh m hm2 hsm rfl⟩
      simp only [spec_l06Number.j0]; exact ev_neg (by simpa using hm) e
theorem isNumber_eq (v : Int) : impl_isNumber.f v = some (decide (0 ≤ v) && decide (v ≤ 1000000000000)) := by
  simp only [impl_isNumber.f, impl_within_eq, Option.bind_some]
theorem readInteger_eq (s : ByteArray) : ∃ n b, impl_readInteger.f s = some (n, b) ∧ -9223372036854775808 ≤ n ∧ n ≤ 9223372036854775807 ∧ (∀ m : Nat, m ≤ 1000000000000 → s = itoaB (m : Int) → n = (m : Int)) := by
  have hL : s.data.toList.length = s.size := by simp
  have canon : ∀ m : Nat, m ≤ 1000000000000 → s = itoaB (m : Int) → s.data.toList = Lib.decDigits m ∧ 1 ≤ s.size ∧ s.size ≤ 13 := by
    intro m hm hsm
    have e : s.data.toList = Lib.decDigits m := by rw [hsm, itoaB, itoa_nat]
    obtain ⟨d1, d2, d3, d4⟩ := dec_props m
    have := d4 12 (by omega)
    rw [← e, hL] at this d2
    exact ⟨e, d2, this⟩
  simp only [impl_readInteger.f]
  by_cases h : (s.size : Int) > 13
  · exact ⟨0, false, if_pos h, by omega, by omega, fun m hm hsm => by have := canon m hm hsm; omega⟩
  · rw [if_neg h]
    cases hp : Lib.parseIntB 64 s.data.toList with
    | «syntax» =>
      refine ⟨0, false, rfl, by omega, by omega, fun m hm hsm => ?_⟩
      exfalso
      obtain ⟨c1, c2, c3⟩ := canon m hm hsm
      obtain ⟨d1, d2, d3, d4⟩ := dec_props m
      rw [c1] at hp
      cases hD : Lib.decDigits m with
      | nil => rw [hD] at d2; simp at d2
      | cons c r =>
        rw [hD] at hp d1 d3
        have hc := d1 c (List.mem_cons_self ..)
        unfold dgB at hc
        rw [Lib.parseIntB_plain 64 c r (by omega) (by omega), Lib.parseUintB, if_neg (by simp), parse_dec (2 ^ 64 - 1) _ 0 d1 (by rw [d3]; omega) (by rw [d3]; omega)] at hp
        simp only [Lib.signlessC] at hp
        split at hp <;> cases hp
    | range =>
      exfalso
      rw [Lib.parseIntB_64, Lib.atoiAll_short _ (by omega)] at hp
      cases ho : Lib.atoi s.data.toList <;> rw [ho] at hp <;> cases hp
    | ok v =>
      have hb := Lib.parseIntB_bounds hp
      refine ⟨v, (decide (0 ≤ v) && decide (v ≤ 1000000000000)), by simp only [isNumber_eq, Option.bind_some], by omega, by omega, fun m hm hsm => ?_⟩
      obtain ⟨c1, c2, c3⟩ := canon m hm hsm
      obtain ⟨d1, d2, d3, d4⟩ := dec_props m
      rw [c1] at hp
      cases hD : Lib.decDigits m with
      | nil => rw [hD] at d2; simp at d2
      | cons c r =>
        rw [hD] at hp d1 d3
        have hc := d1 c (List.mem_cons_self ..)
        unfold dgB at hc
        rw [Lib.parseIntB_plain 64 c r (by omega) (by omega), Lib.parseUintB, if_neg (by simp), parse_dec (2 ^ 64 - 1) _ 0 d1 (by rw [d3]; omega) (by rw [d3]; omega), d3] at hp
        simp only [Lib.signlessC] at hp
        split at hp
        · cases hp
        · injection hp with hp; exact hp.symm
theorem ev_eq {α : Type} {g : Nat → Option α} {a b : α} (h : Ev g a) (k : Ev g b) : a = b := by
  obtain ⟨n, hn⟩ := h
  obtain ⟨m, hm⟩ := k
  have := hn (n + m) (by omega)
  rw [hm (n + m) (by omega)] at this
  exact (Option.some.inj this).symm
def wordsI : List ByteArray := (spec_l24Words.f).getD []
theorem words_eq : spec_l24Words.f = some wordsI := rfl
theorem word_same (k : Int) (h0 : 1 ≤ k) (h1 : k ≤ 31) : rdOf ByteArray.empty wordsI k = (rowI k).f0 ∧ (fieldsI k).1 = (rowI k).f1 ∧ (k ≠ 2 → (fieldsI k).2 = (rowI k).f4) ∧ (rowI k).f0.size ≤ 12 := by
  rcases kinds31 h0 h1 with rfl | rfl | rfl | rfl | rfl | rfl | rfl | rfl | rfl | rfl | rfl | rfl | rfl | rfl | rfl | rfl | rfl | rfl | rfl | rfl | rfl | rfl | rfl | rfl | rfl | rfl | rfl | rfl | rfl | rfl | rfl <;> exact ⟨rfl, rfl, fun h => by first | rfl | exact absurd rfl h, by decide⟩
theorem cat_assoc (a b c : ByteArray) : (a ++ b) ++ c = a ++ (b ++ c) := by
  apply ByteArray.ext
  rw [ByteArray.data_append, ByteArray.data_append, ByteArray.data_append, ByteArray.data_append, Array.append_assoc]
def headI (k n : Int) : ByteArray := if (rowI k).f1 = true then (rowI k).f0 ++ ((⟨#[32]⟩ : ByteArray) ++ itoaB n) else (rowI k).f0
def tailI (k : Int) (t : ByteArray) (x : ByteArray) : ByteArray := if k = 2 then x ++ ((⟨#[32]⟩ : ByteArray) ++ quotedB t) else if (rowI k).f4 = true then x ++ ((⟨#[32]⟩ : ByteArray) ++ t) else x
theorem head_size (k n : Int) (h0 : 1 ≤ k) (h1 : k ≤ 31) (hn0 : -9223372036854775808 ≤ n) (hn1 : n ≤ 9223372036854775807) : (headI k n).size ≤ 50 := by
  have hw := (word_same k h0 h1).2.2.2
  have hi := itoa_size n hn0 hn1
  unfold headI
  split
  · rw [ByteArray.size_append, ByteArray.size_append]; show _ + (1 + _) ≤ 50; omega
  · omega
theorem spec_tail_ev (k n : Int) (t x : ByteArray) (h0 : 1 ≤ k) (h1 : k ≤ 31) (hx : x.size ≤ 50) (ht : t.size ≤ 1048576) : Ev (fun j => spec_InstrText.j0 j (fieldsI k).2 x k n t) (tailI k t x) := by
  have hq := quoted_size t
  refine ev_shift ?_; simp only [spec_InstrText.j0, tailI]
  by_cases h2 : k = 2
  · simp only [if_pos h2]
    refine ev_pos (by omega) (ev_bind (spec_QuoteString_ev t) (ev_pos (by omega) ?_))
    rw [cat_assoc]; exact ev_some _
  · simp only [if_neg h2]
    rw [(word_same k h0 h1).2.2.1 h2]
    exact ev_ite (ev_pos (by omega) (ev_pos (by omega) (ev_some _))) (ev_some _)
theorem impl_tail_ev (k n : Int) (t x : ByteArray) (a : ByteArray) (b : Bool) (c d : Int) (e f : Int) (hx : x.size ≤ 50) (ht : t.size ≤ 1048576) : Ev (fun j => impl_InstrText.j0 j x k n t a b c d (rowI k).f4 e f) (tailI k t x) := by
  have hq := quoted_size t
  refine ev_shift ?_; simp only [impl_InstrText.j0, tailI]
  by_cases h2 : k = 2
  · simp only [if_pos h2]
    exact ev_bind (impl_QuoteString_ev t) (ev_pos (by omega) (ev_pos (by omega) (ev_some _)))
  · simp only [if_neg h2]
    exact ev_ite (ev_pos (by omega) (ev_pos (by omega) (ev_some _))) (ev_some _)

def vI (k n : Int) (t : ByteArray) : Bool := if 1 ≤ k ∧ k ≤ 31 then (textI k t && (decide ((rowI k).f2 ≤ n) && decide (n ≤ (rowI k).f3))) else false
theorem implV (k n : Int) (t : ByteArray) : Ev (fun j => impl_ValidInstr.f j k n t) (vI k n t) := by
  unfold vI
  by_cases h : 1 ≤ k ∧ k ≤ 31
  · rw [if_pos h]; exact impl_ValidInstr_ev k n t h.1 h.2
  · rw [if_neg h]; exact impl_ValidInstr_out k n t h
theorem specV (k n : Int) (t : ByteArray) : Ev (fun j => spec_ValidInstr.f j k n t) (vI k n t) := by
  obtain ⟨b, hs, hi, _⟩ := ValidInstr_same k n t
  rw [← ev_eq hi (implV k n t)]; exact hs
theorem vI_range {k n : Int} {t : ByteArray} (h : vI k n t = true) : (1 ≤ k ∧ k ≤ 31) ∧ textI k t = true ∧ (rowI k).f2 ≤ n ∧ n ≤ (rowI k).f3 := by
  unfold vI at h
  by_cases c : 1 ≤ k ∧ k ≤ 31
  · rw [if_pos c] at h; simp only [Bool.and_eq_true, decide_eq_true_eq] at h; exact ⟨c, h.1, h.2.1, h.2.2⟩
  · rw [if_neg c] at h; cases h
def txt (k n : Int) (t : ByteArray) : ByteArray := if vI k n t = true then tailI k t (headI k n) else ⟨#[]⟩
theorem spec_txt (k n : Int) (t : ByteArray) (hn : -9223372036854775808 ≤ n ∧ n ≤ 9223372036854775807) (ht : t.size ≤ 1048576) : Ev (fun j => spec_InstrText.f j k n t) (txt k n t) := by
  simp only [spec_InstrText.f]
  refine ev_bind (specV k n t) ?_
  unfold txt
  cases hb : vI k n t with
  | false => rw [if_neg (by decide)]; exact ev_neg (by decide) (ev_some _)
  | true =>
    rw [if_pos rfl]
    obtain ⟨⟨h0, h1⟩, _⟩ := vI_range hb
    have hw := word_same k h0 h1
    have hsz := head_size k n h0 h1 hn.1 hn.2
    have hit := itoa_size n hn.1 hn.2
    have hl : (wordsI.length : Int) = 32 := rfl
    refine ev_pos rfl (ev_bind (spec_fields_ev k h0 h1) (ev_bindc words_eq (ev_pos (by omega) (ev_pos (by omega) ?_))))
    rw [hw.1, hw.2.1]
    have T := fun x hx => spec_tail_ev k n t x h0 h1 hx ht
    unfold headI at hsz ⊢
    by_cases hf : (rowI k).f1 = true
    · rw [if_pos hf] at hsz ⊢
      exact ev_pos hf (ev_bind (spec_digits_ev n hn.1 hn.2) (ev_pos (by omega) (ev_pos (by omega) (T _ hsz))))
    · rw [if_neg hf] at hsz ⊢
      exact ev_neg hf (T _ hsz)
theorem impl_txt (k n : Int) (t : ByteArray) (hn : -9223372036854775808 ≤ n ∧ n ≤ 9223372036854775807) (ht : t.size ≤ 1048576) : Ev (fun j => impl_InstrText.f j k n t) (txt k n t) := by
  simp only [impl_InstrText.f]
  refine ev_bind (implV k n t) ?_
  unfold txt
  cases hb : vI k n t with
  | false => rw [if_neg (by decide)]; exact ev_neg (by decide) (ev_some _)
  | true =>
    rw [if_pos rfl]
    obtain ⟨⟨h0, h1⟩, _⟩ := vI_range hb
    have hw := word_same k h0 h1
    have hsz := head_size k n h0 h1 hn.1 hn.2
    have hit := itoa_size n hn.1 hn.2
    refine ev_pos rfl (ev_bindc (impl_form_at k n t h0 h1) ?_)
    have T := fun x hx => impl_tail_ev k n t x (rowI k).f0 (rowI k).f1 (rowI k).f2 (rowI k).f3 (rowI k).f5 (rowI k).f6 hx ht
    dsimp only
    unfold headI at hsz ⊢
    by_cases hf : (rowI k).f1 = true
    · rw [if_pos hf] at hsz ⊢
      exact ev_pos hf (ev_bindc (impl_decimal_eq n hn.1 hn.2) (ev_pos (by omega) (ev_pos (by omega) (T _ hsz))))
    · rw [if_neg hf] at hsz ⊢
      exact ev_neg hf (T _ hsz)
theorem row_props (k : Int) (h0 : 1 ≤ k) (h1 : k ≤ 31) : (∀ c, c ∈ (rowI k).f0.data.toList → c ≠ 32) ∧ 1 ≤ (rowI k).f0.size ∧ 0 ≤ (rowI k).f2 ∧ (rowI k).f3 ≤ 1000000000000 ∧ ((rowI k).f1 = false → (rowI k).f2 = 0 ∧ (rowI k).f3 = 0) ∧ (k = 2 → (rowI k).f1 = false) := by
  rcases kinds31 h0 h1 with rfl | rfl | rfl | rfl | rfl | rfl | rfl | rfl | rfl | rfl | rfl | rfl | rfl | rfl | rfl | rfl | rfl | rfl | rfl | rfl | rfl | rfl | rfl | rfl | rfl | rfl | rfl | rfl | rfl | rfl | rfl <;> exact ⟨by decide, by decide, by decide, by decide, (fun h => by first | exact ⟨rfl, rfl⟩ | cases h), (fun h => by first | rfl | (revert h; decide))⟩
theorem words_nodup : (wordsI.map (fun w => w.data.toList)).Nodup := by decide
theorem words_inj (i j : Nat) (hi : i < 32) (hj : j < 32) (h : (rdOf ByteArray.empty wordsI (i : Int)).toList = (rdOf ByteArray.empty wordsI (j : Int)).toList) : i = j := by
  have hl : wordsI.length = 32 := rfl
  rw [rdOf_get _ _ i (by omega), rdOf_get _ _ j (by omega), Go.ByteArray.toList_eq, Go.ByteArray.toList_eq] at h
  have hn := words_nodup
  have hi' : i < (wordsI.map (fun w => w.data.toList)).length := by rw [List.length_map, hl]; exact hi
  have hj' : j < (wordsI.map (fun w => w.data.toList)).length := by rw [List.length_map, hl]; exact hj
  exact (List.getElem_inj hn).1 (show (wordsI.map (fun w => w.data.toList))[i]'hi' = (wordsI.map (fun w => w.data.toList))[j]'hj' from by rw [List.getElem_map, List.getElem_map]; exact h)
theorem at_ev (w : ByteArray) : ∃ v, Ev (fun k => spec_l17At.f k wordsI w) v ∧ (v = -1 ∨ ∃ i : Nat, v = i ∧ i < 32 ∧ (rdOf ByteArray.empty wordsI (i : Int)).toList = w.toList) ∧ (∀ i : Nat, i < 32 → (rdOf ByteArray.empty wordsI (i : Int)).toList = w.toList → v = i) := by
  have hl : wordsI.length = 32 := rfl
  simp only [spec_l17At.f]
  obtain ⟨v, hv, hh⟩ := idx_find (g := fun k i => spec_l17At.l0 k wordsI w i) 32 (fun i => decide ((rdOf ByteArray.empty wordsI (i : Int)).toList = w.toList))
    (by refine ev_shift ?_; simp only [spec_l17At.l0]; exact ev_neg (by rw [hl]; decide) (ev_some _))
    (by
      intro i hi hp r hr
      refine ev_shift ?_; simp only [spec_l17At.l0]
      rw [wrap_up (by omega) (show (i : Int) < (wordsI.length : Int) by omega) (by omega)]
      exact ev_pos (by omega) (ev_pos (by omega) (ev_neg (of_decide_eq_false hp) hr)))
    (by
      intro i hi hp
      refine ev_shift ?_; simp only [spec_l17At.l0]
      exact ev_pos (by omega) (ev_pos (by omega) (ev_pos (of_decide_eq_true hp) (ev_some _))))
  refine ⟨v, hv, ?_, ?_⟩
  · rcases hh with ⟨h1, _⟩ | ⟨i, h1, h2, h3, _⟩
    · exact Or.inl h1
    · exact Or.inr ⟨i, h1, h2, of_decide_eq_true h3⟩
  · intro i hi he
    rcases hh with ⟨_, h2⟩ | ⟨j, h1, h2, h3, _⟩
    · have := h2 i hi; rw [decide_eq_true he] at this; cases this
    · rw [h1, words_inj j i h2 hi ((of_decide_eq_true h3).trans he.symm)]
theorem row_word (i : Nat) (hi : i < 31) : (rd_T43 tblI (i : Int)).f0 = rdOf ByteArray.empty wordsI ((i + 1 : Nat) : Int) := by
  have := (word_same ((i + 1 : Nat) : Int) (by omega) (by omega)).1
  rw [this]; unfold rowI; rw [show (((i + 1 : Nat) : Int) - 1) = (i : Int) from by omega]
theorem form_ev (w : ByteArray) : ∃ v, Ev (fun k => impl_instrForm__impl_ReadInstr_1.f k tblI [w]) v ∧ (v = -1 ∨ ∃ i : Nat, v = i ∧ i < 31 ∧ (rdOf ByteArray.empty wordsI ((i + 1 : Nat) : Int)).toList = w.toList) ∧ (∀ i : Nat, i < 31 → (rdOf ByteArray.empty wordsI ((i + 1 : Nat) : Int)).toList = w.toList → v = i) := by
  have hl : tblI.length = 31 := rfl
  simp only [impl_instrForm__impl_ReadInstr_1.f]
  have hp : ∀ i : Nat, i < 31 → impl_ReadInstr_1.f (rd_T43 tblI (i : Int)).f0 (rd_T43 tblI (i : Int)).f1 (rd_T43 tblI (i : Int)).f2 (rd_T43 tblI (i : Int)).f3 (rd_T43 tblI (i : Int)).f4 (rd_T43 tblI (i : Int)).f5 (rd_T43 tblI (i : Int)).f6 [w] = some (decide ((rdOf ByteArray.empty wordsI ((i + 1 : Nat) : Int)).toList = w.toList)) := by
    intro i hi
    simp only [impl_ReadInstr_1.f]
    rw [if_pos (by simp), row_word i hi]
    congr 1
    rw [Bool.eq_iff_iff]; simp; rfl
  rw [hl]
  obtain ⟨v, hv, hh⟩ := idx_find (g := fun k i => impl_instrForm__impl_ReadInstr_1.l0 k tblI [w] ((31 : Nat) : Int) i) 31 (fun i => decide ((rdOf ByteArray.empty wordsI ((i + 1 : Nat) : Int)).toList = w.toList))
    (by refine ev_shift ?_; simp only [impl_instrForm__impl_ReadInstr_1.l0]; exact ev_neg (by decide) (ev_some _))
    (by
      intro i hi hq r hr
      refine ev_shift ?_; simp only [impl_instrForm__impl_ReadInstr_1.l0]
      rw [hp i hi, wrap_up (by omega) (show (i : Int) < (tblI.length : Int) by omega) (by omega)]
      exact ev_pos (by omega) (ev_pos (by omega) (ev_pos (by omega) (ev_bindc rfl (ev_neg (by rw [hq]; decide) hr)))))
    (by
      intro i hi hq
      refine ev_shift ?_; simp only [impl_instrForm__impl_ReadInstr_1.l0]
      rw [hp i hi]
      exact ev_pos (by omega) (ev_pos (by omega) (ev_pos (by omega) (ev_bindc rfl (ev_pos hq (ev_some _))))))
  refine ⟨v, hv, ?_, ?_⟩
  · rcases hh with ⟨h1, _⟩ | ⟨i, h1, h2, h3, _⟩
    · exact Or.inl h1
    · exact Or.inr ⟨i, h1, h2, of_decide_eq_true h3⟩
  · intro i hi he
    rcases hh with ⟨_, h2⟩ | ⟨j, h1, h2, h3, _⟩
    · have := h2 i hi; rw [decide_eq_true he] at this; cases this
    · have := words_inj (j + 1) (i + 1) (by omega) (by omega) ((of_decide_eq_true h3).trans he.symm)
      rw [h1]; omega
def rej : Int × Int × ByteArray × Bool := (0, 0, (⟨#[]⟩ : ByteArray), false)
def pickS (k : Int) (x : ByteArray) : ByteArray := if k = 2 ∧ 2 ≤ x.size then x.extract 1 (x.size - 1) else if (fieldsI k).2 = true then x else ⟨#[]⟩
def pickI (k : Int) (x : ByteArray) : ByteArray := if k = 2 then (if x.size < 2 then ⟨#[]⟩ else x.extract 1 (x.size - 1)) else if (rowI k).f4 = true then x else ⟨#[]⟩
theorem pickS_size (k : Int) (x : ByteArray) (hx : x.size ≤ 1048576) : (pickS k x).size ≤ 1048576 := by
  unfold pickS; split
  · rw [ByteArray.size_extract]; omega
  · split
    · exact hx
    · decide
theorem pickI_size (k : Int) (x : ByteArray) (hx : x.size ≤ 1048576) : (pickI k x).size ≤ 1048576 := by
  unfold pickI; split
  · split
    · decide
    · rw [ByteArray.size_extract]; omega
  · split
    · exact hx
    · decide
theorem ev_acc {f : Nat → Option ByteArray} {x s : ByteArray} {k n : Int} {t : ByteArray} (h : Ev f x) : Ev (fun j => (f j).bind fun y => if y.toList = s.toList then (some (k, n, t, true)) else some (0, 0, (⟨#[]⟩ : ByteArray), false)) (if x = s then (k, n, t, true) else rej) := by
  refine ev_bind h ?_
  by_cases c : x = s
  · rw [if_pos c]; exact ev_pos (toList_inj.2 c) (ev_some _)
  · rw [if_neg c]; exact ev_neg (fun hh => c (toList_inj.1 hh)) (ev_some _)
theorem spec_j0_ev (s x : ByteArray) (k n : Int) (hn : -9223372036854775808 ≤ n ∧ n ≤ 9223372036854775807) (hx : x.size ≤ 1048576) : Ev (fun j => spec_ReadInstr.j0 j s x k (fieldsI k).2 k n ⟨#[]⟩) (if txt k n (pickS k x) = s then (k, n, pickS k x, true) else rej) := by
  have hp := pickS_size k x hx
  have j1 : ∀ b : Bool, (b = true ↔ k = 2 ∧ 2 ≤ x.size) → Ev (fun j => spec_ReadInstr.j1 j s x (fieldsI k).2 b k n ⟨#[]⟩) (if txt k n (pickS k x) = s then (k, n, pickS k x, true) else rej) := by
    intro b hb
    refine ev_shift ?_; simp only [spec_ReadInstr.j1]
    by_cases c : k = 2 ∧ 2 ≤ x.size
    · have e : x.extract 1 (wrap64 ((x.size : Int) - 1)).toNat = pickS k x := by
        unfold pickS; rw [if_pos c, wrap_id (by omega) (by omega), show ((x.size : Int) - 1).toNat = x.size - 1 from by omega]
      rw [e, wrap_id (by omega) (by omega)]
      exact ev_pos (hb.2 c) (ev_pos (by omega) (ev_pos (by omega) (ev_acc (spec_txt k n _ hn hp))))
    · refine ev_neg (fun h => c (hb.1 h)) ?_
      by_cases c2 : (fieldsI k).2 = true
      · have e : pickS k x = x := by unfold pickS; rw [if_neg c, if_pos c2]
        rw [e] at hp ⊢
        exact ev_pos c2 (ev_acc (spec_txt k n _ hn hp))
      · have e : pickS k x = ⟨#[]⟩ := by unfold pickS; rw [if_neg c, if_neg c2]
        rw [e] at hp ⊢
        exact ev_neg c2 (ev_acc (spec_txt k n _ hn hp))
  refine ev_shift ?_; simp only [spec_ReadInstr.j0]
  by_cases c : k = 2
  · exact ev_pos c (j1 _ (by simp [c]; omega))
  · exact ev_neg c (j1 _ (by simp [c]))
theorem impl_j0_ev (s x : ByteArray) (k n : Int) (h0 : 1 ≤ k) (h1 : k ≤ 31) (hn : -9223372036854775808 ≤ n ∧ n ≤ 9223372036854775807) (hx : x.size ≤ 1048576) : Ev (fun j => impl_ReadInstr.j0 j s x k n ⟨#[]⟩) (if vI k n (pickI k x) = true ∧ txt k n (pickI k x) = s then (k, n, pickI k x, true) else rej) := by
  have hp := pickI_size k x hx
  have j1 : Ev (fun j => impl_ReadInstr.j1 j s k n (pickI k x)) (if vI k n (pickI k x) = true ∧ txt k n (pickI k x) = s then (k, n, pickI k x, true) else rej) := by
    refine ev_shift ?_; simp only [impl_ReadInstr.j1]
    refine ev_bind (implV k n _) ?_
    by_cases c : vI k n (pickI k x) = true
    · have := ev_acc (s := s) (k := k) (n := n) (t := pickI k x) (impl_txt k n _ hn hp)
      simp only [c, true_and]
      exact ev_pos trivial this
    · rw [if_neg (fun h => c h.1)]; exact ev_neg c (ev_some _)
  refine ev_shift ?_; simp only [impl_ReadInstr.j0]
  by_cases c : k = 2
  · refine ev_pos c (ev_bindc (a := pickI k x) ?_ j1)
    simp only [impl_inside.f, pickI]
    rw [if_pos c]
    by_cases c2 : x.size < 2
    · rw [if_pos (by omega), if_pos c2]
    · rw [if_neg (by omega), if_neg c2, wrap_id (by omega) (by omega), if_pos (by omega), if_pos (by omega), show ((x.size : Int) - 1).toNat = x.size - 1 from by omega]
  · refine ev_neg c (ev_bindc (impl_form_at k n _ h0 h1) ?_)
    dsimp only
    by_cases c4 : (rowI k).f4 = true
    · rw [show pickI k x = x from by unfold pickI; rw [if_neg c, if_pos c4]] at j1 ⊢
      exact ev_pos c4 j1
    · rw [show pickI k x = ⟨#[]⟩ from by unfold pickI; rw [if_neg c, if_neg c4]] at j1 ⊢
      exact ev_neg c4 j1
theorem app_data (a b : ByteArray) : (a ++ b).data.toList = a.data.toList ++ b.data.toList := by rw [ByteArray.data_append]; simp
theorem sp_data (b : ByteArray) : ((⟨#[32]⟩ : ByteArray) ++ b).data.toList = 32 :: b.data.toList := by rw [app_data]; rfl
theorem no_text {t : ByteArray} (h : t.toList.isEmpty = true) : (⟨#[]⟩ : ByteArray) = t := by
  rw [List.isEmpty_iff, Go.ByteArray.toList_eq] at h
  rw [← BL_data t, h]; rfl
theorem quoted_cut (t : ByteArray) (h : quoteS t = true) : 2 ≤ (quotedB t).size ∧ (quotedB t).extract 1 ((quotedB t).size - 1) = t := by
  have key : ∀ c : UInt8, 2 ≤ (((⟨#[c]⟩ : ByteArray) ++ t) ++ (⟨#[c]⟩ : ByteArray)).size ∧ (((⟨#[c]⟩ : ByteArray) ++ t) ++ (⟨#[c]⟩ : ByteArray)).extract 1 ((((⟨#[c]⟩ : ByteArray) ++ t) ++ (⟨#[c]⟩ : ByteArray)).size - 1) = t := by
    intro c
    have hz : (((⟨#[c]⟩ : ByteArray) ++ t) ++ (⟨#[c]⟩ : ByteArray)).size = t.size + 2 := by
      rw [ByteArray.size_append, ByteArray.size_append]; show 1 + t.size + 1 = _; omega
    refine ⟨by omega, ?_⟩
    rw [hz]
    rw [← BL_data (ByteArray.extract _ _ _), ext_list, app_data, app_data]
    have hL : t.data.toList.length = t.size := by simp
    show BL (List.take (t.size + 2 - 1 - 1) (List.drop 1 ([c] ++ t.data.toList ++ [c]))) = t
    rw [List.append_assoc]
    show BL (List.take (t.size + 2 - 1 - 1) (t.data.toList ++ [c])) = t
    rw [show t.size + 2 - 1 - 1 = t.data.toList.length from by omega, List.take_left' rfl, BL_data]
  unfold quotedB
  rw [if_pos h]
  split
  · exact key 34
  · exact key 39
theorem dig_ne {m : Nat} : ∀ c, c ∈ Lib.decDigits m → c ≠ 32 := by
  intro c hc he
  have := (dec_props m).1 c hc
  rw [he] at this; unfold dgB at this; revert this; decide
theorem acc_cut (k n : Int) (t s : ByteArray) (hv : vI k n t = true) (hs : s = tailI k t (headI k n)) :
    ∃ R X : List UInt8, BL (cutA s.data.toList) = (rowI k).f0 ∧ cutZ s.data.toList = R ∧ ((rowI k).f1 = true → ∃ m : Nat, n = (m : Int) ∧ m ≤ 1000000000000 ∧ BL (cutA R) = itoaB (m : Int) ∧ cutZ R = X) ∧ ((rowI k).f1 = false → R = X ∧ n = 0) ∧ pickS k (BL X) = t ∧ pickI k (BL X) = t := by
  obtain ⟨⟨h0, h1⟩, ht, hn0, hn1⟩ := vI_range hv
  obtain ⟨p1, p2, p3, p4, p5, p6⟩ := row_props k h0 h1
  have hw := word_same k h0 h1
  unfold textI at ht
  unfold tailI headI at hs
  cases f1 : (rowI k).f1 with
  | true =>
    have hk2 : ¬ k = 2 := fun h => by rw [p6 h] at f1; cases f1
    obtain ⟨m, rfl⟩ : ∃ m : Nat, n = (m : Int) := ⟨n.toNat, by omega⟩
    have hD : (itoaB (m : Int)).data.toList = Lib.decDigits m := by rw [itoaB, itoa_nat]
    rw [if_neg hk2, f1, if_pos rfl] at hs
    rw [if_neg hk2] at ht
    cases f4 : (rowI k).f4 with
    | true =>
      rw [f4, if_pos rfl] at hs
      have hL : s.data.toList = (rowI k).f0.data.toList ++ 32 :: (Lib.decDigits m ++ 32 :: t.data.toList) := by
        rw [hs, app_data, app_data, sp_data, sp_data, hD, List.append_assoc]; rfl
      obtain ⟨c1, c2⟩ := cut_app _ (Lib.decDigits m ++ 32 :: t.data.toList) p1
      obtain ⟨c3, c4⟩ := cut_app (Lib.decDigits m) t.data.toList dig_ne
      refine ⟨_, t.data.toList, by rw [hL, c1, BL_data], by rw [hL, c2], fun _ => ⟨m, rfl, by omega, ?_, c4⟩, (fun h => by cases h), ?_, ?_⟩
      · rw [c3, ← hD, BL_data]
      · unfold pickS; rw [if_neg (fun h => hk2 h.1), if_pos ((hw.2.2.1 hk2).trans f4), BL_data]
      · unfold pickI; rw [if_neg hk2, if_pos f4, BL_data]
    | false =>
      rw [f4, if_neg (show ¬ false = true by decide)] at hs ht
      have hL : s.data.toList = (rowI k).f0.data.toList ++ 32 :: Lib.decDigits m := by
        rw [hs, app_data, sp_data, hD]
      obtain ⟨c1, c2⟩ := cut_app _ (Lib.decDigits m) p1
      obtain ⟨c3, c4⟩ := cut_all (Lib.decDigits m) dig_ne
      refine ⟨_, [], by rw [hL, c1, BL_data], by rw [hL, c2], fun _ => ⟨m, rfl, by omega, ?_, c4⟩, (fun h => by cases h), ?_, ?_⟩
      · rw [c3, ← hD, BL_data]
      · unfold pickS; rw [if_neg (fun h => hk2 h.1), if_neg (by rw [hw.2.2.1 hk2, f4]; decide)]; exact no_text ht
      · unfold pickI; rw [if_neg hk2, if_neg (by rw [f4]; decide)]; exact no_text ht
  | false =>
    have hz := p5 f1
    have hn : n = 0 := by omega
    rw [f1, if_neg (show ¬ false = true by decide)] at hs
    by_cases hk2 : k = 2
    · rw [if_pos hk2] at hs ht
      have hL : s.data.toList = (rowI k).f0.data.toList ++ 32 :: (quotedB t).data.toList := by
        rw [hs, app_data, sp_data]
      obtain ⟨c1, c2⟩ := cut_app _ (quotedB t).data.toList p1
      obtain ⟨q1, q2⟩ := quoted_cut t ht
      refine ⟨_, (quotedB t).data.toList, by rw [hL, c1, BL_data], by rw [hL, c2], (fun h => by cases h), fun _ => ⟨rfl, hn⟩, ?_, ?_⟩
      · unfold pickS; rw [BL_data, if_pos ⟨hk2, q1⟩, q2]
      · unfold pickI; rw [BL_data, if_pos hk2, if_neg (by omega), q2]
    · rw [if_neg hk2] at hs ht
      cases f4 : (rowI k).f4 with
      | true =>
        rw [f4, if_pos rfl] at hs
        have hL : s.data.toList = (rowI k).f0.data.toList ++ 32 :: t.data.toList := by
          rw [hs, app_data, sp_data]
        obtain ⟨c1, c2⟩ := cut_app _ t.data.toList p1
        refine ⟨_, t.data.toList, by rw [hL, c1, BL_data], by rw [hL, c2], (fun h => by cases h), fun _ => ⟨rfl, hn⟩, ?_, ?_⟩
        · unfold pickS; rw [if_neg (fun h => hk2 h.1), if_pos ((hw.2.2.1 hk2).trans f4), BL_data]
        · unfold pickI; rw [if_neg hk2, if_pos f4, BL_data]
      | false =>
        rw [f4, if_neg (show ¬ false = true by decide)] at hs ht
        obtain ⟨c1, c2⟩ := cut_all _ p1
        refine ⟨[], [], by rw [hs, c1, BL_data], by rw [hs, c2], (fun h => by cases h), fun _ => ⟨rfl, hn⟩, ?_, ?_⟩
        · unfold pickS; rw [if_neg (fun h => hk2 h.1), if_neg (by rw [hw.2.2.1 hk2, f4]; decide)]; exact no_text ht
        · unfold pickI; rw [if_neg hk2, if_neg (by rw [f4]; decide)]; exact no_text ht
theorem small_cut (s : ByteArray) (hs : s.size ≤ 1048576) : (BL (cutA s.data.toList)).size ≤ 1048576 ∧ (BL (cutZ s.data.toList)).size ≤ 1048576 := by
  have := cut_len s.data.toList
  have hL : s.data.toList.length = s.size := by simp
  rw [BL_size, BL_size]; omega
theorem specAccept (s : ByteArray) (hsz : s.size ≤ 1048576) (k n : Int) (t : ByteArray) (hv : vI k n t = true) (hs : s = tailI k t (headI k n)) : Ev (fun j => spec_ReadInstr.f j s) (k, n, t, true) := by
  obtain ⟨R, X, hA, hZ, hf1, hf0, hp, _⟩ := acc_cut k n t s hv hs
  obtain ⟨⟨h0, h1⟩, _⟩ := vI_range hv
  have hw := word_same k h0 h1
  have ht : txt k n t = s := by unfold txt; rw [if_pos hv]; exact hs.symm
  have hsm := small_cut s hsz
  have hspl := split_ev s hsz
  rw [hA, hZ] at hspl
  rw [hZ] at hsm
  obtain ⟨v, hve, _, hu⟩ := at_ev (rowI k).f0
  obtain ⟨kk, rfl⟩ : ∃ kk : Nat, k = (kk : Int) := ⟨k.toNat, by omega⟩
  have hvk : v = (kk : Int) := hu kk (by omega) (by rw [hw.1])
  rw [hvk] at hve
  simp only [spec_ReadInstr.f]
  refine ev_bind hspl (ev_bindc words_eq (ev_bind hve (ev_neg (by omega) (ev_bind (spec_fields_ev _ h0 h1) ?_))))
  cases f1 : (rowI (kk : Int)).f1 with
  | true =>
    obtain ⟨m, hm, hm2, e1, e2⟩ := hf1 f1
    have hspl2 := split_ev (BL R) hsm.2
    have hsm2 := small_cut (BL R) hsm.2
    rw [data_BL] at hspl2 hsm2
    rw [e2] at hspl2 hsm2
    obtain ⟨n0, ok, en, b1, b2, hc⟩ := number_ev (BL (cutA R)) hsm2.1
    obtain ⟨c1, c2⟩ := hc m hm2 e1
    rw [c1, c2, ← hm] at en
    have hj := spec_j0_ev s (BL X) (kk : Int) n (by omega) hsm2.2
    rw [hp, if_pos ht] at hj
    refine ev_pos (hw.2.1.trans f1) (ev_bind hspl2 (ev_bind en (ev_pos rfl ?_)))
    exact hj
  | false =>
    obtain ⟨e1, e2⟩ := hf0 f1
    rw [e1] at hsm
    have hj := spec_j0_ev s (BL X) (kk : Int) n (by omega) hsm.2
    rw [hp, if_pos ht, e2] at hj
    rw [e1, e2]
    refine ev_neg (by rw [hw.2.1, f1]; decide) ?_
    exact hj
theorem implAccept (s : ByteArray) (hsz : s.size ≤ 1048576) (k n : Int) (t : ByteArray) (hv : vI k n t = true) (hs : s = tailI k t (headI k n)) : Ev (fun j => impl_ReadInstr.f j s) (k, n, t, true) := by
  obtain ⟨R, X, hA, hZ, hf1, hf0, _, hp⟩ := acc_cut k n t s hv hs
  obtain ⟨⟨h0, h1⟩, _⟩ := vI_range hv
  have hw := word_same k h0 h1
  have ht : txt k n t = s := by unfold txt; rw [if_pos hv]; exact hs.symm
  have hsm := small_cut s hsz
  obtain ⟨b, hspl⟩ := cutf_eq s hsz
  rw [hA, hZ] at hspl
  rw [hZ] at hsm
  obtain ⟨v, hve, _, hu⟩ := form_ev (rowI k).f0
  obtain ⟨kk, rfl⟩ : ∃ kk : Nat, k = ((kk + 1 : Nat) : Int) := ⟨(k - 1).toNat, by omega⟩
  have hvk : v = (kk : Int) := hu kk (by omega) (by rw [hw.1])
  rw [hvk] at hve
  have hwr : wrap64 ((kk : Int) + 1) = ((kk + 1 : Nat) : Int) := by rw [wrap_id (by omega) (by omega)]; omega
  simp only [impl_ReadInstr.f]
  refine ev_bindc hspl (ev_bindc forms_eq (ev_bind hve (ev_neg (by omega) ?_)))
  rw [hwr]
  refine ev_bindc (impl_form_at _ _ _ h0 h1) ?_
  dsimp only
  cases f1 : (rowI ((kk + 1 : Nat) : Int)).f1 with
  | true =>
    obtain ⟨m, hm, hm2, e1, e2⟩ := hf1 f1
    obtain ⟨b2, hspl2⟩ := cutf_eq (BL R) hsm.2
    have hsm2 := small_cut (BL R) hsm.2
    rw [data_BL] at hspl2 hsm2
    rw [e2] at hspl2 hsm2
    obtain ⟨n0, ok, en, b3, b4, hc⟩ := readInteger_eq (BL (cutA R))
    rw [hc m hm2 e1, ← hm] at en
    have hj := impl_j0_ev s (BL X) ((kk + 1 : Nat) : Int) n h0 h1 (by omega) hsm2.2
    rw [hp, if_pos ⟨hv, ht⟩] at hj
    refine ev_pos rfl (ev_bindc hspl2 (ev_bindc en ?_))
    exact hj
  | false =>
    obtain ⟨e1, e2⟩ := hf0 f1
    rw [e1] at hsm
    have hj := impl_j0_ev s (BL X) ((kk + 1 : Nat) : Int) n h0 h1 (by omega) hsm.2
    rw [hp, if_pos ⟨hv, ht⟩, e2] at hj
    rw [e1, e2]
    refine ev_neg (by decide) ?_
    exact hj
def Good (s : ByteArray) (r : Int × Int × ByteArray × Bool) : Prop := r = rej ∨ ∃ k n t, r = (k, n, t, true) ∧ vI k n t = true ∧ s = tailI k t (headI k n)
theorem good_of (s : ByteArray) (h1 : 1 ≤ s.size) (k n : Int) (t : ByteArray) : Good s (if txt k n t = s then (k, n, t, true) else rej) := by
  by_cases c : txt k n t = s
  · rw [if_pos c]
    refine Or.inr ⟨k, n, t, rfl, ?_⟩
    unfold txt at c
    cases hv : vI k n t with
    | true => rw [hv, if_pos rfl] at c; exact ⟨rfl, c.symm⟩
    | false => rw [hv, if_neg (by decide)] at c; rw [← c] at h1; exact absurd h1 (by decide)
  · rw [if_neg c]; exact Or.inl rfl
theorem good_of2 (s : ByteArray) (k n : Int) (t : ByteArray) : Good s (if vI k n t = true ∧ txt k n t = s then (k, n, t, true) else rej) := by
  by_cases c : vI k n t = true ∧ txt k n t = s
  · rw [if_pos c]
    refine Or.inr ⟨k, n, t, rfl, c.1, ?_⟩
    have := c.2
    unfold txt at this; rw [if_pos c.1] at this; exact this.symm
  · rw [if_neg c]; exact Or.inl rfl
theorem specTotal (s : ByteArray) (hsz : s.size ≤ 1048576) : ∃ r, Ev (fun j => spec_ReadInstr.f j s) r ∧ Good s r := by
  have hsm := small_cut s hsz
  have hspl := split_ev s hsz
  obtain ⟨v, hve, hcase, _⟩ := at_ev (BL (cutA s.data.toList))
  simp only [spec_ReadInstr.f]
  by_cases hv : v < 1
  · exact ⟨rej, ev_bind hspl (ev_bindc words_eq (ev_bind hve (ev_pos hv (ev_some _)))), Or.inl rfl⟩
  · obtain ⟨i, hi, hi2, hwd⟩ : ∃ i : Nat, v = i ∧ i < 32 ∧ (rdOf ByteArray.empty wordsI (i : Int)).toList = (BL (cutA s.data.toList)).toList := by
      rcases hcase with h | h
      · omega
      · exact h
    have h0 : (1 : Int) ≤ v := by omega
    have h1 : v ≤ 31 := by omega
    have hw := word_same v h0 h1
    have hs1 : 1 ≤ s.size := by
      have p2 := (row_props v h0 h1).2.1
      rw [← hi, hw.1, toList_inj] at hwd
      rw [hwd, BL_size] at p2
      have := (cut_len s.data.toList).1
      have hL : s.data.toList.length = s.size := by simp
      omega
    cases f1 : (fieldsI v).1 with
    | true =>
      have hspl2 := split_ev (BL (cutZ s.data.toList)) hsm.2
      have hsm2 := small_cut (BL (cutZ s.data.toList)) hsm.2
      obtain ⟨n0, ok, en, b1, b2, _⟩ := number_ev _ hsm2.1
      cases ok with
      | true => exact ⟨_, ev_bind hspl (ev_bindc words_eq (ev_bind hve (ev_neg hv (ev_bind (spec_fields_ev _ h0 h1) (ev_pos f1 (ev_bind hspl2 (ev_bind en (ev_pos rfl (spec_j0_ev s _ v n0 ⟨b1, b2⟩ hsm2.2))))))))), good_of s hs1 _ _ _⟩
      | false => exact ⟨rej, ev_bind hspl (ev_bindc words_eq (ev_bind hve (ev_neg hv (ev_bind (spec_fields_ev _ h0 h1) (ev_pos f1 (ev_bind hspl2 (ev_bind en (ev_neg Bool.false_ne_true (ev_some _))))))))), Or.inl rfl⟩
    | false =>
      exact ⟨_, ev_bind hspl (ev_bindc words_eq (ev_bind hve (ev_neg hv (ev_bind (spec_fields_ev _ h0 h1) (ev_neg (by rw [f1]; decide) (spec_j0_ev s _ v 0 (by omega) hsm.2)))))), good_of s hs1 _ _ _⟩
theorem implTotal (s : ByteArray) (hsz : s.size ≤ 1048576) : ∃ r, Ev (fun j => impl_ReadInstr.f j s) r ∧ Good s r := by
  have hsm := small_cut s hsz
  obtain ⟨b, hspl⟩ := cutf_eq s hsz
  obtain ⟨v, hve, hcase, _⟩ := form_ev (BL (cutA s.data.toList))
  simp only [impl_ReadInstr.f]
  by_cases hv : v < 0
  · exact ⟨rej, ev_bindc hspl (ev_bindc forms_eq (ev_bind hve (ev_pos hv (ev_some _)))), Or.inl rfl⟩
  · obtain ⟨i, hi, hi2⟩ : ∃ i : Nat, v = i ∧ i < 31 := by
      rcases hcase with h | ⟨i, h, h2, _⟩
      · omega
      · exact ⟨i, h, h2⟩
    have hwr : wrap64 (v + 1) = v + 1 := wrap_id (by omega) (by omega)
    have h0 : (1 : Int) ≤ v + 1 := by omega
    have h1 : v + 1 ≤ 31 := by omega
    have F : ∀ {g : Nat → (ByteArray × Bool × Int × Int × Bool × Int × Int) → Option (Int × Int × ByteArray × Bool)} (r), Ev (fun j => g j ((rowI (v + 1)).f0, (rowI (v + 1)).f1, (rowI (v + 1)).f2, (rowI (v + 1)).f3, (rowI (v + 1)).f4, (rowI (v + 1)).f5, (rowI (v + 1)).f6)) r → Ev (fun j => (impl_Instr_form.f (wrap64 (v + 1)) 0 (⟨#[]⟩ : ByteArray)).bind (g j)) r := by
      intro g r h; rw [hwr]; exact ev_bindc (impl_form_at _ _ _ h0 h1) h
    have J : ∀ (x : ByteArray) (hx : x.size ≤ 1048576) (n : Int) (hn : -9223372036854775808 ≤ n ∧ n ≤ 9223372036854775807), Ev (fun j => impl_ReadInstr.j0 j s x (wrap64 (v + 1)) n ⟨#[]⟩) (if vI (wrap64 (v + 1)) n (pickI (wrap64 (v + 1)) x) = true ∧ txt (wrap64 (v + 1)) n (pickI (wrap64 (v + 1)) x) = s then (wrap64 (v + 1), n, pickI (wrap64 (v + 1)) x, true) else rej) := by
      intro x hx n hn; rw [hwr]; exact impl_j0_ev s x (v + 1) n h0 h1 hn hx
    cases f1 : (rowI (v + 1)).f1 with
    | true =>
      obtain ⟨b2, hspl2⟩ := cutf_eq (BL (cutZ s.data.toList)) hsm.2
      have hsm2 := small_cut (BL (cutZ s.data.toList)) hsm.2
      obtain ⟨n0, ok, en, b3, b4, _⟩ := readInteger_eq (BL (cutA (BL (cutZ s.data.toList)).data.toList))
      exact ⟨_, ev_bindc hspl (ev_bindc forms_eq (ev_bind hve (ev_neg hv (F _ (ev_pos f1 (ev_bindc hspl2 (ev_bindc en (J _ hsm2.2 n0 ⟨b3, b4⟩)))))))), good_of2 s _ _ _⟩
    | false =>
      exact ⟨_, ev_bindc hspl (ev_bindc forms_eq (ev_bind hve (ev_neg hv (F _ (ev_neg (show ¬ (rowI (v + 1)).f1 = true from by rw [f1]; decide) (J _ hsm.2 0 (by omega))))))), good_of2 s _ _ _⟩
theorem both (s : ByteArray) (hsz : s.size ≤ 1048576) : ∃ r, Ev (fun j => spec_ReadInstr.f j s) r ∧ Ev (fun j => impl_ReadInstr.f j s) r := by
  obtain ⟨r, h1, g1⟩ := specTotal s hsz
  obtain ⟨q, h2, g2⟩ := implTotal s hsz
  rcases g1 with g1 | ⟨k, n, t, e, v, hs⟩
  · rcases g2 with g2 | ⟨k, n, t, e, v, hs⟩
    · exact ⟨rej, g1 ▸ h1, g2 ▸ h2⟩
    · have := ev_eq h1 (specAccept s hsz k n t v hs)
      rw [g1] at this
      cases congrArg (fun z => z.2.2.2) this
  · exact ⟨_, specAccept s hsz k n t v hs, implAccept s hsz k n t v hs⟩
theorem FnExactReadInstr : laws_FnExactReadInstr.Pure := by
  intro x0 _
  suffices hh : Ev (fun k => laws_FnExactReadInstr.f k x0) true by
    obtain ⟨K, hK⟩ := hh
    exact ⟨K, hK K (Nat.le_refl _)⟩
  simp only [laws_FnExactReadInstr.f]
  refine ev_skip fun c0 => ?_
  obtain ⟨⟨a, b, c, d⟩, es, ei⟩ := both x0 (by omega)
  refine ev_bind es (ev_bind ei (ev_bindc (a := true) (by simp [laws_eqInstr.f]) (ev_pos rfl (ev_neg (bne_ff _) (ev_some _)))))
end Go.Proofs.YtdihlgkcpooadaaDoor.Pure
