/- Printed functions: bytealg_LastIndexByteString, strings_LastIndexByte, impl_TranslateText. -/
import Derived.Test.YtabbpnkbhapibaaYTrP0
namespace Go.Proofs.Ytabbpnkbhapibaa.PFnTranslate
open Go.RowKit Go.Proofs.YtabbpnkbhapibaaG Go.Proofs.YtabbpnkbhapibaaW.PrintWords Go.Proofs.YtabbpnkbhapibaaW.PrintLast Go.Proofs.YtabbpnkbhapibaaW.PrintMore
attribute [local go_sem] max2_int min2_int max_two min_two max_three min_three max_four min_four   -- for this text's walks alone
set_option linter.unusedVariables false
set_option linter.unusedSimpArgs false
/-! ### bytealg_LastIndexByteString: function 133 -/
def bytealg_LastIndexByteString.l0 : Nat → ByteArray → Int → Int → Option (Int)
 | 0, _, _, _ => none
 | k + 1, x0, x1, x5 => if x5 ≥ 0 then (if 0 ≤ x5 then (if x5 < (x0.size : Int) then (if (bt x0 x5) = x1 then (some x5) else (bytealg_LastIndexByteString.l0 k x0 x1 (wrap64 (x5 - 1)))) else (none)) else (none)) else (some (-1))
def bytealg_LastIndexByteString.f (k : Nat) (a0 : ByteArray) (a1 : Int) : Option (Int) := bytealg_LastIndexByteString.l0 k a0 a1 (wrap64 ((a0.size : Int) - 1))
set_option maxHeartbeats 8000000 in
set_option maxRecDepth 100000 in
theorem bytealg_LastIndexByteString.calls (k : Nat) (a0 : ByteArray) (a1 : Int) (r : Int) (w : World) (h : bytealg_LastIndexByteString.f k a0 a1 = some r) :
  Calls Try.prog 133 #[.string a0, .int .u8 a1] w fun e w' => e = .returned (.int .i64 r) ∧ Drawn0 w w' := by
 have H : (bytealg_LastIndexByteString.l0 k a0 a1 (wrap64 ((a0.size : Int) - 1))) = some r := h
 clear h
 have H' := Aside0.mk H
 clear H
 go_enter Try.func133, Try.ntmps133
 go_wp2
 go_loopg [5] k (fun kq v5 w' => ∃ (x5_1 : Int), v5 = .int .i64 x5_1 ∧ Aside0 (bytealg_LastIndexByteString.l0 kq a0 a1 x5_1 = some r) ∧ Aside0 (kq ≤ k) ∧ Drawn0 w w')
 case atStart => exact ⟨(wrap64 ((a0.size : Int) - 1)), sr, H', ⟨Nat.le_refl _⟩, by repeat (first | exact Drawn0.refl _ | apply Drawn0.step)⟩
 case round =>
  clear H'
  try clear c1
  try clear p2
  obtain ⟨x5_1, rfl, HA, HK1, ⟨m1, rfl⟩⟩ := hrel
  cases gk with
  | zero => exact absurd HA.out (by simp [bytealg_LastIndexByteString.l0])
  | succ k1 =>
   have H := HA.out
   clear HA
   simp only [bytealg_LastIndexByteString.l0] at H
   by_cases c3 : x5_1 ≥ 0
   ·rw [if_pos c3] at H
    have c3b0 : decide (0 ≤ x5_1) = true := decide_eq_true c3
    clear c3
    by_cases c4 : 0 ≤ x5_1
    ·rw [if_pos c4] at H
     have c4b0 := decide_eq_true c4
     clear c4
     by_cases c5 : x5_1 < (a0.size : Int)
     ·rw [if_pos c5] at H
      have c5b0 := decide_eq_true c5
      clear c5
      by_cases c7 : (bt a0 x5_1) = a1
      ·rw [if_pos c7] at H
       have c7b0 : ((bt a0 x5_1) == a1) = true := beq_iff_eq.mpr c7
       have c7b1 : ((bt a0 x5_1) != a1) = false := bne_eq_false_iff_eq.mpr c7
       clear c7
       obtain rfl := Option.some.inj H
       have p6 : 0 ≤ (x5_1 : Int) := of_decide_eq_true (by first | (with_reducible assumption) | assumption)
       have q6 : x5_1 < (a0.size : Int) := of_decide_eq_true (by first | (with_reducible assumption) | assumption)
       have hx6 := bt_at a0 x5_1
       replace p6 := eq_true p6
       replace q6 := eq_true q6
       go_wp2
       go_ret
       exact ⟨by first | rfl | (simp; done) | (simp [*]; done), by repeat (first | exact Drawn0.refl _ | apply Drawn0.step)⟩
      rw [if_neg c7] at H
      have c7b0 : ((bt a0 x5_1) == a1) = false := beq_eq_false_iff_ne.mpr c7
      have c7b1 : ((bt a0 x5_1) != a1) = true := bne_iff_ne.mpr c7
      have H' := Aside0.mk H
      clear H
      have p6 : 0 ≤ (x5_1 : Int) := of_decide_eq_true (by first | (with_reducible assumption) | assumption)
      have q6 : x5_1 < (a0.size : Int) := of_decide_eq_true (by first | (with_reducible assumption) | assumption)
      have hx6 := bt_at a0 x5_1
      replace p6 := eq_true p6
      replace q6 := eq_true q6
      go_wp2
      go_roundg k1
      case measure => have := HK1.out; omega
      case rel => exact ⟨(wrap64 (x5_1 - 1)), sr, H', ⟨by have := HK1.out; omega⟩, by repeat (first | exact Drawn0.refl _ | apply Drawn0.step)⟩
     rw [if_neg c5] at H
     exact absurd H (by simp)
    rw [if_neg c4] at H
    exact absurd H (by simp)
   rw [if_neg c3] at H
   have c3b0 : decide (0 ≤ x5_1) = false := decide_eq_false c3
   clear c3
   obtain rfl := Option.some.inj H
   go_wp2
   go_ret
   exact ⟨by first | rfl | (simp; done) | (simp [*]; done), by repeat (first | exact Drawn0.refl _ | apply Drawn0.step)⟩

/-! ### strings_LastIndexByte: function 60 -/
def strings_LastIndexByte.f (k : Nat) (a0 : ByteArray) (a1 : Int) : Option (Int) := (bytealg_LastIndexByteString.f k a0 a1).bind fun t159 => (some t159)
set_option maxHeartbeats 8000000 in
set_option maxRecDepth 100000 in
theorem strings_LastIndexByte.calls (k : Nat) (a0 : ByteArray) (a1 : Int) (r : Int) (w : World) (h : strings_LastIndexByte.f k a0 a1 = some r) :
  Calls Try.prog 60 #[.string a0, .int .u8 a1] w fun e w' => e = .returned (.int .i64 r) ∧ Drawn0 w w' := by
 have H : ((bytealg_LastIndexByteString.f k a0 a1).bind fun t159 => (some t159)) = some r := h
 clear h
 obtain ⟨t159, A3, H⟩ := sO H
 obtain rfl := Option.some.inj H
 go_enter Try.func60, Try.ntmps60
 go_wp2_with (first | ((with_reducible refine gate_callee (f := 133) rfl ?_); refine sC (some 7) Try.func133 #[.string a0, .int .u8 a1] (bytealg_LastIndexByteString.calls k a0 a1 t159 _ A3.out) ?_; rintro e w' ⟨rfl, ⟨nd, rfl⟩⟩; refine ⟨_, rfl, ?_⟩))
 go_ret
 exact ⟨by first | rfl | (simp; done) | (simp [*]; done), by repeat (first | exact Drawn0.refl _ | apply Drawn0.step)⟩

/-! ### impl_TranslateText: function 15 -/
def impl_TranslateText.l0 : Nat → ByteArray → ByteArray → List Int → Int → Option (List Int)
 | 0, _, _, _, _ => none
 | k + 1, x1, x2, xs, i => if i < (xs.length : Int) then (if 0 ≤ i then ((strings_LastIndexByte.f k x1 (rd xs i)).bind fun t => (if t ≥ 0 then (if t < (x2.size : Int) then (impl_TranslateText.l0 k x1 x2 (xs.set i.toNat (bt x2 t)) (wrap64 (i + 1))) else none) else (impl_TranslateText.l0 k x1 x2 xs (wrap64 (i + 1))))) else none) else (some xs)
def impl_TranslateText.f (k : Nat) (a0 : ByteArray) (a1 : ByteArray) (a2 : ByteArray) : Option (ByteArray × Bool) := if a1.toList = ([] : List UInt8) then (some ((⟨#[]⟩ : ByteArray), false)) else (if (a1.size : Int) = (a2.size : Int) then (if a0.size ≤ 9223372036854775807 then ((impl_TranslateText.l0 k a1 a2 (bytesOf a0) 0).bind fun xs => (some (strOfNums xs, true))) else none) else (some ((⟨#[]⟩ : ByteArray), false)))
/-- What the loop holds of the converted bytes. -/
def impl_TranslateText.Row (w' : World) (g N : Nat) (xs : List Int) : Prop := ∃ cs : Array Value, w'.heap[g]? = some (.cells cs 5 (N, N + 1)) ∧ cs.size = N ∧ xs.length ≤ N ∧ (∀ (j : Nat) (x : Int), xs[j]? = some x → cs[j]? = some (.int .u8 x)) ∧ ∀ x, x ∈ xs → 0 ≤ x ∧ x ≤ 255
theorem impl_TranslateText.row_new (w : World) (s : ByteArray) : impl_TranslateText.Row (Lib.bytesWorld w 5 s) w.heap.size (Lib.bytesCells w 5 s).size (bytesOf s) := by
 refine ⟨_, Lib.bytesWorld_at_new w _ s, rfl, ?_, fun j x hj => ?_, fun x hx => ?_⟩
 · rw [bytes_len]; simp only [Lib.bytesCells, Array.size_append, Array.size_map]; exact Nat.le_add_right _ _
 · have hc := Lib.bytesWorld_cell w 5 s j (by have := (List.getElem?_eq_some_iff.1 hj).1; rwa [bytes_len] at this)
   unfold World.cell? at hc
   rw [Lib.bytesWorld_at_new] at hc
   have hx : x = ((s.data.toList.getD j 0).toNat : Int) := by
     simp [bytesOf] at hj
     obtain ⟨b, hb1, rfl⟩ := hj
     simp [List.getD_eq_getElem?_getD, hb1]
   rw [hx]
   exact hc
 · simp only [bytesOf, List.mem_map] at hx
   obtain ⟨b, _, rfl⟩ := hx
   have := b.toNat_lt
   omega
theorem impl_TranslateText.row_below {w1 w2 : World} {g N : Nat} {xs : List Int} (h : impl_TranslateText.Row w1 g N xs) (hb : Below w1.heap.size w1 w2) : impl_TranslateText.Row w2 g N xs := by
 obtain ⟨cs, h1, h2⟩ := h
 exact ⟨cs, (hb.block g (blk_lt h1)).trans h1, h2⟩
theorem impl_TranslateText.row_cell {w1 : World} {g N : Nat} {xs : List Int} (h : impl_TranslateText.Row w1 g N xs) (i : Int) (h0 : 0 ≤ i) (h1 : i < (xs.length : Int)) : w1.cell? ⟨g, i.toNat, none⟩ = some (.int .u8 (rd xs i)) ∧ w1.frozen? ⟨g, i.toNat, none⟩ = false ∧ 0 ≤ rd xs i ∧ rd xs i ≤ 255 := by
 obtain ⟨cs, h2, h3, h4, h5, h6⟩ := h
 have hlt : i.toNat < xs.length := by omega
 have hr : xs[i.toNat]? = some (rd xs i) := by
   unfold rd
   rw [List.getD_eq_getElem?_getD, List.getElem?_eq_getElem hlt]; rfl
 have hm := h6 _ (List.mem_of_getElem? hr)
 refine ⟨?_, ?_, hm.1, hm.2⟩
 · rw [cell_of_row w1 g i.toNat cs _ _ h2]; exact h5 _ _ hr
 · simp only [World.frozen?, h2]
   simp; omega
theorem impl_TranslateText.row_put {w1 : World} {g N : Nat} {xs : List Int} (h : impl_TranslateText.Row w1 g N xs) (i : Nat) (v : Int) (h0 : 0 ≤ v) (h1 : v ≤ 255) : impl_TranslateText.Row (w1.setCell ⟨g, i, none⟩ (.int .u8 v)) g N (xs.set i v) := by
 obtain ⟨cs, h2, h3, h4, h5, h6⟩ := h
 refine ⟨cs.setIfInBounds i (.int .u8 v), by simp [World.setCell, Array.getElem?_modify, h2], by simpa using h3, by simpa using h4, fun j x hj => ?_, fun x hx => ?_⟩
 · rw [List.getElem?_set] at hj
   rw [Array.getElem?_setIfInBounds]
   split at hj
   · rename_i e
     subst e
     split at hj
     · rename_i hlt
       obtain rfl := Option.some.inj hj
       rw [if_pos rfl, if_pos (by omega)]
     · cases hj
   · rename_i e
     rw [if_neg e]
     exact h5 j x hj
 · rcases List.mem_or_eq_of_mem_set hx with h | rfl
   · exact h6 x h
   · exact ⟨h0, h1⟩
theorem impl_TranslateText.row_back {P : Program} {w1 : World} {g N c : Nat} {xs : List Int} (h : impl_TranslateText.Row w1 g N xs) (hs : P.underlying 22 = some (.slice 5)) (he : P.underlying 5 = some (.int .u8)) (hd : P.underlying 9 = some .string) : (convert 22 9 (.slice (some ⟨g, 0, none⟩) xs.length c)).run P w1 = .ok (.string (strOfNums xs)) w1 := by
 obtain ⟨cs, h2, h3, h4, h5, h6⟩ := h
 have hl : (xs.map fun x => UInt8.ofNat x.toNat).length = xs.length := by simp
 have := run_convert_bytes_back (P := P) w1 22 9 5 ⟨g, 0, none⟩ c (xs.map fun x => UInt8.ofNat x.toNat) hs he hd (fun j hj => by
   have hj' : j < xs.length := by simpa using hj
   have hm := h6 xs[j] (List.getElem_mem hj')
   rw [add_plain, cell_of_row w1 g _ cs _ _ h2, h5 j xs[j] (List.getElem?_eq_getElem hj'), List.getElem_map]
   have : ((UInt8.ofNat xs[j].toNat).toNat : Int) = xs[j] := by rw [UInt8.toNat_ofNat_of_lt' (by show xs[j].toNat < 256; omega)]; omega
   rw [this])
 rw [hl] at this
 rw [this]
 rfl
theorem impl_TranslateText.below_put {w w1 : World} (hB : Below w.heap.size w w1) (i : Nat) (v : Value) : Below w.heap.size w (w1.setCell ⟨w.heap.size, i, none⟩ v) := hB.trans ⟨rfl, rfl, rfl, by simp, fun k hk => Below.heap_setCell w1 _ v k (by show k ≠ w.heap.size; omega)⟩
set_option maxHeartbeats 4000000 in
set_option maxRecDepth 100000 in
theorem impl_TranslateText.calls (k : Nat) (a0 : ByteArray) (a1 : ByteArray) (a2 : ByteArray) (r1 : ByteArray) (r2 : Bool) (w : World) (h : impl_TranslateText.f k a0 a1 a2 = some (r1, r2)) :
  Calls Try.prog 15 #[.string a0, .string a1, .string a2] w fun e w' => e = .returned (.tuple #[.string r1, .bool r2]) ∧ Below w.heap.size w w' := by
 unfold impl_TranslateText.f at h
 by_cases c1 : a1.toList = ([] : List UInt8)
 · rw [if_pos c1] at h
   obtain ⟨rfl, rfl⟩ := Prod.mk.inj (Option.some.inj h)
   have c1b : (a1.toList == ([] : List UInt8)) = true := beq_iff_eq.mpr c1
   clear c1 h
   go_enter Try.func15, Try.ntmps15
   go_wp2
   refine bodyPost_ret (results_tmp2 rfl _ _ _) rfl ?_
   exact ⟨rfl, Below.refl _ _⟩
 rw [if_neg c1] at h
 have c1b : (a1.toList == ([] : List UInt8)) = false := beq_eq_false_iff_ne.mpr c1
 clear c1
 by_cases c2 : (a1.size : Int) = (a2.size : Int)
 · rw [if_pos c2] at h
   have c2b : ((a1.size : Int) != (a2.size : Int)) = false := bne_eq_false_iff_eq.mpr c2
   by_cases c3 : a0.size ≤ 9223372036854775807
   · rw [if_pos c3] at h
     obtain ⟨ys, H, h⟩ := Option.bind_eq_some_iff.mp h
     obtain ⟨rfl, rfl⟩ := Prod.mk.inj (Option.some.inj h)
     clear h
     have H' := Aside0.mk H
     have RN := Aside0.mk (impl_TranslateText.row_new w a0)
     have BN := Aside0.mk (conv_below 5 w a0)
     clear H
     go_enter Try.func15, Try.ntmps15
     go_wp2_with (first | ((with_reducible refine gate_conv (src := 9) (dst := 22) rfl ?_); refine conv_at rfl rfl _ rfl _ rfl Try.underlying9 Try.underlying22 Try.underlying5 ?_; refine ⟨_, rfl, ?_⟩; generalize Lib.bytesWorld w 5 a0 = w1 at RN BN ⊢; generalize grownCap w a0.size 0 5 = cap; generalize (Lib.bytesCells w 5 a0).size = N at RN))
     go_loopg [25] k (fun kq v25 w' => ∃ (i : Int) (xs : List Int), v25 = .int .i64 i ∧ Aside0 (impl_TranslateText.l0 kq a1 a2 xs i = some ys) ∧ Aside0 (kq ≤ k) ∧ Aside0 (Below w.heap.size w w') ∧ Aside0 (impl_TranslateText.Row w' w.heap.size N xs) ∧ Aside0 (xs.length = a0.size))
     case atStart => exact ⟨0, bytesOf a0, rfl, H', ⟨Nat.le_refl _⟩, BN, RN, ⟨bytes_len a0⟩⟩
     case round =>
       clear H' RN BN
       obtain ⟨i, xs, rfl, HA, HK1, HB, HR, HL⟩ := hrel
       cases gk with
       | zero => exact absurd HA.out (by simp [impl_TranslateText.l0])
       | succ k1 =>
         have H := HA.out
         clear HA
         simp only [impl_TranslateText.l0] at H
         have hl := HL.out
         by_cases c4 : i < (xs.length : Int)
         · rw [if_pos c4] at H
           by_cases c5 : 0 ≤ i
           · rw [if_pos c5] at H
             obtain ⟨hc, hf, hd0, hd1⟩ := impl_TranslateText.row_cell HR.out i c5 c4
             have c4b : decide (i < (a0.size : Int)) = true := decide_eq_true (by omega)
             have p5 : (0 ≤ i) = True := eq_true c5
             have q5 : (i < (a0.size : Int)) = True := eq_true (by omega)
             obtain ⟨t, ht, H⟩ := Option.bind_eq_some_iff.mp H
             have HT := Aside0.mk ht
             clear ht
             by_cases c6 : t ≥ 0
             · rw [if_pos c6] at H
               by_cases c7 : t < (a2.size : Int)
               · rw [if_pos c7] at H
                 have H' := Aside0.mk H
                 clear H
                 have c6b : decide (0 ≤ t) = true := decide_eq_true c6
                 have p6 : (0 ≤ t) = True := eq_true c6
                 have q6 : (t < (a2.size : Int)) = True := eq_true c7
                 have hb6 := bt_at a2 t
                 go_wp2_with (go_at_call 60; refine (strings_LastIndexByte.calls k1 a1 (rd xs i) t _ HT.out).mono ?_; rintro e w2 ⟨rfl, ⟨m, rfl⟩⟩)
                 have hw : wrap64 (i + 1) = i + 1 := by unfold wrap64; omega
                 go_roundg k1
                 case measure => have := HK1.out; omega
                 case rel =>
                   have h1 := H'.out
                   rw [hw] at h1
                   exact ⟨i + 1, xs.set i.toNat (bt a2 t), rfl, ⟨h1⟩, ⟨by have := HK1.out; omega⟩, ⟨impl_TranslateText.below_put (w1 := wr.drewN m) (HB.out.trans ⟨rfl, rfl, rfl, Nat.le_refl _, fun _ _ => rfl⟩) i.toNat _⟩, ⟨impl_TranslateText.row_put (w1 := wr.drewN m) HR.out i.toNat _ (bt_range a2 t).1 (bt_range a2 t).2⟩, ⟨by rw [List.length_set]; exact hl⟩⟩
               · rw [if_neg c7] at H; cases H
             · rw [if_neg c6] at H
               have H' := Aside0.mk H
               clear H
               have c6b : decide (0 ≤ t) = false := decide_eq_false c6
               go_wp2_with (go_at_call 60; refine (strings_LastIndexByte.calls k1 a1 (rd xs i) t _ HT.out).mono ?_; rintro e w2 ⟨rfl, ⟨m, rfl⟩⟩)
               have hw : wrap64 (i + 1) = i + 1 := by unfold wrap64; omega
               go_roundg k1
               case measure => have := HK1.out; omega
               case rel =>
                 have h1 := H'.out
                 rw [hw] at h1
                 exact ⟨i + 1, xs, rfl, ⟨h1⟩, ⟨by have := HK1.out; omega⟩, ⟨HB.out.trans ⟨rfl, rfl, rfl, Nat.le_refl _, fun _ _ => rfl⟩⟩, ⟨HR.out⟩, ⟨hl⟩⟩
           · rw [if_neg c5] at H; cases H
         · rw [if_neg c4] at H
           obtain rfl := Option.some.inj H
           have c4b : decide (i < (a0.size : Int)) = false := decide_eq_false (by omega)
           have hback := impl_TranslateText.row_back (P := Try.prog) (c := cap) HR.out Try.underlying22 Try.underlying5 Try.underlying9
           rw [hl] at hback
           go_wp2
           refine bodyPost_ret (results_tmp2 rfl _ _ _) rfl ?_
           exact ⟨rfl, by repeat (first | exact HB.out | apply below_drew1)⟩
   · rw [if_neg c3] at h; cases h
 · rw [if_neg c2] at h
   obtain ⟨rfl, rfl⟩ := Prod.mk.inj (Option.some.inj h)
   have c2b : ((a1.size : Int) != (a2.size : Int)) = true := bne_iff_ne.mpr c2
   clear c2 h
   go_enter Try.func15, Try.ntmps15
   go_wp2
   refine bodyPost_ret (results_tmp2 rfl _ _ _) rfl ?_
   exact ⟨rfl, Below.refl _ _⟩
end Go.Proofs.Ytabbpnkbhapibaa.PFnTranslate
