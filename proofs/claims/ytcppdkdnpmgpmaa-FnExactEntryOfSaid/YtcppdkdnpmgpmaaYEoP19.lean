/- Printed functions: slices_Repeat_int64_int64, slices_Clone_int64_int64. -/
import Derived.Test.YtcppdkdnpmgpmaaYEoP0
namespace Go.Proofs.Ytcppdkdnpmgpmaa.PFnExactEntryOf
open Go.RowKit Go.Proofs.YtcppdkdnpmgpmaaG Go.Proofs.YtcppdkdnpmgpmaaW.PrintWords Go.Proofs.YtcppdkdnpmgpmaaW.PrintLast Go.Proofs.YtcppdkdnpmgpmaaW.PrintMore
attribute [local go_sem] max2_int min2_int max_two min_two max_three min_three max_four min_four   -- for this text's walks alone
set_option linter.unusedVariables false
set_option linter.unusedSimpArgs false
/-! ### slices_Repeat_int64_int64: function 52 -/
def slices_Repeat_int64_int64.f (l0 : List Int) (a1 : Int) : Option (List Int) := if l0.length = 1 ∧ 0 ≤ a1 ∧ a1 ≤ 1099511627776 then some (List.replicate a1.toNat (l0.headD 0)) else none
theorem slices_Repeat_int64_int64.out {w : World} {base e : Nat} {P : Nat → Prop} {l : List Int} {g : Nat} {cur : List Value} (hP : P g) (hb : base ≤ g) (hg : w.heap[g]? = some (.cells cur.toArray e (0, 0))) (hc : l.length ≤ maxLen)
    (ht : cur = l.map (Value.int .i64)) : Kd.R (Kd.int .i64) e w base P (.slice (some ⟨g, 0, none⟩) l.length l.length) l := by
 have hs : cur.length = l.length := by rw [ht, List.length_map]
 refine ⟨fun k hk => ?_, l.map (Value.int .i64), ⟨by rw [List.length_map]; exact (Nat.mul_one _).symm, .inr ⟨g, l.length, cur.toArray, rfl, hb, hg, Nat.le_refl _, hc, by rw [List.size_toArray, hs]; exact (Nat.mul_one _).symm, ?_⟩⟩, ⟨by rw [List.length_map]; exact (Nat.mul_one _).symm, fun j p hj => ?_⟩⟩
 · have : g = k := by simpa [Value.ownBlock] using hk
   rw [← this]; exact hP
 · show cur.toArray.toList.take (l.length * 1) = _
   rw [Nat.mul_one, List.toList_toArray, ht, List.take_of_length_le (by rw [List.length_map]; omega)]
 · obtain ⟨hlt, hp⟩ := List.getElem?_eq_some_iff.1 hj
   show (((l.map (Value.int .i64)).drop (j * 1)).take 1) = [Value.int .i64 p]
   rw [Nat.mul_one, List.drop_eq_getElem_cons (by rw [List.length_map]; omega), List.getElem_map, hp]
   rfl
def slices_Repeat_int64_int64.row (x : Int) (m n : Nat) : List Value := List.replicate m (Value.int .i64 x) ++ List.replicate (n - m) (Value.int .i64 0)
theorem slices_Repeat_int64_int64.row_len (x : Int) (m n : Nat) (h : m ≤ n) : (slices_Repeat_int64_int64.row x m n).length = n := by simp [slices_Repeat_int64_int64.row]; omega
theorem slices_Repeat_int64_int64.row_step (x : Int) (m n j : Nat) (h : m + j ≤ n) : splice (slices_Repeat_int64_int64.row x m n) m (List.replicate j (Value.int .i64 x)) = slices_Repeat_int64_int64.row x (m + j) n := by
 unfold splice slices_Repeat_int64_int64.row
 rw [List.take_left' (by simp), List.length_replicate, ← List.append_assoc, List.replicate_append_replicate]
 congr 1
 rw [List.drop_append, List.length_replicate, List.drop_of_length_le (by simp), List.nil_append, List.drop_replicate]
 congr 1
 omega
set_option maxHeartbeats 4000000 in
set_option maxRecDepth 100000 in
theorem slices_Repeat_int64_int64.calls (A0 : Option Addr) (c0 : Nat) (l0 : List Int) (a1 : Int) (r : List Int) (w : World) (hr0 : Kd.C (Kd.int .i64) w A0 l0.length l0) (hc0 : l0.length ≤ c0) (h : slices_Repeat_int64_int64.f l0 a1 = some r) :
  Calls Try.prog 52 #[.slice A0 l0.length c0, .int .i64 a1] w fun e w' => ∃ v0_ : Value, e = .returned (v0_) ∧ Kd.R (Kd.int .i64) 2 w' w.heap.size (fun _ => True) v0_ r ∧ Below w.heap.size w w' := by
 unfold slices_Repeat_int64_int64.f at h
 split at h
 · rename_i h1
   obtain ⟨h1, h2, h3⟩ := h1
   obtain ⟨n, rfl⟩ : ∃ n : Nat, a1 = (n : Int) := ⟨a1.toNat, by omega⟩
   obtain rfl := Option.some.inj h
   clear h
   obtain ⟨x, rfl⟩ : ∃ x, l0 = [x] := by
    match l0, h1 with
    | [x], _ => exact ⟨x, rfl⟩
   have hu52 := Try.underlying52
   have hu2 := Try.underlying2
   have HR0 := Aside0.mk hr0
   have HC0 := Aside0.mk hc0
   have hnn : n ≤ 1099511627776 := by omega
   have hnat : ((n : Int)).toNat = n := by omega
   rw [hnat]
   simp only [List.length_singleton, List.headD_cons]
   obtain ⟨ad, rfl, _⟩ := hr0.2.2 (by simp)
   clear hr0 hc0 h1 h2
   have hMul : Calls Try.prog 68 #[.int .u64 1, .int .u64 (n : Int)] w fun e w' => e = .returned (.tuple #[.int .u64 0, .int .u64 (n : Int)]) ∧ w' = w := by
    have h := Try.bits_Mul 1 n (by omega) (by omega) w
    rw [Nat.one_mul, Nat.div_eq_of_lt (by omega), Nat.mod_eq_of_lt (by omega)] at h
    exact h
   obtain ⟨i0, hi, hz0, hz1, hz2⟩ := info_parts info2
   have hinfo : (Try.prog.info? 2).map (·.size) = some 1 := by rw [hi]; simp [hz1]
   obtain ⟨M, hM⟩ : ∃ M, M = madeCells (Value.int .i64 0).cells (((n : Nat) : Int).toNat * i0.size) := ⟨_, rfl⟩
   have hMs : M = (slices_Repeat_int64_int64.row x 0 n).toArray := by
    apply Array.toList_inj.1
    rw [hM, hnat, hz1, Nat.mul_one, show (Value.int .i64 0).cells = #[Value.int .i64 0] from rfl, toList_madeCells_one, List.toList_toArray]
    simp [slices_Repeat_int64_int64.row]
   have hmk : ∀ W : World, (Instr.makeSlice 52 (.int .i64 (n : Int)) (.int .i64 (n : Int))).run Try.prog W = .ok (.slice (some ⟨W.heap.size, 0, none⟩) n n) (W.alloc (.cells M 2)) := fun W => by
    have h := run_make (P := Try.prog) W 52 2 i0 (.int .i64 0) Try.underlying52 hi hz0 .i64 .i64 (n : Int) (n : Int) (by omega) (by omega) (by rw [hz2]; omega) (by omega)
    rw [← hM] at h
    simpa using h
   clear hM
   subst hMs
   have hw1 : wrap64 ((n : Int)) = (n : Int) := by unfold wrap64; omega
   have hw2 : IntKind.i64.wrap ((n : Int)) = (n : Int) := by rw [i64_w]; exact hw1
   have hw3 : IntKind.u64.wrap ((n : Int)) = (n : Int) := by rw [IntKind.wrap_u64]; omega
   have hn0 : decide ((n : Int) < 0) = false := by simp
   have hn1 : decide ((9223372036854775807 : Int) < (n : Int)) = false := by simp; omega
   clear hw1
   go_enter Try.func52, Try.ntmps52
   have hx1 : (w.alloc (.cells (slices_Repeat_int64_int64.row x 0 n).toArray 2)).cell? ad = some (.int .i64 x) := by
    obtain ⟨ad1, e1, h⟩ := Kd.at_int (Kd.C_alloc HR0.out (.cells (slices_Repeat_int64_int64.row x 0 n).toArray 2)) 0 (by omega) (by simp)
    cases e1
    simpa [Addr.add, rd] using h
   have hcn : (List.replicate (min n 1) (Value.int .i64 x)).length = Nat.min 1 n := by rw [List.length_replicate]; exact Nat.min_comm _ _
   have hpos : 0 < (List.replicate (min n 1) (Value.int .i64 x)).length → ∃ ad_, some ad = some ad_ ∧ ∀ j v, (List.replicate (min n 1) (Value.int .i64 x))[j]? = some v → (w.alloc (.cells (slices_Repeat_int64_int64.row x 0 n).toArray 2)).cell? (ad_.add j) = some v := by
    intro _
    refine ⟨ad, rfl, fun j v hj => ?_⟩
    obtain ⟨hlt, hv⟩ := List.getElem?_eq_some_iff.1 hj
    rw [List.length_replicate] at hlt
    obtain rfl : j = 0 := by omega
    rw [← hv, List.getElem_replicate]
    simpa [Addr.add] using hx1
   have hfit : 0 + (List.replicate (min n 1) (Value.int .i64 x)).length ≤ (slices_Repeat_int64_int64.row x 0 n).length := by rw [List.length_replicate, slices_Repeat_int64_int64.row_len x 0 n (Nat.zero_le _)]; omega
   have hsp : splice (slices_Repeat_int64_int64.row x 0 n) 0 (List.replicate (min n 1) (Value.int .i64 x)) = slices_Repeat_int64_int64.row x (min n 1) n := by have := slices_Repeat_int64_int64.row_step x 0 n (min n 1) (by omega); simpa using this
   have hone : ∀ (q : Nat), ∀ v ∈ List.replicate q (Value.int .i64 x), v.oneCell' = true := by
    intro q v hv
    rw [List.eq_of_mem_replicate hv]; rfl
   have hB1 : Below w.heap.size w (w.alloc (.cells (slices_Repeat_int64_int64.row x 0 n).toArray 2)) := (Below.refl _ _).alloc (Nat.le_refl _) _
   have hm1 : min n 1 ≤ n := by omega
   have A1 := Aside0.mk hcn
   have A2 := Aside0.mk hB1
   have A3 := Aside0.mk hpos
   have A5 := Aside0.mk hfit
   have A6 := Aside0.mk hsp
   have A7 := Aside0.mk hone
   clear hB1 hpos hfit hsp hcn hone hx1
   go_wp2_with (first | (go_at_call 68; (with_reducible refine hMul.mono ?_); rintro e w1 ⟨rfl, hw⟩; replace hw := hw.symm; subst hw) | ((with_reducible refine gate_builtin (b := .copy) (xs := #[.tmp 31, .tmp 32]) rfl ?_); refine wpList_copy_splice rfl (.tmp 31) (.tmp 32) 52 52 rfl 2 hu52 hinfo _ _ _ _ _ _ rfl rfl w.heap.size 0 (slices_Repeat_int64_int64.row x 0 n) 2 (heap_alloc_new w _) _ A1.out (fun h_ => ⟨rfl, A3.out h_⟩) A5.out (A7.out _) w.heap.size w A2.out (Nat.le_refl _) ?_; intro w2 hg2 hb2; rw [A6.out] at hg2; rw [List.length_replicate]; have G2 := Aside0.mk hg2.out; have B2 := Aside0.mk hb2; clear hg2 hb2))
   clear A1 A2 A3 A5 A6 hmk hMul
   go_loopg [8] n (fun kq v8 w' => ∃ m : Nat, v8 = .int .i64 (m : Int) ∧ Aside0 (m ≤ n ∧ (1 ≤ m ∨ n = 0) ∧ n - m ≤ kq) ∧ Aside0 (w'.heap[w.heap.size]? = some (.cells (slices_Repeat_int64_int64.row x m n).toArray 2 (0, 0))) ∧ Aside0 (Below w.heap.size w w'))
   case atStart => exact ⟨min n 1, rfl, ⟨by omega⟩, G2, B2⟩
   case round =>
    clear G2 B2
    obtain ⟨m, rfl, HM, HG, HB⟩ := hrel
    by_cases c : m < n
    · cases gk with
      | zero => exact absurd HM.out.2.2 (by omega)
      | succ k1 =>
       have cb : decide ((m : Int) < (n : Int)) = true := by simp; omega
       have c2 : m ≤ n := by omega
       have c3 : ¬ n < m := by omega
       have c4 : ¬ n = m := by omega
       have c5 : ¬ m = n := by omega
       have C1 : Aside0 ((List.replicate (min m (n - m)) (Value.int .i64 x)).length = Nat.min m (n - m)) := ⟨List.length_replicate ..⟩
       have C2 : Aside0 (∀ j v, (List.replicate (min m (n - m)) (Value.int .i64 x))[j]? = some v → wr.cell? ((⟨w.heap.size, 0, none⟩ : Addr).add j) = some v) := ⟨by
        intro j v hj
        obtain ⟨hlt, hv⟩ := List.getElem?_eq_some_iff.1 hj
        rw [List.length_replicate] at hlt
        rw [← hv, List.getElem_replicate]
        have h := HG.out
        by_cases h0 : j = 0
        · subst h0
          simp [World.cell?, Addr.add, h, slices_Repeat_int64_int64.row, List.getElem?_append, show 0 < m by omega]
        · simp [World.cell?, Addr.add, h0, h, slices_Repeat_int64_int64.row, List.getElem?_append, show j < m by omega]⟩
       have C3 : Aside0 (m + (List.replicate (min m (n - m)) (Value.int .i64 x)).length ≤ (slices_Repeat_int64_int64.row x m n).length) := ⟨by rw [List.length_replicate, slices_Repeat_int64_int64.row_len x m n c2]; omega⟩
       have C4 : Aside0 (splice (slices_Repeat_int64_int64.row x m n) m (List.replicate (min m (n - m)) (Value.int .i64 x)) = slices_Repeat_int64_int64.row x (m + min m (n - m)) n) := ⟨slices_Repeat_int64_int64.row_step x m n (min m (n - m)) (by omega)⟩
       have C5 : IntKind.i64.wrap ((m : Int) + ((min m (n - m) : Nat) : Int)) = ((m + min m (n - m) : Nat) : Int) := by rw [i64_w]; unfold wrap64; omega
       have C6 : n - (m + min m (n - m)) ≤ k1 ∧ m + min m (n - m) ≤ n ∧ 1 ≤ m + min m (n - m) := by have := HM.out; omega
       replace C6 := Aside0.mk C6
       clear HM
       go_wp2
       go_region_law (go_loud (refine step_copy_splice rfl (.tmp 41) (.tmp 44) 52 52 rfl 2 hu52 hinfo (some ⟨w.heap.size, m, none⟩) (some ⟨w.heap.size, 0, none⟩) (n - m) (n - m) m n (by go_simp) (by go_simp) w.heap.size m (slices_Repeat_int64_int64.row x m n) 2 HG.out _ C1.out (fun _ => ⟨rfl, _, rfl, C2.out⟩) C3.out (A7.out _) w.heap.size w (by first | exact HB.out | exact below_drew HB.out | exact pw_below_drewN HB.out _) (Nat.le_refl _) ?_; intro w4 hg4 hb4; rw [C4.out] at hg4; rw [List.length_replicate]; have G4 := Aside0.mk hg4.out; have B4 := Aside0.mk hb4; clear hg4 hb4))
       go_wp2
       go_roundg k1
       case measure => omega
       case rel => exact ⟨m + min m (n - m), by first | rfl | (simp; done), ⟨by have := C6.out; omega⟩, G4, B4⟩
    · have cb : decide ((m : Int) < (n : Int)) = false := by simp; omega
      have e : m = n := by have := HM.out; omega
      subst e
      go_wp2
      go_ret
      exact ⟨_, rfl, by have h9 := slices_Repeat_int64_int64.out (e := 2) (P := fun _ => True) (l := List.replicate m x) trivial (Nat.le_refl _) HG.out (by rw [List.length_replicate]; simp [maxLen]; omega) (by simp [slices_Repeat_int64_int64.row]); rw [List.length_replicate] at h9; exact h9, HB.out⟩
 · cases h

/-! ### slices_Clone_int64_int64: function 53 -/
theorem slices_Clone_int64_int64.eqIn {P : Program} (w : World) (d : Nat) (t e : TypeId) (a : Option Addr) (l c : Nat) (h : P.underlying t = some (.slice e)) : (Op.equalIn (d + 1) t (.slice a l c) (.slice none 0 0)).run P w = .ok a.isNone w := by
 cases a <;> simp [Op.equalIn, run_underlying h]
theorem slices_Clone_int64_int64.eq {P : Program} (w : World) (t e : TypeId) (a : Option Addr) (l c : Nat) (h : P.underlying t = some (.slice e)) : (binOp .eql t (.slice a l c) (.slice none 0 0)).run P w = .ok (.bool a.isNone) w := by
 have h1 : (Op.equal t (.slice a l c) (.slice none 0 0)).run P w = .ok a.isNone w := slices_Clone_int64_int64.eqIn w 9999 t e a l c h
 simp only [binOp]
 simp [h1]
def slices_Clone_int64_int64.f (l0 : List Int) : Option (List Int) := if l0.length < 3518437208883 then some l0 else none
set_option maxHeartbeats 4000000 in
set_option maxRecDepth 100000 in
theorem slices_Clone_int64_int64.calls (A0 : Option Addr) (c0 : Nat) (l0 : List Int) (r : List Int) (w : World) (hr0 : Kd.C (Kd.int .i64) w A0 l0.length l0) (hc0 : l0.length ≤ c0) (h : slices_Clone_int64_int64.f l0 = some r) :
  Calls Try.prog 53 #[.slice A0 l0.length c0] w fun e w' => ∃ v0_ : Value, e = .returned (v0_) ∧ Kd.R (Kd.int .i64) 2 w' w.heap.size (fun _ => True) v0_ r ∧ Below w.heap.size w w' := by
 have hl : l0.length < 3518437208883 := by
  unfold slices_Clone_int64_int64.f at h
  split at h
  · assumption
  · cases h
 unfold slices_Clone_int64_int64.f at h
 rw [if_pos hl] at h
 obtain rfl := Option.some.inj h
 have hu52 := Try.underlying52
 have hu2 := Try.underlying2
 have HR0 := Aside0.mk hr0
 have HC0 := Aside0.mk hc0
 have LM := Aside0.mk hl
 have HB := Aside0.mk (Below.refl w.heap.size w)
 clear h hc0 hl
 cases A0 with
 | none =>
  have h0 : l0.length = 0 := by
   rcases Nat.eq_zero_or_pos l0.length with h0 | h0
   · exact h0
   · obtain ⟨ad, he, _⟩ := hr0.2.2 h0
     cases he
  obtain rfl : l0 = [] := List.eq_nil_of_length_eq_zero h0
  clear hr0 h0
  have hq := slices_Clone_int64_int64.eq (P := Try.prog) w 52 2 none 0 c0 Try.underlying52
  simp only [List.length_nil]
  go_enter Try.func53, Try.ntmps53
  go_wp2
  go_ret
  exact ⟨_, rfl, Kd.R_nil _ _ _ _ _, sH HB.out⟩
 | some ad =>
  clear hr0
  have hq := slices_Clone_int64_int64.eq (P := Try.prog) w 52 2 (some ad) l0.length c0 Try.underlying52
  go_enter Try.func53, Try.ntmps53
  go_wp2_with (first | ((with_reducible refine gate_dst (N := 5) rfl ?_); refine Kd.R_lit (Kd.int .i64) _ 2 ?hg (N := 5) ?hd (xs := ([] : List Int)) (inner := []) (ok := fun _ => True) (okp := fun _ => True) ?hr ?hp (fun _ hk => hk) trivial (Below.refl _ _) (Nat.le_refl _) (by simp) ?_; (case hd => rfl); (case hg => rfl); (case hr => first | (go_simp; done) | (go_simp; rfl)); (case hp => exact (Reps.none _ _)); intro v5 w5 ho hb hg_ hnew_; clear hg_ hnew_; have HO := Aside0.mk (Kd.R_lower ho HB.out.size); replace HB := sB HB hb; clear ho hb; obtain ⟨A5, c5, e5⟩ := Kd.R_slice HO.out; subst e5) | ((with_reducible refine gate_builtin (b := .append) (xs := #[.tmp 5, .tmp 6]) rfl ?_); at_builtin; refine Kd.R_append_rows (Kd.int .i64) (w0 := w) w.heap.size rfl (.tmp 5) (.tmp 6) 52 2 (.int .i64 0) 8 rfl Try.underlying52 info2 rfl (by decide) (by omega) (.slice A5 0 c5) [] l0 _ _ _ (fun _ => True) (fun _ => False) rfl rfl ?aO ?aR (fun _ _ h => h) (fun _ h => h.elim) ?aF ?aB ?aS ?aL ?_; (case aO => exact sE HO.out); (case aR => exact sD (Kd.C_below HR0.out HB.out)); (case aF => exact fun _ _ => trivial); (case aB => exact sH HB.out); (case aS => exact below_size (sH HB.out)); (case aL => have := LM.out; show (0 + l0.length) * 8 ≤ _; omega); intro v7 w7 ho hb hg hat; clear HO HB; have HO := Aside0.mk ho; have HB := Aside0.mk hb; clear ho hb hg hat))
  go_ret
  exact ⟨_, rfl, by have h9 := HO.out; rw [List.nil_append] at h9; exact sE h9, sH HB.out⟩
end Go.Proofs.Ytcppdkdnpmgpmaa.PFnExactEntryOf
