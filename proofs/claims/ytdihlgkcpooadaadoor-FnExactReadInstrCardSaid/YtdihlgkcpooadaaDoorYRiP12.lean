/- Printed functions: impl_ValidInstr, impl_InstrText. -/
import Derived.Test.YtdihlgkcpooadaaDoorYRiP0
import Derived.Test.YtdihlgkcpooadaaDoorYRiP8
import Derived.Test.YtdihlgkcpooadaaDoorYRiP9
import Derived.Test.YtdihlgkcpooadaaDoorYRiP10
import Derived.Test.YtdihlgkcpooadaaDoorYRiP11
import Derived.Test.YtdihlgkcpooadaaDoorYRiP13
namespace Go.Proofs.YtdihlgkcpooadaaDoor.PFnExactReadInstr
open Go.RowKit Go.Proofs.YtdihlgkcpooadaaDoorG Go.Proofs.YtdihlgkcpooadaaDoorW.PrintWords Go.Proofs.YtdihlgkcpooadaaDoorW.PrintLast Go.Proofs.YtdihlgkcpooadaaDoorW.PrintMore
attribute [local go_sem] max2_int min2_int max_two min_two max_three min_three max_four min_four   -- for this text's walks alone
set_option linter.unusedVariables false
set_option linter.unusedSimpArgs false
/-! ### impl_ValidInstr: function 20 -/
def impl_ValidInstr.j0 : Nat → Bool → Int → Int → ByteArray → ByteArray → Bool → Int → Int → Bool → Int → Int → Option (Bool)
 | 0, _, _, _, _, _, _, _, _, _, _, _ => none
 | k + 1, x4, x198000, x198001, x198002, x207000, x207001, x207002, x207003, x207004, x207005, x207006 => if x4 = true then ((impl_within.f x198001 x207002 x207003).bind fun t209 => (some t209)) else (some false)
def impl_ValidInstr.f (k : Nat) (a0_0 : Int) (a0_1 : Int) (a0_2 : ByteArray) : Option (Bool) := (impl_within.f a0_0 1 31).bind fun t198 => (if t198 = true then ((impl_Instr_form.f a0_0 a0_1 a0_2).bind fun bt199 => (if a0_0 = 2 then ((impl_CanQuote.f k a0_2).bind fun t207 => (impl_ValidInstr.j0 k t207 a0_0 a0_1 a0_2 bt199.1 bt199.2.1 bt199.2.2.1 bt199.2.2.2.1 bt199.2.2.2.2.1 bt199.2.2.2.2.2.1 bt199.2.2.2.2.2.2)) else (if bt199.2.2.2.2.1 = true then ((impl_IsName.f k a0_2).bind fun t208 => (impl_ValidInstr.j0 k t208 a0_0 a0_1 a0_2 bt199.1 bt199.2.1 bt199.2.2.1 bt199.2.2.2.1 bt199.2.2.2.2.1 bt199.2.2.2.2.2.1 bt199.2.2.2.2.2.2)) else (impl_ValidInstr.j0 k (a0_2.toList.isEmpty) a0_0 a0_1 a0_2 bt199.1 bt199.2.1 bt199.2.2.1 bt199.2.2.2.1 bt199.2.2.2.2.1 bt199.2.2.2.2.2.1 bt199.2.2.2.2.2.2)))) else (some false))
def impl_ValidInstr.T3 : Bool × List (List Nat × List Nat) := (true, [([], []), ([0], [0]), ([], []), ([2], [2]), ([3], [3]), ([], []), ([5, 1, 1, 0, 1, 5], [1, 5]), ([4, 6, 0, 1, 2, 3, 4, 5, 6], [4])])
def impl_ValidInstr.B3 : List Nat := [0, 1, 0, 4, 12, 0, 35, 127]
theorem impl_ValidInstr.tab3 : rtab .any (opsOf Tryd.f20 3) = impl_ValidInstr.T3 := by kernel_rfl
theorem impl_ValidInstr.bits3 : waitsOk impl_ValidInstr.T3.2 impl_ValidInstr.B3 = true := by kernel_rfl
set_option maxHeartbeats 8000000 in
set_option maxRecDepth 100000 in
theorem impl_ValidInstr.calls (k : Nat) (a0_0 : Int) (a0_1 : Int) (a0_2 : ByteArray) (r : Bool) (w : World) (h : impl_ValidInstr.f k a0_0 a0_1 a0_2 = some r) :
  Calls Tryd.prog 20 #[.agg #[.int .i64 a0_0, .int .i64 a0_1, .string a0_2]] w fun e w' => e = .returned (.bool r) ∧ Below w.heap.size w w' := by
 have hu23 := Tryd.underlying23
 have hu43 := Tryd.underlying43
 have HB := Aside0.mk (Below.refl w.heap.size w)
 have H : ((impl_within.f a0_0 1 31).bind fun t198 => (if t198 = true then ((impl_Instr_form.f a0_0 a0_1 a0_2).bind fun bt199 => (if a0_0 = 2 then ((impl_CanQuote.f k a0_2).bind fun t207 => (impl_ValidInstr.j0 k t207 a0_0 a0_1 a0_2 bt199.1 bt199.2.1 bt199.2.2.1 bt199.2.2.2.1 bt199.2.2.2.2.1 bt199.2.2.2.2.2.1 bt199.2.2.2.2.2.2)) else (if bt199.2.2.2.2.1 = true then ((impl_IsName.f k a0_2).bind fun t208 => (impl_ValidInstr.j0 k t208 a0_0 a0_1 a0_2 bt199.1 bt199.2.1 bt199.2.2.1 bt199.2.2.2.1 bt199.2.2.2.2.1 bt199.2.2.2.2.2.1 bt199.2.2.2.2.2.2)) else (impl_ValidInstr.j0 k (a0_2.toList.isEmpty) a0_0 a0_1 a0_2 bt199.1 bt199.2.1 bt199.2.2.1 bt199.2.2.2.1 bt199.2.2.2.2.1 bt199.2.2.2.2.2.1 bt199.2.2.2.2.2.2)))) else (some false))) = some r := h
 clear h
 obtain ⟨t198, A2, H⟩ := sO H
 by_cases c3 : t198 = true
 ·subst c3
  rewrite [if_pos rfl] at H
  replace H := Option.bind_eq_some_iff.mp H
  obtain ⟨⟨t199, t200, t201, t202, t203, t204, t205⟩, A40, H⟩ := H
  replace H : (if a0_0 = 2 then ((impl_CanQuote.f k a0_2).bind fun t207 => (impl_ValidInstr.j0 k t207 a0_0 a0_1 a0_2 t199 t200 t201 t202 t203 t204 t205)) else (if t203 = true then ((impl_IsName.f k a0_2).bind fun t208 => (impl_ValidInstr.j0 k t208 a0_0 a0_1 a0_2 t199 t200 t201 t202 t203 t204 t205)) else (impl_ValidInstr.j0 k (a0_2.toList.isEmpty) a0_0 a0_1 a0_2 t199 t200 t201 t202 t203 t204 t205))) = some r := H
  have A4 := Aside0.mk A40
  clear A40
  have HC5 := Aside0.mk H
  clear H
  go_enter Tryd.func20, Tryd.ntmps20
  try go_wp2_with (first | ((with_reducible refine gate_dst (N := 1) rfl ?_); refine sV (N := 1) (cs := #[.int .i64 a0_0, .int .i64 a0_1, .string a0_2]) (t := 23) ?_; intro gb197 hg w6 hbox hb; have n0_ := sB HB hb; have n1_ := Aside0.mk (hbox); have n2_ := sG HB hg; have n3_ := sG HB hg; clear HB; have HB := n0_; have BK197 := n1_; have GW197 := n2_; have GE197 := n3_; clear n0_ n1_ n2_ n3_; clear hb hbox hg; obtain ⟨hcz7_0, hcz7_1, hcz7_2, hfz7_0, hfz7_1, hfz7_2⟩ := cells3 BK197.out) | ((with_reducible refine gate_callee (f := 28) rfl ?_); refine sC (some 7) Tryd.func28 #[.int .i64 a0_0, .int .i64 1, .int .i64 31] (impl_within.calls a0_0 1 31 true _ A2.out) ?_; rintro e w' ⟨rfl, ⟨nd, rfl⟩⟩; refine ⟨_, rfl, ?_⟩; (try (rw [drewN_self w6]; generalize hq_ : World.drewN w6 _ = w6; have n0_ : Aside0 (w6.heap[gb197]? = some (.cells #[.int .i64 a0_0, .int .i64 a0_1, .string a0_2] 23 (0, 0))) := ⟨by rw [← hq_]; exact (sT BK197.out)⟩; have n1_ : Aside0 (Below w.heap.size w w6) := ⟨by rw [← hq_]; exact (by repeat (first | (with_reducible first | exact HB.out | apply below_alloc | apply pw_below_drewN | apply below_drew1 | refine below_set ?_ GE197.out) | exact HB.out))⟩; clear BK197 HB hq_; have BK197 := n0_; have HB := n1_; clear n0_ n1_)); obtain ⟨hrz197_0, hrz197_1, hrz197_2, hrf197_0, hrf197_1, hrf197_2⟩ := cells3 BK197.out))
  have n0_ := Aside0.mk (blk_drew BK197.out)
  have n1_ := Aside0.mk (below_drew1 HB.out)
  clear BK197
  clear HB
  have BK197 := n0_
  have HB := n1_
  clear n0_ n1_
  refine start_ (n := 8) (S := fun w' => w'.cell? ⟨gb197, 0, none⟩ = some (.int .i64 a0_0) ∧ w'.cell? ⟨gb197, 1, none⟩ = some (.int .i64 a0_1) ∧ w'.cell? ⟨gb197, 2, none⟩ = some (.string a0_2)) (ds := []) #[false, false, false, false, false, false, false, false] (by kernel_rfl) rfl rfl ⟨(blk_cell BK197.out 0).trans rfl, (blk_cell BK197.out 1).trans rfl, (blk_cell BK197.out 2).trans rfl⟩ (fun hHeld => ?_); refine with_tabW impl_ValidInstr.tab3 impl_ValidInstr.bits3 (fun HT_ HW_ => ?_)
  generalize w6.drew = w8 at BK197 HB hHeld ⊢
  refine pure_ (i := 2) (N := some 11) (v := ?_) (a' := ?_) (bN 8 4) rfl rfl (any_of HT_.out (by kernel_rfl)) (fun _ _ _ h => h) (Or.inl ⟨by rfl, ?_⟩) ?_ ?_
  rotate_left
  ·intro w'
   go_simp
   with_reducible rfl
  rotate_left
  ·simp only [Act.put, List.setIfInBounds_toArray, List.set_cons_zero, List.set_cons_succ, i64_w, i32_w]
   rfl
  refine take_ (i := 0) (N := some 9) (v := ?_) (a' := ?_) (bN 8 5) rfl rfl (take_ofW HT_.out HW_.out (by kernel_rfl)) (fun _ _ _ h => h) (Or.inl ⟨by rfl, ?_⟩) hHeld ?_ ?_
  rotate_left
  ·rintro w' ⟨s0, s1, s2⟩
   go_simp
   with_reducible rfl
  rotate_left
  ·simp only [Act.put, List.setIfInBounds_toArray, List.set_cons_zero, List.set_cons_succ, i64_w, i32_w]
   rfl
  refine take_ (i := 3) (N := some 12) (v := ?_) (a' := ?_) (bN 8 13) rfl rfl (take_ofW HT_.out HW_.out (by kernel_rfl)) (fun _ _ _ h => h) (Or.inl ⟨by rfl, ?_⟩) hHeld ?_ ?_
  rotate_left
  ·rintro w' ⟨s0, s1, s2⟩
   go_simp
   with_reducible rfl
  rotate_left
  ·simp only [Act.put, List.setIfInBounds_toArray, List.set_cons_zero, List.set_cons_succ, i64_w, i32_w]
   rfl
  refine pure_ (i := 4) (N := some 13) (v := ?_) (a' := ?_) (bN 8 29) rfl rfl (any_of HT_.out (by kernel_rfl)) (fun _ _ _ h => h) (Or.inl ⟨by rfl, ?_⟩) ?_ ?_
  rotate_left
  ·intro w'
   go_simp
   with_reducible rfl
  rotate_left
  ·simp only [Act.put, List.setIfInBounds_toArray, List.set_cons_zero, List.set_cons_succ, i64_w, i32_w]
   rfl
  refine join_ (σ := Nat) 2 (bN 8 63) (fun s_ => [(10, .agg #[.string t199, .bool t200, .int .i64 t201, .int .i64 t202, .bool t203, .int .i64 t204, .int .i64 t205]), (3, .pointer (some ⟨s_, 0, none⟩))]) (fun s_ w' => (w'.cell? ⟨gb197, 0, none⟩ = some (.int .i64 a0_0) ∧ w'.cell? ⟨gb197, 1, none⟩ = some (.int .i64 a0_1) ∧ w'.cell? ⟨gb197, 2, none⟩ = some (.string a0_2)) ∧ (w'.heap[gb197]? = some (.cells #[.int .i64 a0_0, .int .i64 a0_1, .string a0_2] 23 (0, 0))) ∧ (w'.heap[s_]? = some (.cells #[.string (⟨#[]⟩ : ByteArray), .bool false, .int .i64 0, .int .i64 0, .bool false, .int .i64 0, .int .i64 0] 43 (0, 0))) ∧ (w.heap.size ≤ s_) ∧ (w.heap.size ≤ s_) ∧ (gb197 ≠ s_) ∧ (s_ ≠ gb197) ∧ (Below w.heap.size w w')) ?_ ?_
  rotate_left
  ·intro hCont
   refine two_ (i := 1) (j := 5) (Ni := some 10) (Nj := some 3) (bN 8 31) (bN 8 61) rfl rfl rfl rfl (two_of HT_.out (by kernel_rfl)) (by decide) (by decide) (fun K hK => ?_) (fun K hK => ?_)
   ·skip
    refine goes_ Tryd.func17 (by kernel_rfl) rfl #[.agg #[.int .i64 a0_0, .int .i64 a0_1, .string a0_2]] (by rfl) rfl rfl (by (try simp only [List.map_toArray, List.map_cons, List.map_nil]); first | done | rfl | (simp only [List.length_drop, List.length_take]; rfl)) ?_
    with_reducible refine (impl_Instr_form.calls a0_0 a0_1 a0_2 t199 t200 t201 t202 t203 t204 t205 _ A4.out).mono ?_
    rintro e w9 ⟨rfl, hb⟩
    refine ⟨_, rfl, ?_⟩
    have n0_ := sK BK197 hb
    have n1_ := sB HB hb
    clear BK197
    clear HB
    have BK197 := n0_
    have HB := n1_
    clear n0_ n1_
    (try clear hb)
    (try clear hb2)
    (try clear hk)
    (try clear hi)
    refine hK.out _ _ ⟨(blk_cell BK197.out 0).trans rfl, (blk_cell BK197.out 1).trans rfl, (blk_cell BK197.out 2).trans rfl⟩ (fun hHeld => ?_)
    clear hK K
    refine norm_ (a' := ?_) ?_ ?_
    rotate_left
    ·show Act.put _ (some 10) _ = _
     simp only [Act.put, List.setIfInBounds_toArray, List.set_cons_zero, List.set_cons_succ, i64_w, i32_w]
     rfl
    refine one_ (i := 5) (N := some 3) (bN 8 63) rfl rfl (one_of HT_.out (by kernel_rfl)) (by decide) (fun K hK => ?_)
    refine box_step ?hg (N := 3) ?hd (cs := #[.string (⟨#[]⟩ : ByteArray), .bool false, .int .i64 0, .int .i64 0, .bool false, .int .i64 0, .int .i64 0]) (t := 43) ?hr ?_; (case hd => rfl); (case hg => rfl); (case hr => first | (go_simp; done) | (go_simp; rfl))
    intro gb206 hg w10 hbox hb
    have n0_ := sK BK197 hb
    have n1_ := sB HB hb
    have n2_ := Aside0.mk (hbox)
    have n3_ := sG HB hg
    have n4_ := sG HB hg
    have n5_ := sN BK197 hg
    have n6_ := sM BK197 hg
    clear BK197
    clear HB
    have BK197 := n0_
    have HB := n1_
    have BK206 := n2_
    have GW206 := n3_
    have GE206 := n4_
    have NB197_206 := n5_
    have NB206_197 := n6_
    clear n0_ n1_ n2_ n3_ n4_ n5_ n6_
    clear hb hbox hg
    refine hK.out _ _ ⟨(blk_cell BK197.out 0).trans rfl, (blk_cell BK197.out 1).trans rfl, (blk_cell BK197.out 2).trans rfl⟩ (fun hHeld => ?_)
    clear hK K
    refine norm_ (a' := ?_) ?_ ?_
    rotate_left
    ·show Act.put _ (some 3) _ = _
     simp only [Act.put, List.setIfInBounds_toArray, List.set_cons_zero, List.set_cons_succ, i64_w, i32_w]
     rfl
    exact norm_ (by simp only [putAll, Act.put, List.setIfInBounds_toArray, List.set_cons_zero, List.set_cons_succ]) (hCont (gb206) _ ⟨hHeld, (sT BK197.out), (sT BK206.out), GW206.out, GE206.out, NB197_206.out, NB206_197.out, (by repeat (first | (with_reducible first | exact HB.out | apply below_alloc | apply pw_below_drewN | apply below_drew1 | refine below_set ?_ GE197.out | refine below_set ?_ GE206.out) | exact HB.out))⟩)
   ·skip
    refine box_step ?hg (N := 3) ?hd (cs := #[.string (⟨#[]⟩ : ByteArray), .bool false, .int .i64 0, .int .i64 0, .bool false, .int .i64 0, .int .i64 0]) (t := 43) ?hr ?_; (case hd => rfl); (case hg => rfl); (case hr => first | (go_simp; done) | (go_simp; rfl))
    intro gb206 hg w9 hbox hb
    have n0_ := sK BK197 hb
    have n1_ := sB HB hb
    have n2_ := Aside0.mk (hbox)
    have n3_ := sG HB hg
    have n4_ := sG HB hg
    have n5_ := sN BK197 hg
    have n6_ := sM BK197 hg
    clear BK197
    clear HB
    have BK197 := n0_
    have HB := n1_
    have BK206 := n2_
    have GW206 := n3_
    have GE206 := n4_
    have NB197_206 := n5_
    have NB206_197 := n6_
    clear n0_ n1_ n2_ n3_ n4_ n5_ n6_
    clear hb hbox hg
    refine hK.out _ _ ⟨(blk_cell BK197.out 0).trans rfl, (blk_cell BK197.out 1).trans rfl, (blk_cell BK197.out 2).trans rfl⟩ (fun hHeld => ?_)
    clear hK K
    refine norm_ (a' := ?_) ?_ ?_
    rotate_left
    ·show Act.put _ (some 3) _ = _
     simp only [Act.put, List.setIfInBounds_toArray, List.set_cons_zero, List.set_cons_succ, i64_w, i32_w]
     rfl
    refine one_ (i := 1) (N := some 10) (bN 8 63) rfl rfl (one_of HT_.out (by kernel_rfl)) (by decide) (fun K hK => ?_)
    refine goes_ Tryd.func17 (by kernel_rfl) rfl #[.agg #[.int .i64 a0_0, .int .i64 a0_1, .string a0_2]] (by rfl) rfl rfl (by (try simp only [List.map_toArray, List.map_cons, List.map_nil]); first | done | rfl | (simp only [List.length_drop, List.length_take]; rfl)) ?_
    with_reducible refine (impl_Instr_form.calls a0_0 a0_1 a0_2 t199 t200 t201 t202 t203 t204 t205 _ A4.out).mono ?_
    rintro e w10 ⟨rfl, hb⟩
    refine ⟨_, rfl, ?_⟩
    have n0_ := sK BK197 hb
    have n1_ := sK BK206 hb
    have n2_ := sB HB hb
    clear BK197
    clear BK206
    clear HB
    have BK197 := n0_
    have BK206 := n1_
    have HB := n2_
    clear n0_ n1_ n2_
    (try clear hb)
    (try clear hb2)
    (try clear hk)
    (try clear hi)
    refine hK.out _ _ ⟨(blk_cell BK197.out 0).trans rfl, (blk_cell BK197.out 1).trans rfl, (blk_cell BK197.out 2).trans rfl⟩ (fun hHeld => ?_)
    clear hK K
    refine norm_ (a' := ?_) ?_ ?_
    rotate_left
    ·show Act.put _ (some 10) _ = _
     simp only [Act.put, List.setIfInBounds_toArray, List.set_cons_zero, List.set_cons_succ, i64_w, i32_w]
     rfl
    exact norm_ (by simp only [putAll, Act.put, List.setIfInBounds_toArray, List.set_cons_zero, List.set_cons_succ]) (hCont (gb206) _ ⟨hHeld, (sT BK197.out), (sT BK206.out), GW206.out, GE206.out, NB197_206.out, NB206_197.out, (by repeat (first | (with_reducible first | exact HB.out | apply below_alloc | apply pw_below_drewN | apply below_drew1 | refine below_set ?_ GE197.out | refine below_set ?_ GE206.out) | exact HB.out))⟩)
  rintro gb206 w11 ⟨hS_, h0_, h1_, h2_, h3_, h4_, h5_, h6_⟩
  have n0_ : Aside0 (w11.heap[gb197]? = some (.cells #[.int .i64 a0_0, .int .i64 a0_1, .string a0_2] 23 (0, 0))) := ⟨h0_⟩
  have n1_ : Aside0 (w11.heap[gb206]? = some (.cells #[.string (⟨#[]⟩ : ByteArray), .bool false, .int .i64 0, .int .i64 0, .bool false, .int .i64 0, .int .i64 0] 43 (0, 0))) := ⟨h1_⟩
  have n2_ : Aside0 (w.heap.size ≤ gb206) := ⟨h2_⟩
  have n3_ : Aside0 (w.heap.size ≤ gb206) := ⟨h3_⟩
  have n4_ : Aside0 (gb197 ≠ gb206) := ⟨h4_⟩
  have n5_ : Aside0 (gb206 ≠ gb197) := ⟨h5_⟩
  have n6_ : Aside0 (Below w.heap.size w w11) := ⟨h6_⟩
  clear BK197
  clear HB
  clear h0_ h1_ h2_ h3_ h4_ h5_ h6_
  have BK197 := n0_
  have BK206 := n1_
  have GW206 := n2_
  have GE206 := n3_
  have NB197_206 := n4_
  have NB206_197 := n5_
  have HB := n6_
  clear n0_ n1_ n2_ n3_ n4_ n5_ n6_
  have hHeld : w11.cell? ⟨gb197, 0, none⟩ = some (.int .i64 a0_0) ∧ w11.cell? ⟨gb197, 1, none⟩ = some (.int .i64 a0_1) ∧ w11.cell? ⟨gb197, 2, none⟩ = some (.string a0_2) := hS_
  refine norm_ (a' := ?_) ?_ ?_
  rotate_left
  ·simp only [putAll, Act.put, List.setIfInBounds_toArray, List.set_cons_zero, List.set_cons_succ]
   rfl
  refine one_ (i := 6) (N := none) (bN 8 127) rfl rfl (one_of HT_.out (by kernel_rfl)) (by decide) (fun K hK => ?_)
  have hs12 : w11.cell? ⟨gb206, 0, none⟩ = some (.string (⟨#[]⟩ : ByteArray)) := (blk_cell BK206.out 0).trans rfl
  have hfs12 := blk_frozen BK206.out 0
  have hns12_0 := NB197_206.out
  have hms12_0 := NB206_197.out
  have hs13 : w11.cell? ⟨gb206, 1, none⟩ = some (.bool false) := (blk_cell BK206.out 1).trans rfl
  have hfs13 := blk_frozen BK206.out 1
  have hns13_0 := NB197_206.out
  have hms13_0 := NB206_197.out
  have hs14 : w11.cell? ⟨gb206, 2, none⟩ = some (.int .i64 0) := (blk_cell BK206.out 2).trans rfl
  have hfs14 := blk_frozen BK206.out 2
  have hns14_0 := NB197_206.out
  have hms14_0 := NB206_197.out
  have hs15 : w11.cell? ⟨gb206, 3, none⟩ = some (.int .i64 0) := (blk_cell BK206.out 3).trans rfl
  have hfs15 := blk_frozen BK206.out 3
  have hns15_0 := NB197_206.out
  have hms15_0 := NB206_197.out
  have hs16 : w11.cell? ⟨gb206, 4, none⟩ = some (.bool false) := (blk_cell BK206.out 4).trans rfl
  have hfs16 := blk_frozen BK206.out 4
  have hns16_0 := NB197_206.out
  have hms16_0 := NB206_197.out
  have hs17 : w11.cell? ⟨gb206, 5, none⟩ = some (.int .i64 0) := (blk_cell BK206.out 5).trans rfl
  have hfs17 := blk_frozen BK206.out 5
  have hns17_0 := NB197_206.out
  have hms17_0 := NB206_197.out
  have hs18 : w11.cell? ⟨gb206, 6, none⟩ = some (.int .i64 0) := (blk_cell BK206.out 6).trans rfl
  have hfs18 := blk_frozen BK206.out 6
  have hns18_0 := NB197_206.out
  have hms18_0 := NB206_197.out
  refine skip_ (w1 := ?_) (by rfl) rfl ?_ ?_
  rotate_left
  ·go_simp
   rfl
  refine hK.out _ _ ⟨(sQ7 (g := gb206) NB197_206.out (hHeld.1)), (sQ7 (g := gb206) NB197_206.out (hHeld.2.1)), (sQ7 (g := gb206) NB197_206.out (hHeld.2.2))⟩ (fun hHeld => ?_)
  clear hK K
  refine pure_ (i := 7) (N := some 4) (v := ?_) (a' := ?_) (bN 8 255) rfl rfl (any_of HT_.out (by kernel_rfl)) (fun _ _ _ h => h) (Or.inl ⟨by rfl, ?_⟩) ?_ ?_
  rotate_left
  ·intro w'
   go_simp
   with_reducible rfl
  rotate_left
  ·simp only [Act.put, List.setIfInBounds_toArray, List.set_cons_zero, List.set_cons_succ, i64_w, i32_w]
   rfl
  refine done_ (done_of HT_.out (by kernel_rfl)) ?_
  go_upto_block 0 with (fail)
  go_cut [4] (fun v4 wc => ∃ (kq : Nat) (x4_4 : Bool), v4 = .bool x4_4 ∧ Aside0 (impl_ValidInstr.j0 kq x4_4 a0_0 a0_1 a0_2 t199 t200 t201 t202 t203 t204 t205 = some r) ∧ Aside0 (kq ≤ k) ∧ Aside0 (wc.heap[gb197]? = some (.cells #[.int .i64 a0_0, .int .i64 a0_1, .string a0_2] 23 (0, 0))) ∧ Aside0 (wc.heap[gb206]? = some (.cells #[.string t199, .bool t200, .int .i64 t201, .int .i64 t202, .bool t203, .int .i64 t204, .int .i64 t205] 43 (0, 0))) ∧ Aside0 (Below w.heap.size w wc))
  case first =>
   have H := HC5.out
   clear HC5
   by_cases c19 : a0_0 = 2
   ·rw [if_pos c19] at H
    have c19b0 : (a0_0 == 2) = true := beq_iff_eq.mpr c19
    have c19b1 : (a0_0 != 2) = false := bne_eq_false_iff_eq.mpr c19
    clear c19
    (first | rw [c19b0] | (simp only [i64_w, i32_w]; rw [c19b0]) | rw [c19b2] | skip)
    obtain ⟨t207, A20, H⟩ := sO H
    have H' := Aside0.mk H
    clear H
    have hnb21 := NB197_206.out
    have hnc21 := NB206_197.out
    obtain ⟨hcz22_0, hcz22_1, hcz22_2, hfz22_0, hfz22_1, hfz22_2⟩ := cells3 BK197.out
    go_wp2_with (first | ((with_reducible refine gate_callee (f := 29) rfl ?_); refine sC (some 20) Tryd.func29 #[.string a0_2] (impl_CanQuote.calls k a0_2 t207 _ A20.out) ?_; rintro e w23 ⟨rfl, hb⟩; refine ⟨_, rfl, ?_⟩; have n0_ := Aside0.mk (blk_below (g := gb197) (o := .cells #[.int .i64 a0_0, .int .i64 a0_1, .string a0_2] 23 (0, 0)) (by (with_reducible repeat (first | refine blk_drewN ?_ _ | refine blk_drew ?_ | refine blk_alloc ?_ _)); refine blk_far ?_ NB197_206.out _; (with_reducible repeat (first | refine blk_drewN ?_ _ | refine blk_drew ?_ | refine blk_alloc ?_ _)); refine blk_far ?_ NB197_206.out _; (with_reducible repeat (first | refine blk_drewN ?_ _ | refine blk_drew ?_ | refine blk_alloc ?_ _)); refine blk_far ?_ NB197_206.out _; (with_reducible repeat (first | refine blk_drewN ?_ _ | refine blk_drew ?_ | refine blk_alloc ?_ _)); refine blk_far ?_ NB197_206.out _; (with_reducible repeat (first | refine blk_drewN ?_ _ | refine blk_drew ?_ | refine blk_alloc ?_ _)); refine blk_far ?_ NB197_206.out _; (with_reducible repeat (first | refine blk_drewN ?_ _ | refine blk_drew ?_ | refine blk_alloc ?_ _)); refine blk_far ?_ NB197_206.out _; (with_reducible repeat (first | refine blk_drewN ?_ _ | refine blk_drew ?_ | refine blk_alloc ?_ _)); refine blk_far ?_ NB197_206.out _; exact sT BK197.out) hb); have n1_ := Aside0.mk (blk_below (g := gb206) (o := .cells #[.string t199, .bool t200, .int .i64 t201, .int .i64 t202, .bool t203, .int .i64 t204, .int .i64 t205] 43 (0, 0)) (by exact sP7 (sT BK206.out)) hb); have n2_ := sB HB hb; clear BK197; clear BK206; clear HB; have BK197 := n0_; have BK206 := n1_; have HB := n2_; clear n0_ n1_ n2_; (try clear hb); (try clear hb2); (try clear hk); (try clear hi)))
    go_meet
    case rel => exact ⟨_, (t207), sr, H', ⟨by first | omega | exact Nat.le_refl _⟩, ⟨by exact sT BK197.out⟩, ⟨by exact sT BK206.out⟩, ⟨sb⟩⟩
   rw [if_neg c19] at H
   have c19b0 : (a0_0 == 2) = false := beq_eq_false_iff_ne.mpr c19
   have c19b1 : (a0_0 != 2) = true := bne_iff_ne.mpr c19
   (first | rw [c19b0] | (simp only [i64_w, i32_w]; rw [c19b0]) | rw [c19b2] | skip)
   by_cases c24 : t203 = true
   ·subst c24
    rewrite [if_pos rfl] at H
    obtain ⟨t208, A25, H⟩ := sO H
    have H' := Aside0.mk H
    clear H
    have hnb26 := NB197_206.out
    have hnc26 := NB206_197.out
    obtain ⟨hcz27_0, hcz27_1, hcz27_2, hfz27_0, hfz27_1, hfz27_2⟩ := cells3 BK197.out
    obtain ⟨hcz28_0, hcz28_1, hcz28_2, hcz28_3, hcz28_4, hcz28_5, hcz28_6, hfz28_0, hfz28_1, hfz28_2, hfz28_3, hfz28_4, hfz28_5, hfz28_6⟩ := cells7 BK206.out
    go_wp2_with (first | ((with_reducible refine gate_callee (f := 30) rfl ?_); refine sC (some 26) Tryd.func30 #[.string a0_2] (impl_IsName.calls k a0_2 t208 _ A25.out) ?_; rintro e w29 ⟨rfl, hb⟩; refine ⟨_, rfl, ?_⟩; have n0_ := Aside0.mk (blk_below (g := gb197) (o := .cells #[.int .i64 a0_0, .int .i64 a0_1, .string a0_2] 23 (0, 0)) (by (with_reducible repeat (first | refine blk_drewN ?_ _ | refine blk_drew ?_ | refine blk_alloc ?_ _)); refine blk_far ?_ NB197_206.out _; (with_reducible repeat (first | refine blk_drewN ?_ _ | refine blk_drew ?_ | refine blk_alloc ?_ _)); refine blk_far ?_ NB197_206.out _; (with_reducible repeat (first | refine blk_drewN ?_ _ | refine blk_drew ?_ | refine blk_alloc ?_ _)); refine blk_far ?_ NB197_206.out _; (with_reducible repeat (first | refine blk_drewN ?_ _ | refine blk_drew ?_ | refine blk_alloc ?_ _)); refine blk_far ?_ NB197_206.out _; (with_reducible repeat (first | refine blk_drewN ?_ _ | refine blk_drew ?_ | refine blk_alloc ?_ _)); refine blk_far ?_ NB197_206.out _; (with_reducible repeat (first | refine blk_drewN ?_ _ | refine blk_drew ?_ | refine blk_alloc ?_ _)); refine blk_far ?_ NB197_206.out _; (with_reducible repeat (first | refine blk_drewN ?_ _ | refine blk_drew ?_ | refine blk_alloc ?_ _)); refine blk_far ?_ NB197_206.out _; exact sT BK197.out) hb); have n1_ := Aside0.mk (blk_below (g := gb206) (o := .cells #[.string t199, .bool t200, .int .i64 t201, .int .i64 t202, .bool true, .int .i64 t204, .int .i64 t205] 43 (0, 0)) (by exact sP7 (sT BK206.out)) hb); have n2_ := sB HB hb; clear BK197; clear BK206; clear HB; have BK197 := n0_; have BK206 := n1_; have HB := n2_; clear n0_ n1_ n2_; (try clear hb); (try clear hb2); (try clear hk); (try clear hi)))
    go_meet
    case rel => exact ⟨_, (t208), sr, H', ⟨by first | omega | exact Nat.le_refl _⟩, ⟨by exact sT BK197.out⟩, ⟨by exact sT BK206.out⟩, ⟨sb⟩⟩
   replace c24 := Bool.eq_false_iff.mpr c24
   subst c24
   rewrite [if_neg (show ¬ (false = true) by decide)] at H
   have H' := Aside0.mk H
   clear H
   have hnb30 := NB197_206.out
   have hnc30 := NB206_197.out
   obtain ⟨hcz31_0, hcz31_1, hcz31_2, hfz31_0, hfz31_1, hfz31_2⟩ := cells3 BK197.out
   obtain ⟨hcz32_0, hcz32_1, hcz32_2, hcz32_3, hcz32_4, hcz32_5, hcz32_6, hfz32_0, hfz32_1, hfz32_2, hfz32_3, hfz32_4, hfz32_5, hfz32_6⟩ := cells7 BK206.out
   go_wp2
   go_meet
   case rel => exact ⟨_, ((a0_2.toList.isEmpty)), sr, H', ⟨by first | omega | exact Nat.le_refl _⟩, ⟨by (with_reducible repeat (first | refine blk_drewN ?_ _ | refine blk_drew ?_ | refine blk_alloc ?_ _)); refine blk_far ?_ NB197_206.out _; (with_reducible repeat (first | refine blk_drewN ?_ _ | refine blk_drew ?_ | refine blk_alloc ?_ _)); refine blk_far ?_ NB197_206.out _; (with_reducible repeat (first | refine blk_drewN ?_ _ | refine blk_drew ?_ | refine blk_alloc ?_ _)); refine blk_far ?_ NB197_206.out _; (with_reducible repeat (first | refine blk_drewN ?_ _ | refine blk_drew ?_ | refine blk_alloc ?_ _)); refine blk_far ?_ NB197_206.out _; (with_reducible repeat (first | refine blk_drewN ?_ _ | refine blk_drew ?_ | refine blk_alloc ?_ _)); refine blk_far ?_ NB197_206.out _; (with_reducible repeat (first | refine blk_drewN ?_ _ | refine blk_drew ?_ | refine blk_alloc ?_ _)); refine blk_far ?_ NB197_206.out _; (with_reducible repeat (first | refine blk_drewN ?_ _ | refine blk_drew ?_ | refine blk_alloc ?_ _)); refine blk_far ?_ NB197_206.out _; exact sT BK197.out⟩, ⟨by exact sP7 (sT BK206.out)⟩, ⟨sb⟩⟩
  case rest =>
   clear HC5
   try clear c1
   try clear c2
   try clear p2
   try clear c3
   try clear c17
   try clear c19
   try clear c19b0
   try clear c19b1
   try clear c19b2
   try clear c20
   try clear c21
   try clear c24
   try clear c26
   try clear c28
   try clear c29
   try clear c30
   try clear hcz22_0
   try clear hcz22_1
   try clear hcz22_2
   try clear hcz27_0
   try clear hcz27_1
   try clear hcz27_2
   try clear hcz28_0
   try clear hcz28_1
   try clear hcz28_2
   try clear hcz28_3
   try clear hcz28_4
   try clear hcz28_5
   try clear hcz28_6
   try clear hcz31_0
   try clear hcz31_1
   try clear hcz31_2
   try clear hcz32_0
   try clear hcz32_1
   try clear hcz32_2
   try clear hcz32_3
   try clear hcz32_4
   try clear hcz32_5
   try clear hcz32_6
   try clear hcz7_0
   try clear hcz7_1
   try clear hcz7_2
   try clear hfz22_0
   try clear hfz22_1
   try clear hfz22_2
   try clear hfz27_0
   try clear hfz27_1
   try clear hfz27_2
   try clear hfz28_0
   try clear hfz28_1
   try clear hfz28_2
   try clear hfz28_3
   try clear hfz28_4
   try clear hfz28_5
   try clear hfz28_6
   try clear hfz31_0
   try clear hfz31_1
   try clear hfz31_2
   try clear hfz32_0
   try clear hfz32_1
   try clear hfz32_2
   try clear hfz32_3
   try clear hfz32_4
   try clear hfz32_5
   try clear hfz32_6
   try clear hfz7_0
   try clear hfz7_1
   try clear hfz7_2
   obtain ⟨kq, x4_4, rfl, HA, HJ4, BK197, BK206, HB⟩ := hcut
   cases kq with
   | zero => exact absurd HA.out (by simp [impl_ValidInstr.j0])
   | succ kj4 =>
    have H := HA.out
    clear HA
    simp only [impl_ValidInstr.j0] at H
    by_cases c33 : x4_4 = true
    ·subst c33
     rewrite [if_pos rfl] at H
     obtain ⟨t209, A34, H⟩ := sO H
     obtain rfl := Option.some.inj H
     have hnb35 := NB197_206.out
     have hnc35 := NB206_197.out
     obtain ⟨hcz36_0, hcz36_1, hcz36_2, hfz36_0, hfz36_1, hfz36_2⟩ := cells3 BK197.out
     obtain ⟨hcz37_0, hcz37_1, hcz37_2, hcz37_3, hcz37_4, hcz37_5, hcz37_6, hfz37_0, hfz37_1, hfz37_2, hfz37_3, hfz37_4, hfz37_5, hfz37_6⟩ := cells7 BK206.out
     go_wp2_with (first | (go_at_call 28; (with_reducible refine (impl_within.calls a0_1 t201 t202 t209 _ A34.out).mono ?_); rintro e w' ⟨rfl, ⟨nd, rfl⟩⟩))
     go_ret
     exact ⟨sq, sb⟩
    replace c33 := Bool.eq_false_iff.mpr c33
    subst c33
    rewrite [if_neg (show ¬ (false = true) by decide)] at H
    obtain rfl := Option.some.inj H
    go_wp2
    go_ret
    exact ⟨sq, sb⟩
 replace c3 := Bool.eq_false_iff.mpr c3
 subst c3
 rewrite [if_neg (show ¬ (false = true) by decide)] at H
 obtain rfl := Option.some.inj H
 go_enter Tryd.func20, Tryd.ntmps20
 go_wp2_with (first | ((with_reducible refine gate_dst (N := 1) rfl ?_); refine sV (N := 1) (cs := #[.int .i64 a0_0, .int .i64 a0_1, .string a0_2]) (t := 23) ?_; intro gb197 hg w38 hbox hb; have n0_ := sB HB hb; have n1_ := Aside0.mk (hbox); have n2_ := sG HB hg; have n3_ := sG HB hg; clear HB; have HB := n0_; have BK197 := n1_; have GW197 := n2_; have GE197 := n3_; clear n0_ n1_ n2_ n3_; clear hb hbox hg; obtain ⟨hcz39_0, hcz39_1, hcz39_2, hfz39_0, hfz39_1, hfz39_2⟩ := cells3 BK197.out) | ((with_reducible refine gate_callee (f := 28) rfl ?_); refine sC (some 7) Tryd.func28 #[.int .i64 a0_0, .int .i64 1, .int .i64 31] (impl_within.calls a0_0 1 31 false _ A2.out) ?_; rintro e w' ⟨rfl, ⟨nd, rfl⟩⟩; refine ⟨_, rfl, ?_⟩))
 go_ret
 exact ⟨sq, sb⟩

/-! ### impl_InstrText: function 21 -/
def impl_InstrText.j0 : Nat → ByteArray → Int → Int → ByteArray → ByteArray → Bool → Int → Int → Bool → Int → Int → Option (ByteArray)
 | 0, _, _, _, _, _, _, _, _, _, _, _ => none
 | k + 1, x4, x214000, x214001, x214002, x223000, x223001, x223002, x223003, x223004, x223005, x223006 => if x214000 = 2 then ((impl_QuoteString.f k x214002).bind fun t224 => (if 1 + t224.size ≤ 9223372036854775807 then (if x4.size + (1 + t224.size) ≤ 9223372036854775807 then (some (x4 ++ ((⟨#[32]⟩ : ByteArray) ++ t224))) else (none)) else (none))) else (if x223004 = true then (if 1 + x214002.size ≤ 9223372036854775807 then (if x4.size + (1 + x214002.size) ≤ 9223372036854775807 then (some (x4 ++ ((⟨#[32]⟩ : ByteArray) ++ x214002))) else (none)) else (none)) else (some x4))
def impl_InstrText.f (k : Nat) (a0_0 : Int) (a0_1 : Int) (a0_2 : ByteArray) : Option (ByteArray) := (impl_ValidInstr.f k a0_0 a0_1 a0_2).bind fun t214 => (if t214 = true then ((impl_Instr_form.f a0_0 a0_1 a0_2).bind fun bt215 => (if bt215.2.1 = true then ((impl_decimal.f a0_1).bind fun t223 => (if 1 + t223.size ≤ 9223372036854775807 then (if bt215.1.size + (1 + t223.size) ≤ 9223372036854775807 then (impl_InstrText.j0 k (bt215.1 ++ ((⟨#[32]⟩ : ByteArray) ++ t223)) a0_0 a0_1 a0_2 bt215.1 bt215.2.1 bt215.2.2.1 bt215.2.2.2.1 bt215.2.2.2.2.1 bt215.2.2.2.2.2.1 bt215.2.2.2.2.2.2) else (none)) else (none))) else (impl_InstrText.j0 k bt215.1 a0_0 a0_1 a0_2 bt215.1 bt215.2.1 bt215.2.2.1 bt215.2.2.2.1 bt215.2.2.2.2.1 bt215.2.2.2.2.2.1 bt215.2.2.2.2.2.2))) else (some (⟨#[]⟩ : ByteArray)))
set_option maxHeartbeats 8000000 in
set_option maxRecDepth 100000 in
theorem impl_InstrText.calls (k : Nat) (a0_0 : Int) (a0_1 : Int) (a0_2 : ByteArray) (r : ByteArray) (w : World) (h : impl_InstrText.f k a0_0 a0_1 a0_2 = some r) (HT : EnvT w) :
  Calls Tryd.prog 21 #[.agg #[.int .i64 a0_0, .int .i64 a0_1, .string a0_2]] w fun e w' => e = .returned (.string r) ∧ Below w.heap.size w w' := by
 have hu23 := Tryd.underlying23
 have hu43 := Tryd.underlying43
 have HB := Aside0.mk (Below.refl w.heap.size w)
 have H : ((impl_ValidInstr.f k a0_0 a0_1 a0_2).bind fun t214 => (if t214 = true then ((impl_Instr_form.f a0_0 a0_1 a0_2).bind fun bt215 => (if bt215.2.1 = true then ((impl_decimal.f a0_1).bind fun t223 => (if 1 + t223.size ≤ 9223372036854775807 then (if bt215.1.size + (1 + t223.size) ≤ 9223372036854775807 then (impl_InstrText.j0 k (bt215.1 ++ ((⟨#[32]⟩ : ByteArray) ++ t223)) a0_0 a0_1 a0_2 bt215.1 bt215.2.1 bt215.2.2.1 bt215.2.2.2.1 bt215.2.2.2.2.1 bt215.2.2.2.2.2.1 bt215.2.2.2.2.2.2) else (none)) else (none))) else (impl_InstrText.j0 k bt215.1 a0_0 a0_1 a0_2 bt215.1 bt215.2.1 bt215.2.2.1 bt215.2.2.2.1 bt215.2.2.2.2.1 bt215.2.2.2.2.2.1 bt215.2.2.2.2.2.2))) else (some (⟨#[]⟩ : ByteArray)))) = some r := h
 clear h
 obtain ⟨t214, A2, H⟩ := sO H
 by_cases c3 : t214 = true
 ·subst c3
  rewrite [if_pos rfl] at H
  replace H := Option.bind_eq_some_iff.mp H
  obtain ⟨⟨t215, t216, t217, t218, t219, t220, t221⟩, A40, H⟩ := H
  replace H : (if t216 = true then ((impl_decimal.f a0_1).bind fun t223 => (if 1 + t223.size ≤ 9223372036854775807 then (if t215.size + (1 + t223.size) ≤ 9223372036854775807 then (impl_InstrText.j0 k (t215 ++ ((⟨#[32]⟩ : ByteArray) ++ t223)) a0_0 a0_1 a0_2 t215 t216 t217 t218 t219 t220 t221) else (none)) else (none))) else (impl_InstrText.j0 k t215 a0_0 a0_1 a0_2 t215 t216 t217 t218 t219 t220 t221)) = some r := H
  have A4 := Aside0.mk A40
  clear A40
  have HC5 := Aside0.mk H
  clear H
  go_enter Tryd.func21, Tryd.ntmps21
  go_upto_if 13 with (first | ((with_reducible refine gate_dst (N := 1) rfl ?_); refine sV (N := 1) (cs := #[.int .i64 a0_0, .int .i64 a0_1, .string a0_2]) (t := 23) ?_; intro gb213 hg w6 hbox hb; have n0_ := sB HB hb; have n1_ := Aside0.mk (hbox); have n2_ := sG HB hg; have n3_ := sG HB hg; clear HB; have HB := n0_; have BK213 := n1_; have GW213 := n2_; have GE213 := n3_; clear n0_ n1_ n2_ n3_; clear hb hbox hg; obtain ⟨hcz7_0, hcz7_1, hcz7_2, hfz7_0, hfz7_1, hfz7_2⟩ := cells3 BK213.out) | ((with_reducible refine gate_callee (f := 20) rfl ?_); refine sC (some 6) Tryd.func20 #[.agg #[.int .i64 a0_0, .int .i64 a0_1, .string a0_2]] (impl_ValidInstr.calls k a0_0 a0_1 a0_2 true _ A2.out) ?_; rintro e w8 ⟨rfl, hb⟩; refine ⟨_, rfl, ?_⟩; have n0_ := sK BK213 hb; have n1_ := sB HB hb; clear BK213; clear HB; have BK213 := n0_; have HB := n1_; clear n0_ n1_; (try clear hb); (try clear hb2); (try clear hk); (try clear hi); obtain ⟨hcz9_0, hcz9_1, hcz9_2, hfz9_0, hfz9_1, hfz9_2⟩ := cells3 BK213.out) | ((with_reducible refine gate_callee (f := 17) rfl ?_); refine sC (some 9) Tryd.func17 #[.agg #[.int .i64 a0_0, .int .i64 a0_1, .string a0_2]] (impl_Instr_form.calls a0_0 a0_1 a0_2 t215 t216 t217 t218 t219 t220 t221 _ A4.out) ?_; rintro e w10 ⟨rfl, hb⟩; refine ⟨_, rfl, ?_⟩; have n0_ := sK BK213 hb; have n1_ := sB HB hb; clear BK213; clear HB; have BK213 := n0_; have HB := n1_; clear n0_ n1_; (try clear hb); (try clear hb2); (try clear hk); (try clear hi)) | ((with_reducible refine gate_dst (N := 3) rfl ?_); refine sV (N := 3) (cs := #[.string (⟨#[]⟩ : ByteArray), .bool false, .int .i64 0, .int .i64 0, .bool false, .int .i64 0, .int .i64 0]) (t := 43) ?_; intro gb222 hg w11 hbox hb; have n0_ := sK BK213 hb; have n1_ := sB HB hb; have n2_ := Aside0.mk (hbox); have n3_ := sG HB hg; have n4_ := sG HB hg; have n5_ := sN BK213 hg; have n6_ := sM BK213 hg; clear BK213; clear HB; have BK213 := n0_; have HB := n1_; have BK222 := n2_; have GW222 := n3_; have GE222 := n4_; have NB213_222 := n5_; have NB222_213 := n6_; clear n0_ n1_ n2_ n3_ n4_ n5_ n6_; clear hb hbox hg; have hnb12 := NB222_213.out; have hnc12 := NB213_222.out; obtain ⟨hcz13_0, hcz13_1, hcz13_2, hcz13_3, hcz13_4, hcz13_5, hcz13_6, hfz13_0, hfz13_1, hfz13_2, hfz13_3, hfz13_4, hfz13_5, hfz13_6⟩ := cells7 BK222.out))
  (try simp only [Act.put, List.setIfInBounds_toArray, List.set_cons_zero, List.set_cons_succ])
  go_cut [4] (fun v4 wc => ∃ (kq : Nat) (x4_4 : ByteArray), v4 = .string x4_4 ∧ Aside0 (impl_InstrText.j0 kq x4_4 a0_0 a0_1 a0_2 t215 t216 t217 t218 t219 t220 t221 = some r) ∧ Aside0 (kq ≤ k) ∧ Aside0 (wc.heap[gb213]? = some (.cells #[.int .i64 a0_0, .int .i64 a0_1, .string a0_2] 23 (0, 0))) ∧ Aside0 (wc.heap[gb222]? = some (.cells #[.string t215, .bool t216, .int .i64 t217, .int .i64 t218, .bool t219, .int .i64 t220, .int .i64 t221] 43 (0, 0))) ∧ Aside0 (Below w.heap.size w wc))
  case first =>
   have H := HC5.out
   clear HC5
   by_cases c14 : t216 = true
   ·subst c14
    rewrite [if_pos rfl] at H
    obtain ⟨t223, A15, H⟩ := sO H
    by_cases c16 : 1 + t223.size ≤ 9223372036854775807
    ·rw [if_pos c16] at H
     have c16b0 := eq_true c16
     have c16b1 := decide_eq_true c16
     try have c16b2 : (9223372036854775807 < 1 + t223.size) = False := eq_false (Nat.not_lt.2 c16)
     by_cases c17 : t215.size + (1 + t223.size) ≤ 9223372036854775807
     ·rw [if_pos c17] at H
      have c17b0 := eq_true c17
      have c17b1 := decide_eq_true c17
      try have c17b2 : (9223372036854775807 < t215.size + (1 + t223.size)) = False := eq_false (Nat.not_lt.2 c17)
      have H' := Aside0.mk H
      clear H
      have hnb18 := NB213_222.out
      have hnc18 := NB222_213.out
      obtain ⟨hcz19_0, hcz19_1, hcz19_2, hfz19_0, hfz19_1, hfz19_2⟩ := cells3 BK213.out
      go_wp2_with (first | ((with_reducible refine gate_callee (f := 31) rfl ?_); refine sC (some 17) Tryd.func31 #[.int .i64 a0_1] (impl_decimal.calls a0_1 t223 _ A15.out (by first | with_reducible exact HT | exact EnvT.below HT sb)) ?_; rintro e w20 ⟨rfl, hb⟩; refine ⟨_, rfl, ?_⟩; have n0_ := Aside0.mk (blk_below (g := gb213) (o := .cells #[.int .i64 a0_0, .int .i64 a0_1, .string a0_2] 23 (0, 0)) (by (with_reducible repeat (first | refine blk_drewN ?_ _ | refine blk_drew ?_ | refine blk_alloc ?_ _)); refine blk_far ?_ NB213_222.out _; (with_reducible repeat (first | refine blk_drewN ?_ _ | refine blk_drew ?_ | refine blk_alloc ?_ _)); refine blk_far ?_ NB213_222.out _; (with_reducible repeat (first | refine blk_drewN ?_ _ | refine blk_drew ?_ | refine blk_alloc ?_ _)); refine blk_far ?_ NB213_222.out _; (with_reducible repeat (first | refine blk_drewN ?_ _ | refine blk_drew ?_ | refine blk_alloc ?_ _)); refine blk_far ?_ NB213_222.out _; (with_reducible repeat (first | refine blk_drewN ?_ _ | refine blk_drew ?_ | refine blk_alloc ?_ _)); refine blk_far ?_ NB213_222.out _; (with_reducible repeat (first | refine blk_drewN ?_ _ | refine blk_drew ?_ | refine blk_alloc ?_ _)); refine blk_far ?_ NB213_222.out _; (with_reducible repeat (first | refine blk_drewN ?_ _ | refine blk_drew ?_ | refine blk_alloc ?_ _)); refine blk_far ?_ NB213_222.out _; exact sT BK213.out) hb); have n1_ := Aside0.mk (blk_below (g := gb222) (o := .cells #[.string t215, .bool true, .int .i64 t217, .int .i64 t218, .bool t219, .int .i64 t220, .int .i64 t221] 43 (0, 0)) (by exact sP7 (sT BK222.out)) hb); have n2_ := sB HB hb; clear BK213; clear BK222; clear HB; have BK213 := n0_; have BK222 := n1_; have HB := n2_; clear n0_ n1_ n2_; (try clear hb); (try clear hb2); (try clear hk); (try clear hi)))
      go_meet
      case rel => exact ⟨_, (t215 ++ ((⟨#[32]⟩ : ByteArray) ++ t223)), sr, H', ⟨by first | omega | exact Nat.le_refl _⟩, ⟨by exact sT BK213.out⟩, ⟨by exact sT BK222.out⟩, ⟨sb⟩⟩
     rw [if_neg c17] at H
     exact absurd H (by simp)
    rw [if_neg c16] at H
    exact absurd H (by simp)
   replace c14 := Bool.eq_false_iff.mpr c14
   subst c14
   rewrite [if_neg (show ¬ (false = true) by decide)] at H
   have H' := Aside0.mk H
   clear H
   go_wp2
   go_meet
   case rel => exact ⟨_, (t215), sr, H', ⟨by first | omega | exact Nat.le_refl _⟩, ⟨by (with_reducible repeat (first | refine blk_drewN ?_ _ | refine blk_drew ?_ | refine blk_alloc ?_ _)); refine blk_far ?_ NB213_222.out _; (with_reducible repeat (first | refine blk_drewN ?_ _ | refine blk_drew ?_ | refine blk_alloc ?_ _)); refine blk_far ?_ NB213_222.out _; (with_reducible repeat (first | refine blk_drewN ?_ _ | refine blk_drew ?_ | refine blk_alloc ?_ _)); refine blk_far ?_ NB213_222.out _; (with_reducible repeat (first | refine blk_drewN ?_ _ | refine blk_drew ?_ | refine blk_alloc ?_ _)); refine blk_far ?_ NB213_222.out _; (with_reducible repeat (first | refine blk_drewN ?_ _ | refine blk_drew ?_ | refine blk_alloc ?_ _)); refine blk_far ?_ NB213_222.out _; (with_reducible repeat (first | refine blk_drewN ?_ _ | refine blk_drew ?_ | refine blk_alloc ?_ _)); refine blk_far ?_ NB213_222.out _; (with_reducible repeat (first | refine blk_drewN ?_ _ | refine blk_drew ?_ | refine blk_alloc ?_ _)); refine blk_far ?_ NB213_222.out _; exact sT BK213.out⟩, ⟨by exact sP7 (sT BK222.out)⟩, ⟨sb⟩⟩
  case rest =>
   clear HC5
   try clear c1
   try clear c2
   try clear p2
   try clear c3
   try clear c12
   try clear c14
   try clear c16
   try clear c16b0
   try clear c16b1
   try clear c16b2
   try clear c17
   try clear c17b0
   try clear c17b1
   try clear c17b2
   try clear c18
   try clear c20
   try clear hcz13_0
   try clear hcz13_1
   try clear hcz13_2
   try clear hcz13_3
   try clear hcz13_4
   try clear hcz13_5
   try clear hcz13_6
   try clear hcz19_0
   try clear hcz19_1
   try clear hcz19_2
   try clear hcz7_0
   try clear hcz7_1
   try clear hcz7_2
   try clear hcz9_0
   try clear hcz9_1
   try clear hcz9_2
   try clear hfz13_0
   try clear hfz13_1
   try clear hfz13_2
   try clear hfz13_3
   try clear hfz13_4
   try clear hfz13_5
   try clear hfz13_6
   try clear hfz19_0
   try clear hfz19_1
   try clear hfz19_2
   try clear hfz7_0
   try clear hfz7_1
   try clear hfz7_2
   try clear hfz9_0
   try clear hfz9_1
   try clear hfz9_2
   obtain ⟨kq, x4_4, rfl, HA, HJ4, BK213, BK222, HB⟩ := hcut
   cases kq with
   | zero => exact absurd HA.out (by simp [impl_InstrText.j0])
   | succ kj4 =>
    have H := HA.out
    clear HA
    simp only [impl_InstrText.j0] at H
    by_cases c21 : a0_0 = 2
    ·rw [if_pos c21] at H
     have c21b0 : (a0_0 == 2) = true := beq_iff_eq.mpr c21
     have c21b1 : (a0_0 != 2) = false := bne_eq_false_iff_eq.mpr c21
     clear c21
     obtain ⟨t224, A22, H⟩ := sO H
     by_cases c23 : 1 + t224.size ≤ 9223372036854775807
     ·rw [if_pos c23] at H
      have c23b0 := eq_true c23
      have c23b1 := decide_eq_true c23
      try have c23b2 : (9223372036854775807 < 1 + t224.size) = False := eq_false (Nat.not_lt.2 c23)
      by_cases c24 : x4_4.size + (1 + t224.size) ≤ 9223372036854775807
      ·rw [if_pos c24] at H
       have c24b0 := eq_true c24
       have c24b1 := decide_eq_true c24
       try have c24b2 : (9223372036854775807 < x4_4.size + (1 + t224.size)) = False := eq_false (Nat.not_lt.2 c24)
       obtain rfl := Option.some.inj H
       have hnb25 := NB213_222.out
       have hnc25 := NB222_213.out
       obtain ⟨hcz26_0, hcz26_1, hcz26_2, hfz26_0, hfz26_1, hfz26_2⟩ := cells3 BK213.out
       go_wp2_with (first | ((with_reducible refine gate_callee (f := 32) rfl ?_); refine sC (some 27) Tryd.func32 #[.string a0_2] (impl_QuoteString.calls kj4 a0_2 t224 _ A22.out) ?_; rintro e w27 ⟨rfl, hb⟩; refine ⟨_, rfl, ?_⟩; have n0_ := sK BK213 hb; have n1_ := sK BK222 hb; have n2_ := sB HB hb; clear BK213; clear BK222; clear HB; have BK213 := n0_; have BK222 := n1_; have HB := n2_; clear n0_ n1_ n2_; (try clear hb); (try clear hb2); (try clear hk); (try clear hi)))
       go_ret
       exact ⟨sq, sb⟩
      rw [if_neg c24] at H
      exact absurd H (by simp)
     rw [if_neg c23] at H
     exact absurd H (by simp)
    rw [if_neg c21] at H
    have c21b0 : (a0_0 == 2) = false := beq_eq_false_iff_ne.mpr c21
    have c21b1 : (a0_0 != 2) = true := bne_iff_ne.mpr c21
    by_cases c28 : t219 = true
    ·subst c28
     rewrite [if_pos rfl] at H
     by_cases c29 : 1 + a0_2.size ≤ 9223372036854775807
     ·rw [if_pos c29] at H
      have c29b0 := eq_true c29
      have c29b1 := decide_eq_true c29
      try have c29b2 : (9223372036854775807 < 1 + a0_2.size) = False := eq_false (Nat.not_lt.2 c29)
      by_cases c30 : x4_4.size + (1 + a0_2.size) ≤ 9223372036854775807
      ·rw [if_pos c30] at H
       have c30b0 := eq_true c30
       have c30b1 := decide_eq_true c30
       try have c30b2 : (9223372036854775807 < x4_4.size + (1 + a0_2.size)) = False := eq_false (Nat.not_lt.2 c30)
       obtain rfl := Option.some.inj H
       have hnb31 := NB213_222.out
       have hnc31 := NB222_213.out
       obtain ⟨hcz32_0, hcz32_1, hcz32_2, hfz32_0, hfz32_1, hfz32_2⟩ := cells3 BK213.out
       obtain ⟨hcz33_0, hcz33_1, hcz33_2, hcz33_3, hcz33_4, hcz33_5, hcz33_6, hfz33_0, hfz33_1, hfz33_2, hfz33_3, hfz33_4, hfz33_5, hfz33_6⟩ := cells7 BK222.out
       go_wp2
       go_ret
       exact ⟨sq, sb⟩
      rw [if_neg c30] at H
      exact absurd H (by simp)
     rw [if_neg c29] at H
     exact absurd H (by simp)
    replace c28 := Bool.eq_false_iff.mpr c28
    subst c28
    rewrite [if_neg (show ¬ (false = true) by decide)] at H
    obtain rfl := Option.some.inj H
    have hnb34 := NB213_222.out
    have hnc34 := NB222_213.out
    obtain ⟨hcz35_0, hcz35_1, hcz35_2, hfz35_0, hfz35_1, hfz35_2⟩ := cells3 BK213.out
    obtain ⟨hcz36_0, hcz36_1, hcz36_2, hcz36_3, hcz36_4, hcz36_5, hcz36_6, hfz36_0, hfz36_1, hfz36_2, hfz36_3, hfz36_4, hfz36_5, hfz36_6⟩ := cells7 BK222.out
    go_wp2
    go_ret
    exact ⟨sq, sb⟩
 replace c3 := Bool.eq_false_iff.mpr c3
 subst c3
 rewrite [if_neg (show ¬ (false = true) by decide)] at H
 obtain rfl := Option.some.inj H
 go_enter Tryd.func21, Tryd.ntmps21
 go_wp2_with (first | ((with_reducible refine gate_dst (N := 1) rfl ?_); refine sV (N := 1) (cs := #[.int .i64 a0_0, .int .i64 a0_1, .string a0_2]) (t := 23) ?_; intro gb213 hg w37 hbox hb; have n0_ := sB HB hb; have n1_ := Aside0.mk (hbox); have n2_ := sG HB hg; have n3_ := sG HB hg; clear HB; have HB := n0_; have BK213 := n1_; have GW213 := n2_; have GE213 := n3_; clear n0_ n1_ n2_ n3_; clear hb hbox hg; obtain ⟨hcz38_0, hcz38_1, hcz38_2, hfz38_0, hfz38_1, hfz38_2⟩ := cells3 BK213.out) | ((with_reducible refine gate_callee (f := 20) rfl ?_); refine sC (some 6) Tryd.func20 #[.agg #[.int .i64 a0_0, .int .i64 a0_1, .string a0_2]] (impl_ValidInstr.calls k a0_0 a0_1 a0_2 false _ A2.out) ?_; rintro e w39 ⟨rfl, hb⟩; refine ⟨_, rfl, ?_⟩; have n0_ := sK BK213 hb; have n1_ := sB HB hb; clear BK213; clear HB; have BK213 := n0_; have HB := n1_; clear n0_ n1_; (try clear hb); (try clear hb2); (try clear hk); (try clear hi)))
 go_ret
 exact ⟨sq, sb⟩
end Go.Proofs.YtdihlgkcpooadaaDoor.PFnExactReadInstr
