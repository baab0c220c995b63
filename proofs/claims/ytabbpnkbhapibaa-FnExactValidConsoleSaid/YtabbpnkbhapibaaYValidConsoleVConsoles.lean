/- What the functions on files and consoles come to. No condition. -/
import Derived.Test.YtabbpnkbhapibaaYValidConsoleVValues
import Derived.Test.YtabbpnkbhapibaaYVcW3
import Derived.Test.YtabbpnkbhapibaaYVcP0
import Derived.Test.YtabbpnkbhapibaaYVcP4
import Derived.Test.YtabbpnkbhapibaaYVcP5
import Derived.Test.YtabbpnkbhapibaaYVcP7
import Derived.Test.YtabbpnkbhapibaaYVcP8
import Derived.Test.YtabbpnkbhapibaaYVcP9
import Derived.Test.YtabbpnkbhapibaaYVcP10
namespace Go.Proofs.Ytabbpnkbhapibaa.PureFnExactValidConsole
open Go.RowKit Go.Proofs.YtabbpnkbhapibaaG Go.Proofs.Ytabbpnkbhapibaa.PFnExactValidConsole Go.Proofs.YtabbpnkbhapibaaW.PrintWords Go.Proofs.YtabbpnkbhapibaaW.PrintLast Go.Proofs.YtabbpnkbhapibaaW.PrintMore
set_option linter.unusedSimpArgs false
set_option linter.unusedVariables false

def shortN (l : List ByteArray) (s : Int) : Bool := allN l.length (fun i => decide (((rdOf ByteArray.empty l (i : Int)).size : Int) ≤ s))
def linesV (l : List ByteArray) (m s : Int) : Bool := decide ((l.length : Int) ≤ m) && shortN l s
theorem spec_l21Lines_ev (l : List ByteArray) (m s : Int) (hl : l.length ≤ 1048576) : Ev (fun k => spec_l21Lines.f k l m s) (linesV l m s) := by
  simp only [spec_l21Lines.f, linesV]
  by_cases h : (l.length : Int) > m
  · refine ev_pos h ?_
    rw [decide_eq_false (by omega)]; exact ev_some _
  · refine ev_neg h ?_
    rw [decide_eq_true (by omega), Bool.true_and]
    refine idx_all (g := fun k i => spec_l21Lines.l0 k l s i) l.length _ ?_ ?_ ?_
    · refine ev_shift ?_; simp only [spec_l21Lines.l0]; exact ev_neg (by omega) (ev_some _)
    · intro i hi hp r hr
      have hp := of_decide_eq_true hp
      refine ev_shift ?_; simp only [spec_l21Lines.l0]
      refine ev_pos (by omega) (ev_pos (by omega) (ev_neg (by omega) ?_))
      rw [wrap_up (by omega) (show (i : Int) < (l.length : Int) by omega) (by omega)]; exact hr
    · intro i hi hp
      have hp := of_decide_eq_false hp
      refine ev_shift ?_; simp only [spec_l21Lines.l0]
      exact ev_pos (by omega) (ev_pos (by omega) (ev_pos (by omega) (ev_some _)))
theorem impl_short_ev (l : List ByteArray) (hl : l.length ≤ 1048576) : Ev (fun k => impl_areAll_string__impl_isShort.f k l) (shortN l 200) := by
  simp only [impl_areAll_string__impl_isShort.f]
  refine idx_all (g := fun k i => impl_areAll_string__impl_isShort.l0 k l (l.length : Int) i) l.length _ ?_ ?_ ?_
  · refine ev_shift ?_; simp only [impl_areAll_string__impl_isShort.l0]; exact ev_neg (by omega) (ev_some _)
  · intro i hi hp r hr
    refine ev_shift ?_; simp only [impl_areAll_string__impl_isShort.l0, impl_isShort.f, Option.bind_some]
    refine ev_pos (by omega) (ev_pos (by omega) (ev_pos (by omega) (ev_pos hp ?_)))
    rw [wrap_up (by omega) (show (i : Int) < (l.length : Int) by omega) (by omega)]; exact hr
  · intro i hi hp
    refine ev_shift ?_; simp only [impl_areAll_string__impl_isShort.l0, impl_isShort.f, Option.bind_some]
    exact ev_pos (by omega) (ev_pos (by omega) (ev_pos (by omega) (ev_neg (fun h => absurd (hp.symm.trans h) Bool.false_ne_true) (ev_some _))))
theorem impl_trace_ev (l : List ByteArray) (hl : l.length ≤ 1048576) : Ev (fun k => impl_areAll_string__impl_ValidConsole_1.f k l) (shortN l 1300) := by
  simp only [impl_areAll_string__impl_ValidConsole_1.f]
  refine idx_all (g := fun k i => impl_areAll_string__impl_ValidConsole_1.l0 k l (l.length : Int) i) l.length _ ?_ ?_ ?_
  · refine ev_shift ?_; simp only [impl_areAll_string__impl_ValidConsole_1.l0]; exact ev_neg (by omega) (ev_some _)
  · intro i hi hp r hr
    refine ev_shift ?_; simp only [impl_areAll_string__impl_ValidConsole_1.l0, impl_ValidConsole_1.f, Option.bind_some]
    refine ev_pos (by omega) (ev_pos (by omega) (ev_pos (by omega) (ev_pos hp ?_)))
    rw [wrap_up (by omega) (show (i : Int) < (l.length : Int) by omega) (by omega)]; exact hr
  · intro i hi hp
    refine ev_shift ?_; simp only [impl_areAll_string__impl_ValidConsole_1.l0, impl_ValidConsole_1.f, Option.bind_some]
    exact ev_pos (by omega) (ev_pos (by omega) (ev_pos (by omega) (ev_neg (fun h => absurd (hp.symm.trans h) Bool.false_ne_true) (ev_some _))))
def fileV (x : S163) : Bool := isNameS x.f0 && (linesV x.f1 40 200 && ((decide (0 ≤ x.f2) && decide (x.f2 ≤ 3)) && ((decide (0 ≤ x.f3) && decide (x.f3 ≤ (x.f1.length : Int))) && (decide (x.f2 = 1) || decide (x.f3 = 0)))))
theorem spec_file_bad (a : ByteArray) (l : List ByteArray) (b c : Int) : Ev (fun k => spec_l21File.j0 k true a l b c) false := by
  refine ev_shift ?_; simp only [spec_l21File.j0]; simpa using ev_some false
theorem spec_l21File_ev (x : S163) (h1 : x.f1.length ≤ 1048576) : Ev (fun k => spec_l21File.f k x.f0 x.f1 x.f2 x.f3) (fileV x) := by
  simp only [spec_l21File.f, fileV]
  refine ev_bind (spec_IsName_ev _) ?_
  cases isNameS x.f0 with
  | false => exact ev_neg Bool.false_ne_true (spec_file_bad _ _ _ _)
  | true =>
    refine ev_pos rfl (ev_bind (spec_l21Lines_ev _ _ _ h1) ?_)
    cases linesV x.f1 40 200 with
    | false => exact ev_neg Bool.false_ne_true (spec_file_bad _ _ _ _)
    | true =>
      refine ev_pos rfl (ev_bindc (spec_l00In_eq _ _ _) ?_)
      cases decide (0 ≤ x.f2) && decide (x.f2 ≤ 3) with
      | false => exact spec_file_bad _ _ _ _
      | true =>
        refine ev_shift ?_; simp only [spec_l21File.j0]
        refine ev_neg (by decide) (ev_bindc (spec_l00In_eq _ _ _) ?_)
        cases decide (0 ≤ x.f3) && decide (x.f3 ≤ (x.f1.length : Int)) with
        | false => exact ev_neg Bool.false_ne_true (ev_some _)
        | true =>
          refine ev_pos rfl ?_
          by_cases c : x.f2 = 1
          · refine ev_pos c (ev_of_eq ?_); simp [c]
          · refine ev_neg c (ev_of_eq ?_)
            by_cases d : x.f3 = 0 <;> simp [c, d]
theorem impl_file_j1 (p q : Bool) (a : ByteArray) (l : List ByteArray) (b c : Int) : Ev (fun k => impl_File_isValid.j1 k p q a l b c) (isNameS a && (p && (q && (decide (0 ≤ b) && decide (b ≤ 3))))) := by
  refine ev_shift ?_; simp only [impl_File_isValid.j1]
  refine ev_bind (impl_IsName_ev _) ?_
  cases isNameS a with
  | false => exact ev_neg Bool.false_ne_true (ev_some _)
  | true =>
    refine ev_pos rfl ?_
    cases p with
    | false => exact ev_neg Bool.false_ne_true (ev_some _)
    | true =>
      refine ev_pos rfl ?_
      cases q with
      | false => exact ev_neg Bool.false_ne_true (ev_some _)
      | true =>
        refine ev_pos rfl ?_
        by_cases z : b = 0
        · refine ev_pos z (ev_of_eq ?_); simp [z]
        · refine ev_neg z ?_
          refine ev_bindc (show impl_isMode.f b = some (decide (1 ≤ b) && decide (b ≤ 3)) by simp only [impl_isMode.f, impl_within_eq, Option.bind_some]) (ev_of_eq ?_)
          have e : decide (1 ≤ b) = decide (0 ≤ b) := decide_eq_decide.2 (by omega)
          simp [e]
theorem impl_file_j0 (p : Bool) (a : ByteArray) (l : List ByteArray) (b c : Int) : Ev (fun k => impl_File_isValid.j0 k p a l b c) (isNameS a && (p && (((decide (0 ≤ c) && decide (c ≤ (l.length : Int))) && (decide (c = 0) || decide (b = 1))) && (decide (0 ≤ b) && decide (b ≤ 3))))) := by
  have j1 : ∀ q r : Bool, (isNameS a && (p && (q && (decide (0 ≤ b) && decide (b ≤ 3))))) = r → Ev (fun k => impl_File_isValid.j1 k p q a l b c) r := fun q r h => h ▸ impl_file_j1 p q a l b c
  refine ev_shift ?_; simp only [impl_File_isValid.j0]
  refine ev_bindc (impl_within_eq _ _ _) ?_
  cases decide (0 ≤ c) && decide (c ≤ (l.length : Int)) with
  | false => exact ev_neg Bool.false_ne_true (j1 _ _ (by simp))
  | true =>
    refine ev_pos rfl ?_
    by_cases z : c = 0
    · exact ev_pos z (j1 _ _ (by simp [z]))
    · refine ev_neg z (j1 _ _ ?_)
      by_cases w : b = 1 <;> simp [z, w]
theorem impl_File_ev (x : S163) (h1 : x.f1.length ≤ 1048576) : Ev (fun k => impl_File_isValid.f k x.f0 x.f1 x.f2 x.f3) (fileV x) := by
  have j0 : ∀ p r : Bool, (isNameS x.f0 && (p && (((decide (0 ≤ x.f3) && decide (x.f3 ≤ (x.f1.length : Int))) && (decide (x.f3 = 0) || decide (x.f2 = 1))) && (decide (0 ≤ x.f2) && decide (x.f2 ≤ 3))))) = r → Ev (fun k => impl_File_isValid.j0 k p x.f0 x.f1 x.f2 x.f3) r := fun p r h => h ▸ impl_file_j0 p x.f0 x.f1 x.f2 x.f3
  simp only [impl_File_isValid.f]
  by_cases c : (x.f1.length : Int) ≤ 40
  · refine ev_pos c (ev_bind (impl_short_ev _ h1) (j0 _ _ ?_))
    simp only [fileV, linesV]
    rw [decide_eq_true c]
    cases isNameS x.f0 <;> cases shortN x.f1 200 <;> cases (decide (0 ≤ x.f3) && decide (x.f3 ≤ (x.f1.length : Int))) <;> cases decide (x.f3 = 0) <;> cases decide (x.f2 = 1) <;> cases (decide (0 ≤ x.f2) && decide (x.f2 ≤ 3)) <;> rfl
  · refine ev_neg c (j0 _ _ ?_)
    simp only [fileV, linesV]
    rw [decide_eq_false c]
    cases isNameS x.f0 <;> rfl
/-- The names rise. -/
def lessN (l : List S163) (i : Nat) : Bool := Op.bytesLess (rd_T163 l ((i - 1 : Nat) : Int)).f0.toList (rd_T163 l (i : Int)).f0.toList
def okF (l : List S163) (i : Nat) : Bool := fileV (rd_T163 l (i : Int)) && (decide (i = 0) || lessN l i)
def smallF (l : List S163) : Prop := ∀ x, x ∈ l → x.f1.length ≤ 1048576
theorem small_file {l : List S163} (h : smallF l) (i : Nat) (hi : i < l.length) : (rd_T163 l (i : Int)).f1.length ≤ 1048576 := by
  have e : rd_T163 l (i : Int) = l[i] := getD_get _ l i hi
  rw [e]; exact h _ (List.getElem_mem hi)
theorem okF_all (l : List S163) : allN l.length (okF l) = (allN l.length (fun i => fileV (rd_T163 l (i : Int))) && allN (l.length - 1) (fun i => lessN l (i + 1))) := by
  rw [Bool.eq_iff_iff, Bool.and_eq_true, allN_iff, allN_iff, allN_iff]
  constructor
  · intro h
    refine ⟨fun i hi => ?_, fun i hi => ?_⟩
    · have := h i hi
      simp only [okF, Bool.and_eq_true] at this
      exact this.1
    · have := h (i + 1) (by omega)
      simp only [okF, Bool.and_eq_true, Bool.or_eq_true, decide_eq_true_eq] at this
      exact this.2.resolve_left (by omega)
  · intro h i hi
    simp only [okF, Bool.and_eq_true, Bool.or_eq_true, decide_eq_true_eq]
    refine ⟨h.1 i hi, ?_⟩
    by_cases z : i = 0
    · exact .inl z
    · have := h.2 (i - 1) (by omega)
      rw [show i - 1 + 1 = i by omega] at this
      exact .inr this
theorem impl_files_ev (l : List S163) (hl : l.length ≤ 1048576) (hm : smallF l) : Ev (fun k => impl_File__impl_File_isValid.f k l) (allN l.length (fun i => fileV (rd_T163 l (i : Int)))) := by
  simp only [impl_File__impl_File_isValid.f]
  refine idx_all (g := fun k i => impl_File__impl_File_isValid.l0 k l (l.length : Int) i) l.length _ ?_ ?_ ?_
  · refine ev_shift ?_; simp only [impl_File__impl_File_isValid.l0]; exact ev_neg (by omega) (ev_some _)
  · intro i hi hp r hr
    refine ev_shift ?_; simp only [impl_File__impl_File_isValid.l0]
    refine ev_pos (by omega) (ev_pos (by omega) (ev_pos (by omega) (ev_bind (impl_File_ev _ (small_file hm i hi)) (ev_pos hp ?_))))
    rw [wrap_up (by omega) (show (i : Int) < (l.length : Int) by omega) (by omega)]; exact hr
  · intro i hi hp
    refine ev_shift ?_; simp only [impl_File__impl_File_isValid.l0]
    exact ev_pos (by omega) (ev_pos (by omega) (ev_pos (by omega) (ev_bind (impl_File_ev _ (small_file hm i hi)) (ev_neg (fun h => absurd (hp.symm.trans h) Bool.false_ne_true) (ev_some _)))))
theorem impl_sorted_ev (l : List S163) (hl : l.length ≤ 1048576) : Ev (fun k => impl_File__impl_nameOfFile.f k l) (allN (l.length - 1) (fun i => lessN l (i + 1))) := by
  simp only [impl_File__impl_nameOfFile.f]
  have nm : ∀ x : S163, impl_nameOfFile.f x.f0 x.f1 x.f2 x.f3 = some x.f0 := fun x => rfl
  have w1 : ∀ i : Nat, i < 1048576 → wrap64 (((i : Int) + 1) - 1) = ((i + 1 - 1 : Nat) : Int) := fun i hi => by unfold wrap64; omega
  refine idx_all (g := fun k i => impl_File__impl_nameOfFile.l0 k l (i + 1)) (l.length - 1) _ ?_ ?_ ?_
  · refine ev_shift ?_; simp only [impl_File__impl_nameOfFile.l0]; exact ev_neg (by omega) (ev_some _)
  · intro i hi hp r hr
    refine ev_shift ?_; simp only [impl_File__impl_nameOfFile.l0, nm, Option.bind_some, w1 i (by omega)]
    refine ev_pos (by omega) (ev_pos (by omega) (ev_pos (by omega) (ev_pos (by omega) (ev_pos hp ?_))))
    rw [wrap_up (by omega) (show (i : Int) + 1 < (l.length : Int) by omega) (by omega)]; exact hr
  · intro i hi hp
    refine ev_shift ?_; simp only [impl_File__impl_nameOfFile.l0, nm, Option.bind_some, w1 i (by omega)]
    exact ev_pos (by omega) (ev_pos (by omega) (ev_pos (by omega) (ev_pos (by omega) (ev_neg (fun h => absurd (hp.symm.trans h) Bool.false_ne_true) (ev_some _)))))
/-- Valid consoles. -/
def consV (c : S74) : Bool := linesV c.f0 100 200 && ((decide (0 ≤ c.f1) && decide (c.f1 ≤ (c.f0.length : Int))) && (linesV c.f2 100 200 && (decide ((c.f3.length : Int) ≤ 6) && (linesV c.f4 200 1300 && allN c.f3.length (okF c.f3)))))
theorem one_ltC {α : Type} (x : α) : (0 : Int) < (([x] : List α).length : Int) := by simp
theorem rd_cons (h : S74) : rd_T74 [h] 0 = h := rfl
theorem spec_cons_bad (h : S74) : Ev (fun k => spec_l21Ok.j0 k [h] true) false := by
  refine ev_shift ?_; simp only [spec_l21Ok.j0]; simpa using ev_some false
theorem spec_cons_j2 (h : S74) (i : Int) : Ev (fun k => spec_l21Ok.j2 k [h] i true) false := by
  refine ev_shift ?_; simp only [spec_l21Ok.j2]; simpa using ev_some false
theorem spec_l21Ok_ev (h : S74) (h0 : h.f0.length ≤ 1048576) (h2 : h.f2.length ≤ 1048576) (h3 : h.f3.length ≤ 1048576) (h4 : h.f4.length ≤ 1048576) (hm : smallF h.f3) : Ev (fun k => spec_l21Ok.f k [h]) (consV h) := by
  have bad := spec_cons_bad h
  simp only [spec_l21Ok.f, rd_cons, consV]
  refine ev_pos (one_ltC h) (ev_bind (spec_l21Lines_ev _ _ _ h0) ?_)
  cases linesV h.f0 100 200 with
  | false => exact ev_neg Bool.false_ne_true bad
  | true =>
    refine ev_pos rfl (ev_bindc (spec_l00In_eq _ _ _) ?_)
    cases decide (0 ≤ h.f1) && decide (h.f1 ≤ (h.f0.length : Int)) with
    | false => exact ev_neg Bool.false_ne_true bad
    | true =>
      refine ev_pos rfl (ev_bind (spec_l21Lines_ev _ _ _ h2) ?_)
      cases linesV h.f2 100 200 with
      | false => exact ev_neg Bool.false_ne_true bad
      | true =>
        refine ev_pos rfl ?_
        by_cases c : (h.f3.length : Int) ≤ 6
        · refine ev_neg (by omega) (ev_bind (spec_l21Lines_ev _ _ _ h4) ?_)
          rw [decide_eq_true c]
          cases linesV h.f4 200 1300 with
          | false => exact bad
          | true =>
            refine ev_shift ?_; simp only [spec_l21Ok.j0]
            refine ev_neg (by decide) ?_
            simp only [Bool.true_and]
            refine idx_all (g := fun k i => spec_l21Ok.l0 k [h] i) h.f3.length _ ?_ ?_ ?_
            · refine ev_shift ?_; simp only [spec_l21Ok.l0, rd_cons]
              exact ev_pos (one_ltC h) (ev_neg (by omega) (ev_some _))
            · intro i hi hp r hr
              simp only [okF, Bool.and_eq_true, Bool.or_eq_true, decide_eq_true_eq] at hp
              have go : Ev (fun k => spec_l21Ok.j2 k [h] (i : Int) false) r := by
                refine ev_shift ?_; simp only [spec_l21Ok.j2]
                rw [wrap_up (by omega) (show (i : Int) < (h.f3.length : Int) by omega) (by omega)]
                exact ev_neg Bool.false_ne_true hr
              refine ev_shift ?_; simp only [spec_l21Ok.l0, rd_cons]
              refine ev_pos (one_ltC h) (ev_pos (by omega) (ev_pos (by omega) (ev_bind (spec_l21File_ev _ (small_file hm i hi)) (ev_pos hp.1 ?_))))
              by_cases z : i = 0
              · exact ev_neg (by omega) go
              · have w : wrap64 ((i : Int) - 1) = ((i - 1 : Nat) : Int) := by unfold wrap64; omega
                rw [w]
                refine ev_pos (by omega) (ev_pos (by omega) (ev_pos (by omega) ?_))
                have hl := hp.2.resolve_left z
                unfold lessN at hl
                rw [hl]
                exact go
            · intro i hi hp
              have bad2 := spec_cons_j2 h (i : Int)
              refine ev_shift ?_; simp only [spec_l21Ok.l0, rd_cons]
              refine ev_pos (one_ltC h) (ev_pos (by omega) (ev_pos (by omega) (ev_bind (spec_l21File_ev _ (small_file hm i hi)) ?_)))
              cases ho : fileV (rd_T163 h.f3 (i : Int)) with
              | false => exact ev_neg Bool.false_ne_true bad2
              | true =>
                refine ev_pos rfl ?_
                simp only [okF, ho, Bool.true_and, Bool.or_eq_false_iff, decide_eq_false_iff_not] at hp
                have w : wrap64 ((i : Int) - 1) = ((i - 1 : Nat) : Int) := by unfold wrap64; omega
                rw [w]
                refine ev_pos (by omega) (ev_pos (by omega) (ev_pos (by omega) ?_))
                have hl := hp.2
                unfold lessN at hl
                rw [hl]
                exact bad2
        · refine ev_pos (by omega) ?_
          rw [decide_eq_false c]
          exact bad
theorem impl_cons_bad (a : List ByteArray) (b : Int) (c : List ByteArray) (d : List S163) (e : List ByteArray) : Ev (fun k => impl_ValidConsole.j0 k true a b c d e) false := by
  refine ev_shift ?_; simp only [impl_ValidConsole.j0]; simpa using ev_some false
theorem impl_ValidConsole_ev (h : S74) (h0 : h.f0.length ≤ 1048576) (h2 : h.f2.length ≤ 1048576) (h3 : h.f3.length ≤ 1048576) (h4 : h.f4.length ≤ 1048576) (hm : smallF h.f3) : Ev (fun k => impl_ValidConsole.f k h.f0 h.f1 h.f2 h.f3 h.f4) (consV h) := by
  have bad := impl_cons_bad h.f0 h.f1 h.f2 h.f3 h.f4
  have badr : ∀ r : Bool, r = false → Ev (fun k => impl_ValidConsole.j0 k true h.f0 h.f1 h.f2 h.f3 h.f4) r := fun r e => e ▸ bad
  simp only [impl_ValidConsole.f, consV, linesV, okF_all]
  by_cases c0 : (h.f0.length : Int) ≤ 100
  · refine ev_neg (by omega) ?_
    by_cases c2 : (h.f2.length : Int) ≤ 100
    · refine ev_neg (by omega) ?_
      by_cases c3 : (h.f3.length : Int) ≤ 6
      · refine ev_neg (by omega) ?_
        by_cases c4 : (h.f4.length : Int) ≤ 200
        · rw [decide_eq_true c0, decide_eq_true c2, decide_eq_true c3, decide_eq_true c4, decide_eq_false (show ¬ (h.f4.length : Int) > 200 by omega)]
          simp only [Bool.true_and]
          refine ev_shift ?_; simp only [impl_ValidConsole.j0]
          refine ev_neg Bool.false_ne_true (ev_bind (impl_short_ev _ h0) ?_)
          cases shortN h.f0 200 with
          | false => exact ev_neg Bool.false_ne_true (ev_some _)
          | true =>
            refine ev_pos rfl (ev_bind (impl_short_ev _ h2) ?_)
            cases shortN h.f2 200 with
            | false => exact ev_neg Bool.false_ne_true (by simpa using ev_some false)
            | true =>
              refine ev_pos rfl (ev_bind (impl_trace_ev _ h4) ?_)
              cases shortN h.f4 1300 with
              | false => exact ev_neg Bool.false_ne_true (by simpa using ev_some false)
              | true =>
                refine ev_pos rfl (ev_bindc (impl_within_eq _ _ _) ?_)
                cases decide (0 ≤ h.f1) && decide (h.f1 ≤ (h.f0.length : Int)) with
                | false => exact ev_neg Bool.false_ne_true (ev_some _)
                | true =>
                  refine ev_pos rfl (ev_bind (impl_files_ev _ h3 hm) ?_)
                  cases allN h.f3.length (fun i => fileV (rd_T163 h.f3 (i : Int))) with
                  | false => exact ev_neg Bool.false_ne_true (by simpa using ev_some false)
                  | true => exact ev_pos rfl (ev_bind (impl_sorted_ev _ h3) (by simpa using ev_some _))
        · rw [decide_eq_true (show (h.f4.length : Int) > 200 by omega)]
          refine badr _ ?_
          rw [decide_eq_false c4]; simp
      · refine ev_pos (by omega) (badr _ ?_)
        rw [decide_eq_false c3]; simp
    · refine ev_pos (by omega) (badr _ ?_)
      rw [decide_eq_false c2]; simp
  · refine ev_pos (by omega) (badr _ ?_)
    rw [decide_eq_false c0]; simp
end Go.Proofs.Ytabbpnkbhapibaa.PureFnExactValidConsole
