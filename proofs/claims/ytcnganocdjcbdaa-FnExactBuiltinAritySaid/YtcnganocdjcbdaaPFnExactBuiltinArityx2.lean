-- PRINTED BY print.sh 35421559b90ae4d0a3588c463048766b98c2df88dd9212a6774a882060cdf62d: not written by this session
import Derived.Test.YtcnganocdjcbdaaPFnExactBuiltinArityx0
import Derived.Test.YtcnganocdjcbdaaPFnExactBuiltinArityx1
namespace Go.Proofs.Ytcnganocdjcbdaa.PFnExactBuiltinArity
open Go.RowKit Go.Proofs.YtcnganocdjcbdaaW.PrintWords Go.Proofs.YtcnganocdjcbdaaW.PrintLast Go.Proofs.YtcnganocdjcbdaaW.PrintMore
attribute [local go_sem] max2_int min2_int max_two min_two max_three min_three max_four min_four   -- for this text's walks alone
set_option linter.unusedVariables false
set_option linter.unusedSimpArgs false

/-! ### spec_BuiltinArity: function 14 -/
mutual
def spec_BuiltinArity.j0 : Nat → ByteArray → ByteArray → Bool → Option (Int)
  | 0, _, _, _ => none
  | k + 1, x0, x4, x5 => if x5 = true then (some 3) else (if x4.toList = ([68, 85, 80, 76] : List UInt8) then (some 2) else (if x4.toList = ([65, 82, 82, 65, 89] : List UInt8) then (some 2) else (if x4.toList = ([75, 69, 89] : List UInt8) then (some 2) else (if x4.toList = ([73, 84, 69, 77] : List UInt8) then (some 2) else (if x4.toList = ([79, 80, 69, 78] : List UInt8) then (some 2) else (if x4.toList = ([80, 85, 84] : List UInt8) then (some 2) else ((spec_l17Predicates.f).bind fun t186 => ((spec_l17At.f k t186 x0).bind fun t189 => (if t189 ≥ 0 then (spec_BuiltinArity.j1 k x0 (x0.toList != ([73, 78, 84, 69, 71, 69, 82] : List UInt8))) else (spec_BuiltinArity.j1 k x0 false))))))))))
def spec_BuiltinArity.j1 : Nat → ByteArray → Bool → Option (Int)
  | 0, _, _ => none
  | k + 1, x0, x25 => if x25 = true then (some 2) else ((spec_BuiltinNames.f k).bind fun t190 => ((spec_l17At.f k t190 x0).bind fun t193 => (if t193 ≥ 0 then (some 1) else (some (-1)))))
end
def spec_BuiltinArity.f (k : Nat) (a0 : ByteArray) : Option (Int) := if a0.toList = ([82, 69, 80, 76, 65, 67, 69] : List UInt8) then (spec_BuiltinArity.j0 k a0 a0 (a0.toList == ([82, 69, 80, 76, 65, 67, 69] : List UInt8))) else (if a0.toList = ([76, 80, 65, 68] : List UInt8) then (spec_BuiltinArity.j0 k a0 a0 (a0.toList == ([76, 80, 65, 68] : List UInt8))) else (if a0.toList = ([82, 80, 65, 68] : List UInt8) then (spec_BuiltinArity.j0 k a0 a0 (a0.toList == ([82, 80, 65, 68] : List UInt8))) else (spec_BuiltinArity.j0 k a0 a0 (a0.toList == ([83, 85, 66, 83, 84, 82] : List UInt8)))))
theorem spec_BuiltinArity.mono_l : ∀ k, (∀ y0 y1 y2, LeO (spec_BuiltinArity.j0 k y0 y1 y2) (spec_BuiltinArity.j0 (k + 1) y0 y1 y2)) ∧ (∀ y0 y1, LeO (spec_BuiltinArity.j1 k y0 y1) (spec_BuiltinArity.j1 (k + 1) y0 y1))
  | 0 => ⟨fun _ _ _ r h => by simp [spec_BuiltinArity.j0] at h, fun _ _ r h => by simp [spec_BuiltinArity.j1] at h⟩
  | k + 1 => by
    obtain ⟨ih0, ih1⟩ := spec_BuiltinArity.mono_l k
    refine ⟨?_, ?_⟩
    · intro y0 y1 y2
      unfold spec_BuiltinArity.j0
      repeat' first
      | (with_reducible exact ih0 _ _ _)
      | (with_reducible exact ih1 _ _)
      | (with_reducible exact spec_BuiltinNames.mono _)
      | (with_reducible exact spec_l17At.mono _ _ _)
      | (with_reducible exact LeO.refl _)
      | (with_reducible exact LeO.none _)
      | (with_reducible refine LeO.ite ?_ ?_)
      | (with_reducible refine LeO.bind ?_ (fun _ => ?_))
      | exact ih0 _ _ _
      | exact ih1 _ _
      | exact spec_BuiltinNames.mono _
      | exact spec_l17At.mono _ _ _
      | exact LeO.none _
      | refine LeO.ite ?_ ?_
      | refine LeO.bind ?_ (fun _ => ?_)
    · intro y0 y1
      unfold spec_BuiltinArity.j1
      repeat' first
      | (with_reducible exact ih0 _ _ _)
      | (with_reducible exact ih1 _ _)
      | (with_reducible exact spec_BuiltinNames.mono _)
      | (with_reducible exact spec_l17At.mono _ _ _)
      | (with_reducible exact LeO.refl _)
      | (with_reducible exact LeO.none _)
      | (with_reducible refine LeO.ite ?_ ?_)
      | (with_reducible refine LeO.bind ?_ (fun _ => ?_))
      | exact ih0 _ _ _
      | exact ih1 _ _
      | exact spec_BuiltinNames.mono _
      | exact spec_l17At.mono _ _ _
      | exact LeO.none _
      | refine LeO.ite ?_ ?_
      | refine LeO.bind ?_ (fun _ => ?_)
theorem spec_BuiltinArity.mono : ∀ a0 k, LeO (spec_BuiltinArity.f k a0) (spec_BuiltinArity.f (k + 1) a0) := by
  intro a0 k
  obtain ⟨ih0, ih1⟩ := spec_BuiltinArity.mono_l k
  unfold spec_BuiltinArity.f
  repeat' first
      | (with_reducible exact ih0 _ _ _)
      | (with_reducible exact ih1 _ _)
      | (with_reducible exact spec_BuiltinNames.mono _)
      | (with_reducible exact spec_l17At.mono _ _ _)
      | (with_reducible exact LeO.refl _)
      | (with_reducible exact LeO.none _)
      | (with_reducible refine LeO.ite ?_ ?_)
      | (with_reducible refine LeO.bind ?_ (fun _ => ?_))
      | exact ih0 _ _ _
      | exact ih1 _ _
      | exact spec_BuiltinNames.mono _
      | exact spec_l17At.mono _ _ _
      | exact LeO.none _
      | refine LeO.ite ?_ ?_
      | refine LeO.bind ?_ (fun _ => ?_)
set_option maxHeartbeats 8000000 in
set_option maxRecDepth 100000 in
theorem spec_BuiltinArity.calls (k : Nat) (a0 : ByteArray) (r : Int) (w : World) (h : spec_BuiltinArity.f k a0 = some r) :
    Calls Try.prog 14 #[.string a0] w fun e w' => e = .returned (.int .i64 r) ∧ Below w.heap.size w w' := by
  have HB := Aside0.mk (Below.refl w.heap.size w)
  have H : (if a0.toList = ([82, 69, 80, 76, 65, 67, 69] : List UInt8) then (spec_BuiltinArity.j0 k a0 a0 (a0.toList == ([82, 69, 80, 76, 65, 67, 69] : List UInt8))) else (if a0.toList = ([76, 80, 65, 68] : List UInt8) then (spec_BuiltinArity.j0 k a0 a0 (a0.toList == ([76, 80, 65, 68] : List UInt8))) else (if a0.toList = ([82, 80, 65, 68] : List UInt8) then (spec_BuiltinArity.j0 k a0 a0 (a0.toList == ([82, 80, 65, 68] : List UInt8))) else (spec_BuiltinArity.j0 k a0 a0 (a0.toList == ([83, 85, 66, 83, 84, 82] : List UInt8)))))) = some r := h
  clear h
  have HC2 := Aside0.mk H
  clear H
  go_enter Try.func14, Try.ntmps14
  go_upto_if 5 with (fail)
  go_cut [5] (fun v5 wc => ∃ (kq : Nat) (x5_1 : Bool), v5 = .bool x5_1 ∧ Aside0 (spec_BuiltinArity.j0 kq a0 a0 x5_1 = some r) ∧ Aside0 (kq ≤ k) ∧ Aside0 (Below w.heap.size w wc))
  case first =>
    have H := HC2.out
    clear HC2
    by_cases c3 : a0.toList = ([82, 69, 80, 76, 65, 67, 69] : List UInt8)
    · rw [if_pos c3] at H
      have c3b0 : (a0.toList == ([82, 69, 80, 76, 65, 67, 69] : List UInt8)) = true := beq_iff_eq.mpr c3
      have c3b1 : (a0.toList != ([82, 69, 80, 76, 65, 67, 69] : List UInt8)) = false := bne_eq_false_iff_eq.mpr c3
      clear c3
      (first | rw [c3b0] | (simp only [i64_w, i32_w]; rw [c3b0]) | skip)
      have H' := Aside0.mk H
      clear H
      go_wp2
      go_meet
      case rel => exact ⟨_, ((a0.toList == ([82, 69, 80, 76, 65, 67, 69] : List UInt8))), (by first | rfl | (simp; done) | (simp [*]; done)), H', ⟨by first | omega | exact Nat.le_refl _⟩, ⟨by repeat (first | (with_reducible first | exact HB.out | apply below_alloc | apply pw_below_drewN | apply below_drew1) | exact HB.out)⟩⟩
    · rw [if_neg c3] at H
      have c3b0 : (a0.toList == ([82, 69, 80, 76, 65, 67, 69] : List UInt8)) = false := beq_eq_false_iff_ne.mpr c3
      have c3b1 : (a0.toList != ([82, 69, 80, 76, 65, 67, 69] : List UInt8)) = true := bne_iff_ne.mpr c3
      (first | rw [c3b0] | (simp only [i64_w, i32_w]; rw [c3b0]) | skip)
      by_cases c4 : a0.toList = ([76, 80, 65, 68] : List UInt8)
      · rw [if_pos c4] at H
        have c4b0 : (a0.toList == ([76, 80, 65, 68] : List UInt8)) = true := beq_iff_eq.mpr c4
        have c4b1 : (a0.toList != ([76, 80, 65, 68] : List UInt8)) = false := bne_eq_false_iff_eq.mpr c4
        clear c4
        have H' := Aside0.mk H
        clear H
        go_wp2
        go_meet
        case rel => exact ⟨_, ((a0.toList == ([76, 80, 65, 68] : List UInt8))), (by first | rfl | (simp; done) | (simp [*]; done)), H', ⟨by first | omega | exact Nat.le_refl _⟩, ⟨by repeat (first | (with_reducible first | exact HB.out | apply below_alloc | apply pw_below_drewN | apply below_drew1) | exact HB.out)⟩⟩
      · rw [if_neg c4] at H
        have c4b0 : (a0.toList == ([76, 80, 65, 68] : List UInt8)) = false := beq_eq_false_iff_ne.mpr c4
        have c4b1 : (a0.toList != ([76, 80, 65, 68] : List UInt8)) = true := bne_iff_ne.mpr c4
        by_cases c5 : a0.toList = ([82, 80, 65, 68] : List UInt8)
        · rw [if_pos c5] at H
          have c5b0 : (a0.toList == ([82, 80, 65, 68] : List UInt8)) = true := beq_iff_eq.mpr c5
          have c5b1 : (a0.toList != ([82, 80, 65, 68] : List UInt8)) = false := bne_eq_false_iff_eq.mpr c5
          clear c5
          have H' := Aside0.mk H
          clear H
          go_wp2
          go_meet
          case rel => exact ⟨_, ((a0.toList == ([82, 80, 65, 68] : List UInt8))), (by first | rfl | (simp; done) | (simp [*]; done)), H', ⟨by first | omega | exact Nat.le_refl _⟩, ⟨by repeat (first | (with_reducible first | exact HB.out | apply below_alloc | apply pw_below_drewN | apply below_drew1) | exact HB.out)⟩⟩
        · rw [if_neg c5] at H
          have c5b0 : (a0.toList == ([82, 80, 65, 68] : List UInt8)) = false := beq_eq_false_iff_ne.mpr c5
          have c5b1 : (a0.toList != ([82, 80, 65, 68] : List UInt8)) = true := bne_iff_ne.mpr c5
          have H' := Aside0.mk H
          clear H
          go_wp2
          go_meet
          case rel => exact ⟨_, ((a0.toList == ([83, 85, 66, 83, 84, 82] : List UInt8))), (by first | rfl | (simp; done) | (simp [*]; done)), H', ⟨by first | omega | exact Nat.le_refl _⟩, ⟨by repeat (first | (with_reducible first | exact HB.out | apply below_alloc | apply pw_below_drewN | apply below_drew1) | exact HB.out)⟩⟩
  case rest =>
    clear HC2
    try clear c1
    try clear p2
    try clear c3
    try clear c3b0
    try clear c3b1
    try clear c4
    try clear c4b0
    try clear c4b1
    try clear c5
    try clear c5b0
    try clear c5b1
    obtain ⟨kq, x5_1, rfl, HA, HJ1, HB⟩ := hcut
    cases kq with
    | zero => exact absurd HA.out (by simp [spec_BuiltinArity.j0])
    | succ kj1 =>
      have H := HA.out
      clear HA
      simp only [spec_BuiltinArity.j0] at H
      by_cases c6 : x5_1 = true
      · subst c6
        have H1 : (some 3) = some r := by rw [if_pos rfl] at H; exact H
        clear H
        have H := H1
        clear H1
        obtain rfl := Option.some.inj H
        go_wp2
        go_ret
        exact ⟨by first | rfl | (simp [errW_none, errW_some] <;> rfl) | (simp [*, errW_none, errW_some] <;> rfl), by repeat (first | (with_reducible first | exact HB.out | apply below_alloc | apply pw_below_drewN | apply below_drew1) | exact HB.out)⟩
      · replace c6 := Bool.eq_false_iff.mpr c6
        subst c6
        have H1 : (if a0.toList = ([68, 85, 80, 76] : List UInt8) then (some 2) else (if a0.toList = ([65, 82, 82, 65, 89] : List UInt8) then (some 2) else (if a0.toList = ([75, 69, 89] : List UInt8) then (some 2) else (if a0.toList = ([73, 84, 69, 77] : List UInt8) then (some 2) else (if a0.toList = ([79, 80, 69, 78] : List UInt8) then (some 2) else (if a0.toList = ([80, 85, 84] : List UInt8) then (some 2) else ((spec_l17Predicates.f).bind fun t186 => ((spec_l17At.f kj1 t186 a0).bind fun t189 => (if t189 ≥ 0 then (spec_BuiltinArity.j1 kj1 a0 (a0.toList != ([73, 78, 84, 69, 71, 69, 82] : List UInt8))) else (spec_BuiltinArity.j1 kj1 a0 false)))))))))) = some r := by rw [if_neg (show ¬ (false = true) by decide)] at H; exact H
        clear H
        have H := H1
        clear H1
        by_cases c7 : a0.toList = ([68, 85, 80, 76] : List UInt8)
        · rw [if_pos c7] at H
          have c7b0 : (a0.toList == ([68, 85, 80, 76] : List UInt8)) = true := beq_iff_eq.mpr c7
          have c7b1 : (a0.toList != ([68, 85, 80, 76] : List UInt8)) = false := bne_eq_false_iff_eq.mpr c7
          clear c7
          obtain rfl := Option.some.inj H
          go_wp2
          go_ret
          exact ⟨by first | rfl | (simp [errW_none, errW_some] <;> rfl) | (simp [*, errW_none, errW_some] <;> rfl), by repeat (first | (with_reducible first | exact HB.out | apply below_alloc | apply pw_below_drewN | apply below_drew1) | exact HB.out)⟩
        · rw [if_neg c7] at H
          have c7b0 : (a0.toList == ([68, 85, 80, 76] : List UInt8)) = false := beq_eq_false_iff_ne.mpr c7
          have c7b1 : (a0.toList != ([68, 85, 80, 76] : List UInt8)) = true := bne_iff_ne.mpr c7
          by_cases c8 : a0.toList = ([65, 82, 82, 65, 89] : List UInt8)
          · rw [if_pos c8] at H
            have c8b0 : (a0.toList == ([65, 82, 82, 65, 89] : List UInt8)) = true := beq_iff_eq.mpr c8
            have c8b1 : (a0.toList != ([65, 82, 82, 65, 89] : List UInt8)) = false := bne_eq_false_iff_eq.mpr c8
            clear c8
            obtain rfl := Option.some.inj H
            go_wp2
            go_ret
            exact ⟨by first | rfl | (simp [errW_none, errW_some] <;> rfl) | (simp [*, errW_none, errW_some] <;> rfl), by repeat (first | (with_reducible first | exact HB.out | apply below_alloc | apply pw_below_drewN | apply below_drew1) | exact HB.out)⟩
          · rw [if_neg c8] at H
            have c8b0 : (a0.toList == ([65, 82, 82, 65, 89] : List UInt8)) = false := beq_eq_false_iff_ne.mpr c8
            have c8b1 : (a0.toList != ([65, 82, 82, 65, 89] : List UInt8)) = true := bne_iff_ne.mpr c8
            by_cases c9 : a0.toList = ([75, 69, 89] : List UInt8)
            · rw [if_pos c9] at H
              have c9b0 : (a0.toList == ([75, 69, 89] : List UInt8)) = true := beq_iff_eq.mpr c9
              have c9b1 : (a0.toList != ([75, 69, 89] : List UInt8)) = false := bne_eq_false_iff_eq.mpr c9
              clear c9
              obtain rfl := Option.some.inj H
              go_wp2
              go_ret
              exact ⟨by first | rfl | (simp [errW_none, errW_some] <;> rfl) | (simp [*, errW_none, errW_some] <;> rfl), by repeat (first | (with_reducible first | exact HB.out | apply below_alloc | apply pw_below_drewN | apply below_drew1) | exact HB.out)⟩
            · rw [if_neg c9] at H
              have c9b0 : (a0.toList == ([75, 69, 89] : List UInt8)) = false := beq_eq_false_iff_ne.mpr c9
              have c9b1 : (a0.toList != ([75, 69, 89] : List UInt8)) = true := bne_iff_ne.mpr c9
              by_cases c10 : a0.toList = ([73, 84, 69, 77] : List UInt8)
              · rw [if_pos c10] at H
                have c10b0 : (a0.toList == ([73, 84, 69, 77] : List UInt8)) = true := beq_iff_eq.mpr c10
                have c10b1 : (a0.toList != ([73, 84, 69, 77] : List UInt8)) = false := bne_eq_false_iff_eq.mpr c10
                clear c10
                obtain rfl := Option.some.inj H
                go_wp2
                go_ret
                exact ⟨by first | rfl | (simp [errW_none, errW_some] <;> rfl) | (simp [*, errW_none, errW_some] <;> rfl), by repeat (first | (with_reducible first | exact HB.out | apply below_alloc | apply pw_below_drewN | apply below_drew1) | exact HB.out)⟩
              · rw [if_neg c10] at H
                have c10b0 : (a0.toList == ([73, 84, 69, 77] : List UInt8)) = false := beq_eq_false_iff_ne.mpr c10
                have c10b1 : (a0.toList != ([73, 84, 69, 77] : List UInt8)) = true := bne_iff_ne.mpr c10
                by_cases c11 : a0.toList = ([79, 80, 69, 78] : List UInt8)
                · rw [if_pos c11] at H
                  have c11b0 : (a0.toList == ([79, 80, 69, 78] : List UInt8)) = true := beq_iff_eq.mpr c11
                  have c11b1 : (a0.toList != ([79, 80, 69, 78] : List UInt8)) = false := bne_eq_false_iff_eq.mpr c11
                  clear c11
                  obtain rfl := Option.some.inj H
                  go_wp2
                  go_ret
                  exact ⟨by first | rfl | (simp [errW_none, errW_some] <;> rfl) | (simp [*, errW_none, errW_some] <;> rfl), by repeat (first | (with_reducible first | exact HB.out | apply below_alloc | apply pw_below_drewN | apply below_drew1) | exact HB.out)⟩
                · rw [if_neg c11] at H
                  have c11b0 : (a0.toList == ([79, 80, 69, 78] : List UInt8)) = false := beq_eq_false_iff_ne.mpr c11
                  have c11b1 : (a0.toList != ([79, 80, 69, 78] : List UInt8)) = true := bne_iff_ne.mpr c11
                  by_cases c12 : a0.toList = ([80, 85, 84] : List UInt8)
                  · rw [if_pos c12] at H
                    have c12b0 : (a0.toList == ([80, 85, 84] : List UInt8)) = true := beq_iff_eq.mpr c12
                    have c12b1 : (a0.toList != ([80, 85, 84] : List UInt8)) = false := bne_eq_false_iff_eq.mpr c12
                    clear c12
                    obtain rfl := Option.some.inj H
                    go_wp2
                    go_ret
                    exact ⟨by first | rfl | (simp [errW_none, errW_some] <;> rfl) | (simp [*, errW_none, errW_some] <;> rfl), by repeat (first | (with_reducible first | exact HB.out | apply below_alloc | apply pw_below_drewN | apply below_drew1) | exact HB.out)⟩
                  · rw [if_neg c12] at H
                    have c12b0 : (a0.toList == ([80, 85, 84] : List UInt8)) = false := beq_eq_false_iff_ne.mpr c12
                    have c12b1 : (a0.toList != ([80, 85, 84] : List UInt8)) = true := bne_iff_ne.mpr c12
                    replace H := Option.bind_eq_some_iff.mp H
                    obtain ⟨t186, A130, H⟩ := H
                    replace H : ((spec_l17At.f kj1 t186 a0).bind fun t189 => (if t189 ≥ 0 then (spec_BuiltinArity.j1 kj1 a0 (a0.toList != ([73, 78, 84, 69, 71, 69, 82] : List UInt8))) else (spec_BuiltinArity.j1 kj1 a0 false))) = some r := H
                    have A13 := Aside0.mk A130
                    clear A130
                    replace H := Option.bind_eq_some_iff.mp H
                    obtain ⟨t189, A140, H⟩ := H
                    replace H : (if t189 ≥ 0 then (spec_BuiltinArity.j1 kj1 a0 (a0.toList != ([73, 78, 84, 69, 71, 69, 82] : List UInt8))) else (spec_BuiltinArity.j1 kj1 a0 false)) = some r := H
                    have A14 := Aside0.mk A140
                    clear A140
                    have HC15 := Aside0.mk H
                    clear H
                    go_upto_region 15 with (first | ((with_reducible refine gate_callee (f := 35) rfl ?_); refine goesL_ (some 17) rfl rfl Try.func35 (by kernel_rfl) rfl #[] rfl (by (try simp only [List.map_toArray, List.map_cons, List.map_nil]); first | done | rfl | (simp only [List.length_drop, List.length_take]; rfl)) ?_; (with_reducible refine (spec_l17Predicates.calls  t186 _ A13.out).mono ?_); rintro e w16 ⟨v187, rfl, ho0, hb⟩; refine ⟨_, rfl, ?_⟩; have n0_ := Aside0.mk (Kd.R_lower ho0 (below_size (by repeat (first | (with_reducible first | exact HB.out | apply below_alloc | apply pw_below_drewN | apply below_drew1) | exact HB.out)))); have n1_ := Aside0.mk (below_step (by repeat (first | (with_reducible first | exact HB.out | apply below_alloc | apply pw_below_drewN | apply below_drew1) | exact HB.out)) hb); clear HB; have HO188 := n0_; have HB := n1_; clear n0_ n1_; (try clear hb); (try clear hb2); (try clear hk); (try clear hi); (try clear ho0); obtain ⟨Ao17, co17, eo17⟩ := Kd.R_slice HO188.out; subst eo17) | ((with_reducible refine gate_callee (f := 34) rfl ?_); refine goesL_ (some 19) rfl rfl Try.func34 (by kernel_rfl) rfl #[.slice Ao17 t186.length co17, .string a0] rfl (by (try simp only [List.map_toArray, List.map_cons, List.map_nil]); first | done | rfl | (simp only [List.length_drop, List.length_take]; rfl)) ?_; (with_reducible refine (spec_l17At.calls kj1 _ _ t186 a0 t189 _ ?side1 ?side2 A14.out).mono ?_); (case side1 => repeat (first | exact (Kd.R_reads' HO188.out).2.2 | (with_reducible refine Kd.C_alloc ?_ _) | (with_reducible refine Kd.C_drewN ?_ _) | (with_reducible refine Kd.C_drew ?_))); (case side2 => exact (Kd.R_reads' HO188.out).2.1); rintro e w' ⟨rfl, ⟨nd, rfl⟩⟩; refine ⟨_, rfl, ?_⟩))
                    (try simp only [Act.put, List.setIfInBounds_toArray, List.set_cons_zero, List.set_cons_succ])
                    go_cut [25] (fun v25 wc => ∃ (kq : Nat) (x25_14 : Bool), v25 = .bool x25_14 ∧ Aside0 (spec_BuiltinArity.j1 kq a0 x25_14 = some r) ∧ Aside0 (kq ≤ kj1) ∧ Aside0 (Below w.heap.size w wc))
                    case first =>
                      have H := HC15.out
                      clear HC15
                      by_cases c18 : t189 ≥ 0
                      · rw [if_pos c18] at H
                        have c18b0 : decide (0 ≤ t189) = true := decide_eq_true c18
                        clear c18
                        (first | rw [c18b0] | (simp only [i64_w, i32_w]; rw [c18b0]) | skip)
                        have H' := Aside0.mk H
                        clear H
                        go_wp2
                        go_meet
                        case rel => exact ⟨_, ((a0.toList != ([73, 78, 84, 69, 71, 69, 82] : List UInt8))), (by first | rfl | (simp; done) | (simp [*]; done)), H', ⟨by have := HJ1.out; first | omega | exact Nat.le_refl _⟩, ⟨by repeat (first | (with_reducible first | exact HB.out | apply below_alloc | apply pw_below_drewN | apply below_drew1) | exact HB.out)⟩⟩
                      · rw [if_neg c18] at H
                        have c18b0 : decide (0 ≤ t189) = false := decide_eq_false c18
                        clear c18
                        (first | rw [c18b0] | (simp only [i64_w, i32_w]; rw [c18b0]) | skip)
                        have H' := Aside0.mk H
                        clear H
                        go_wp2
                        go_meet
                        case rel => exact ⟨_, (false), (by first | rfl | (simp; done) | (simp [*]; done)), H', ⟨by have := HJ1.out; first | omega | exact Nat.le_refl _⟩, ⟨by repeat (first | (with_reducible first | exact HB.out | apply below_alloc | apply pw_below_drewN | apply below_drew1) | exact HB.out)⟩⟩
                    case rest =>
                      clear HC15
                      try clear c1
                      try clear p2
                      try clear c3
                      try clear c3b0
                      try clear c3b1
                      try clear c4
                      try clear c4b0
                      try clear c4b1
                      try clear c5
                      try clear c5b0
                      try clear c5b1
                      try clear c6
                      try clear c7
                      try clear c7b0
                      try clear c7b1
                      try clear c8
                      try clear c8b0
                      try clear c8b1
                      try clear c9
                      try clear c9b0
                      try clear c9b1
                      try clear c10
                      try clear c10b0
                      try clear c10b1
                      try clear c11
                      try clear c11b0
                      try clear c11b1
                      try clear c12
                      try clear c12b0
                      try clear c12b1
                      try clear c14
                      try clear c18
                      try clear c18b0
                      try clear p2
                      obtain ⟨kq, x25_14, rfl, HA, HJ14, HB⟩ := hcut
                      cases kq with
                      | zero => exact absurd HA.out (by simp [spec_BuiltinArity.j1])
                      | succ kj14 =>
                        have H := HA.out
                        clear HA
                        simp only [spec_BuiltinArity.j1] at H
                        by_cases c19 : x25_14 = true
                        · subst c19
                          have H1 : (some 2) = some r := by rw [if_pos rfl] at H; exact H
                          clear H
                          have H := H1
                          clear H1
                          obtain rfl := Option.some.inj H
                          go_wp2
                          go_ret
                          exact ⟨by first | rfl | (simp [errW_none, errW_some] <;> rfl) | (simp [*, errW_none, errW_some] <;> rfl), by repeat (first | (with_reducible first | exact HB.out | apply below_alloc | apply pw_below_drewN | apply below_drew1) | exact HB.out)⟩
                        · replace c19 := Bool.eq_false_iff.mpr c19
                          subst c19
                          have H1 : ((spec_BuiltinNames.f kj14).bind fun t190 => ((spec_l17At.f kj14 t190 a0).bind fun t193 => (if t193 ≥ 0 then (some 1) else (some (-1))))) = some r := by rw [if_neg (show ¬ (false = true) by decide)] at H; exact H
                          clear H
                          have H := H1
                          clear H1
                          replace H := Option.bind_eq_some_iff.mp H
                          obtain ⟨t190, A200, H⟩ := H
                          replace H : ((spec_l17At.f kj14 t190 a0).bind fun t193 => (if t193 ≥ 0 then (some 1) else (some (-1)))) = some r := H
                          have A20 := Aside0.mk A200
                          clear A200
                          replace H := Option.bind_eq_some_iff.mp H
                          obtain ⟨t193, A210, H⟩ := H
                          replace H : (if t193 ≥ 0 then (some 1) else (some (-1))) = some r := H
                          have A21 := Aside0.mk A210
                          clear A210
                          by_cases c22 : t193 ≥ 0
                          · rw [if_pos c22] at H
                            have c22b0 : decide (0 ≤ t193) = true := decide_eq_true c22
                            clear c22
                            obtain rfl := Option.some.inj H
                            go_wp2_with (first | ((with_reducible refine gate_callee (f := 20) rfl ?_); refine goesL_ (some 26) rfl rfl Try.func20 (by kernel_rfl) rfl #[] rfl (by (try simp only [List.map_toArray, List.map_cons, List.map_nil]); first | done | rfl | (simp only [List.length_drop, List.length_take]; rfl)) ?_; (with_reducible refine (spec_BuiltinNames.calls kj14  t190 _ A20.out).mono ?_); rintro e w23 ⟨v191, rfl, ho0, hb⟩; refine ⟨_, rfl, ?_⟩; have n0_ := Aside0.mk (Kd.R_lower ho0 (below_size (by repeat (first | (with_reducible first | exact HB.out | apply below_alloc | apply pw_below_drewN | apply below_drew1) | exact HB.out)))); have n1_ := Aside0.mk (below_step (by repeat (first | (with_reducible first | exact HB.out | apply below_alloc | apply pw_below_drewN | apply below_drew1) | exact HB.out)) hb); clear HB; have HO192 := n0_; have HB := n1_; clear n0_ n1_; (try clear hb); (try clear hb2); (try clear hk); (try clear hi); (try clear ho0); obtain ⟨Ao24, co24, eo24⟩ := Kd.R_slice HO192.out; subst eo24) | ((with_reducible refine gate_callee (f := 34) rfl ?_); refine goesL_ (some 28) rfl rfl Try.func34 (by kernel_rfl) rfl #[.slice Ao24 t190.length co24, .string a0] rfl (by (try simp only [List.map_toArray, List.map_cons, List.map_nil]); first | done | rfl | (simp only [List.length_drop, List.length_take]; rfl)) ?_; (with_reducible refine (spec_l17At.calls kj14 _ _ t190 a0 t193 _ ?side1 ?side2 A21.out).mono ?_); (case side1 => repeat (first | exact (Kd.R_reads' HO192.out).2.2 | (with_reducible refine Kd.C_alloc ?_ _) | (with_reducible refine Kd.C_drewN ?_ _) | (with_reducible refine Kd.C_drew ?_))); (case side2 => exact (Kd.R_reads' HO192.out).2.1); rintro e w' ⟨rfl, ⟨nd, rfl⟩⟩; refine ⟨_, rfl, ?_⟩))
                            go_ret
                            exact ⟨by first | rfl | (simp [errW_none, errW_some] <;> rfl) | (simp [*, errW_none, errW_some] <;> rfl), by repeat (first | (with_reducible first | exact HB.out | apply below_alloc | apply pw_below_drewN | apply below_drew1) | exact HB.out)⟩
                          · rw [if_neg c22] at H
                            have c22b0 : decide (0 ≤ t193) = false := decide_eq_false c22
                            clear c22
                            obtain rfl := Option.some.inj H
                            go_wp2_with (first | ((with_reducible refine gate_callee (f := 20) rfl ?_); refine goesL_ (some 26) rfl rfl Try.func20 (by kernel_rfl) rfl #[] rfl (by (try simp only [List.map_toArray, List.map_cons, List.map_nil]); first | done | rfl | (simp only [List.length_drop, List.length_take]; rfl)) ?_; (with_reducible refine (spec_BuiltinNames.calls kj14  t190 _ A20.out).mono ?_); rintro e w25 ⟨v191, rfl, ho0, hb⟩; refine ⟨_, rfl, ?_⟩; have n0_ := Aside0.mk (Kd.R_lower ho0 (below_size (by repeat (first | (with_reducible first | exact HB.out | apply below_alloc | apply pw_below_drewN | apply below_drew1) | exact HB.out)))); have n1_ := Aside0.mk (below_step (by repeat (first | (with_reducible first | exact HB.out | apply below_alloc | apply pw_below_drewN | apply below_drew1) | exact HB.out)) hb); clear HB; have HO192 := n0_; have HB := n1_; clear n0_ n1_; (try clear hb); (try clear hb2); (try clear hk); (try clear hi); (try clear ho0); obtain ⟨Ao26, co26, eo26⟩ := Kd.R_slice HO192.out; subst eo26) | ((with_reducible refine gate_callee (f := 34) rfl ?_); refine goesL_ (some 28) rfl rfl Try.func34 (by kernel_rfl) rfl #[.slice Ao26 t190.length co26, .string a0] rfl (by (try simp only [List.map_toArray, List.map_cons, List.map_nil]); first | done | rfl | (simp only [List.length_drop, List.length_take]; rfl)) ?_; (with_reducible refine (spec_l17At.calls kj14 _ _ t190 a0 t193 _ ?side1 ?side2 A21.out).mono ?_); (case side1 => repeat (first | exact (Kd.R_reads' HO192.out).2.2 | (with_reducible refine Kd.C_alloc ?_ _) | (with_reducible refine Kd.C_drewN ?_ _) | (with_reducible refine Kd.C_drew ?_))); (case side2 => exact (Kd.R_reads' HO192.out).2.1); rintro e w' ⟨rfl, ⟨nd, rfl⟩⟩; refine ⟨_, rfl, ?_⟩))
                            go_ret
                            exact ⟨by first | rfl | (simp [errW_none, errW_some] <;> rfl) | (simp [*, errW_none, errW_some] <;> rfl), by repeat (first | (with_reducible first | exact HB.out | apply below_alloc | apply pw_below_drewN | apply below_drew1) | exact HB.out)⟩

/-! ### impl_builtins: function 46 -/
def impl_builtins.f  : Option ((List (S56))) := some (([(⟨(⟨#[65, 78, 89]⟩ : ByteArray), 3, (⟨#[116]⟩ : ByteArray)⟩ : S56), (⟨(⟨#[65, 82, 66, 78, 79]⟩ : ByteArray), 3, (⟨#[112]⟩ : ByteArray)⟩ : S56), (⟨(⟨#[65, 82, 82, 65, 89]⟩ : ByteArray), 4, (⟨#[110, 118]⟩ : ByteArray)⟩ : S56), (⟨(⟨#[66, 82, 69, 65, 75]⟩ : ByteArray), 3, (⟨#[116]⟩ : ByteArray)⟩ : S56), (⟨(⟨#[67, 72, 65, 82]⟩ : ByteArray), 2, (⟨#[110]⟩ : ByteArray)⟩ : S56), (⟨(⟨#[67, 76, 79, 83, 69]⟩ : ByteArray), 5, (⟨#[116]⟩ : ByteArray)⟩ : S56), (⟨(⟨#[67, 79, 80, 89]⟩ : ByteArray), 4, (⟨#[118]⟩ : ByteArray)⟩ : S56), (⟨(⟨#[68, 65, 84, 65, 84, 89, 80, 69]⟩ : ByteArray), 2, (⟨#[118]⟩ : ByteArray)⟩ : S56), (⟨(⟨#[68, 73, 70, 70, 69, 82]⟩ : ByteArray), 1, (⟨#[118, 118]⟩ : ByteArray)⟩ : S56), (⟨(⟨#[68, 85, 80, 76]⟩ : ByteArray), 2, (⟨#[116, 110]⟩ : ByteArray)⟩ : S56), (⟨(⟨#[69, 81]⟩ : ByteArray), 1, (⟨#[118, 118]⟩ : ByteArray)⟩ : S56), (⟨(⟨#[69, 82, 65, 83, 69]⟩ : ByteArray), 5, (⟨#[116]⟩ : ByteArray)⟩ : S56), (⟨(⟨#[71, 69]⟩ : ByteArray), 1, (⟨#[118, 118]⟩ : ByteArray)⟩ : S56), (⟨(⟨#[71, 69, 84]⟩ : ByteArray), 5, (⟨#[116]⟩ : ByteArray)⟩ : S56), (⟨(⟨#[71, 84]⟩ : ByteArray), 1, (⟨#[118, 118]⟩ : ByteArray)⟩ : S56), (⟨(⟨#[73, 68, 69, 78, 84]⟩ : ByteArray), 1, (⟨#[118, 118]⟩ : ByteArray)⟩ : S56), (⟨(⟨#[73, 78, 84, 69, 71, 69, 82]⟩ : ByteArray), 1, (⟨#[118]⟩ : ByteArray)⟩ : S56), (⟨(⟨#[73, 84, 69, 77]⟩ : ByteArray), 4, (⟨#[118, 110]⟩ : ByteArray)⟩ : S56), (⟨(⟨#[75, 69, 89]⟩ : ByteArray), 4, (⟨#[118, 110]⟩ : ByteArray)⟩ : S56), (⟨(⟨#[76, 69]⟩ : ByteArray), 1, (⟨#[118, 118]⟩ : ByteArray)⟩ : S56), (⟨(⟨#[76, 69, 78]⟩ : ByteArray), 3, (⟨#[110]⟩ : ByteArray)⟩ : S56), (⟨(⟨#[76, 69, 78, 71, 84, 72]⟩ : ByteArray), 4, (⟨#[118]⟩ : ByteArray)⟩ : S56), (⟨(⟨#[76, 71, 84]⟩ : ByteArray), 1, (⟨#[118, 118]⟩ : ByteArray)⟩ : S56), (⟨(⟨#[76, 80, 65, 68]⟩ : ByteArray), 2, (⟨#[116, 110, 116]⟩ : ByteArray)⟩ : S56), (⟨(⟨#[76, 84]⟩ : ByteArray), 1, (⟨#[118, 118]⟩ : ByteArray)⟩ : S56), (⟨(⟨#[78, 69]⟩ : ByteArray), 1, (⟨#[118, 118]⟩ : ByteArray)⟩ : S56), (⟨(⟨#[78, 79, 84, 65, 78, 89]⟩ : ByteArray), 3, (⟨#[116]⟩ : ByteArray)⟩ : S56), (⟨(⟨#[79, 80, 69, 78]⟩ : ByteArray), 5, (⟨#[116, 116]⟩ : ByteArray)⟩ : S56), (⟨(⟨#[79, 82, 68]⟩ : ByteArray), 2, (⟨#[116]⟩ : ByteArray)⟩ : S56), (⟨(⟨#[80, 79, 83]⟩ : ByteArray), 3, (⟨#[110]⟩ : ByteArray)⟩ : S56), (⟨(⟨#[80, 85, 84]⟩ : ByteArray), 5, (⟨#[116, 116]⟩ : ByteArray)⟩ : S56), (⟨(⟨#[82, 69, 80, 76, 65, 67, 69]⟩ : ByteArray), 2, (⟨#[116, 116, 116]⟩ : ByteArray)⟩ : S56), (⟨(⟨#[82, 69, 86, 69, 82, 83, 69]⟩ : ByteArray), 2, (⟨#[116]⟩ : ByteArray)⟩ : S56), (⟨(⟨#[82, 69, 87, 73, 78, 68]⟩ : ByteArray), 5, (⟨#[116]⟩ : ByteArray)⟩ : S56), (⟨(⟨#[82, 80, 65, 68]⟩ : ByteArray), 2, (⟨#[116, 110, 116]⟩ : ByteArray)⟩ : S56), (⟨(⟨#[82, 80, 79, 83]⟩ : ByteArray), 3, (⟨#[110]⟩ : ByteArray)⟩ : S56), (⟨(⟨#[82, 84, 65, 66]⟩ : ByteArray), 3, (⟨#[110]⟩ : ByteArray)⟩ : S56), (⟨(⟨#[83, 73, 90, 69]⟩ : ByteArray), 2, (⟨#[116]⟩ : ByteArray)⟩ : S56), (⟨(⟨#[83, 80, 65, 78]⟩ : ByteArray), 3, (⟨#[116]⟩ : ByteArray)⟩ : S56), (⟨(⟨#[83, 85, 66, 83, 84, 82]⟩ : ByteArray), 2, (⟨#[116, 110, 110]⟩ : ByteArray)⟩ : S56), (⟨(⟨#[84, 65, 66]⟩ : ByteArray), 3, (⟨#[110]⟩ : ByteArray)⟩ : S56), (⟨(⟨#[84, 65, 66, 76, 69]⟩ : ByteArray), 4, (⟨#[118]⟩ : ByteArray)⟩ : S56), (⟨(⟨#[84, 82, 73, 77]⟩ : ByteArray), 2, (⟨#[116]⟩ : ByteArray)⟩ : S56)] : List (S56)))
set_option maxHeartbeats 8000000 in
set_option maxRecDepth 100000 in
theorem impl_builtins.calls  (r : List (S56)) (w : World) (h : impl_builtins.f  = some r) :
    Calls Try.prog 46 #[] w fun e w' => ∃ v0_ : Value, e = .returned (v0_) ∧ Kd.R k56 56 w' w.heap.size (fun _ => True) v0_ r ∧ Below w.heap.size w w' := by
  have hu56 := Try.underlying56
  have HB := Aside0.mk (Below.refl w.heap.size w)
  have H : (some (([(⟨(⟨#[65, 78, 89]⟩ : ByteArray), 3, (⟨#[116]⟩ : ByteArray)⟩ : S56), (⟨(⟨#[65, 82, 66, 78, 79]⟩ : ByteArray), 3, (⟨#[112]⟩ : ByteArray)⟩ : S56), (⟨(⟨#[65, 82, 82, 65, 89]⟩ : ByteArray), 4, (⟨#[110, 118]⟩ : ByteArray)⟩ : S56), (⟨(⟨#[66, 82, 69, 65, 75]⟩ : ByteArray), 3, (⟨#[116]⟩ : ByteArray)⟩ : S56), (⟨(⟨#[67, 72, 65, 82]⟩ : ByteArray), 2, (⟨#[110]⟩ : ByteArray)⟩ : S56), (⟨(⟨#[67, 76, 79, 83, 69]⟩ : ByteArray), 5, (⟨#[116]⟩ : ByteArray)⟩ : S56), (⟨(⟨#[67, 79, 80, 89]⟩ : ByteArray), 4, (⟨#[118]⟩ : ByteArray)⟩ : S56), (⟨(⟨#[68, 65, 84, 65, 84, 89, 80, 69]⟩ : ByteArray), 2, (⟨#[118]⟩ : ByteArray)⟩ : S56), (⟨(⟨#[68, 73, 70, 70, 69, 82]⟩ : ByteArray), 1, (⟨#[118, 118]⟩ : ByteArray)⟩ : S56), (⟨(⟨#[68, 85, 80, 76]⟩ : ByteArray), 2, (⟨#[116, 110]⟩ : ByteArray)⟩ : S56), (⟨(⟨#[69, 81]⟩ : ByteArray), 1, (⟨#[118, 118]⟩ : ByteArray)⟩ : S56), (⟨(⟨#[69, 82, 65, 83, 69]⟩ : ByteArray), 5, (⟨#[116]⟩ : ByteArray)⟩ : S56), (⟨(⟨#[71, 69]⟩ : ByteArray), 1, (⟨#[118, 118]⟩ : ByteArray)⟩ : S56), (⟨(⟨#[71, 69, 84]⟩ : ByteArray), 5, (⟨#[116]⟩ : ByteArray)⟩ : S56), (⟨(⟨#[71, 84]⟩ : ByteArray), 1, (⟨#[118, 118]⟩ : ByteArray)⟩ : S56), (⟨(⟨#[73, 68, 69, 78, 84]⟩ : ByteArray), 1, (⟨#[118, 118]⟩ : ByteArray)⟩ : S56), (⟨(⟨#[73, 78, 84, 69, 71, 69, 82]⟩ : ByteArray), 1, (⟨#[118]⟩ : ByteArray)⟩ : S56), (⟨(⟨#[73, 84, 69, 77]⟩ : ByteArray), 4, (⟨#[118, 110]⟩ : ByteArray)⟩ : S56), (⟨(⟨#[75, 69, 89]⟩ : ByteArray), 4, (⟨#[118, 110]⟩ : ByteArray)⟩ : S56), (⟨(⟨#[76, 69]⟩ : ByteArray), 1, (⟨#[118, 118]⟩ : ByteArray)⟩ : S56), (⟨(⟨#[76, 69, 78]⟩ : ByteArray), 3, (⟨#[110]⟩ : ByteArray)⟩ : S56), (⟨(⟨#[76, 69, 78, 71, 84, 72]⟩ : ByteArray), 4, (⟨#[118]⟩ : ByteArray)⟩ : S56), (⟨(⟨#[76, 71, 84]⟩ : ByteArray), 1, (⟨#[118, 118]⟩ : ByteArray)⟩ : S56), (⟨(⟨#[76, 80, 65, 68]⟩ : ByteArray), 2, (⟨#[116, 110, 116]⟩ : ByteArray)⟩ : S56), (⟨(⟨#[76, 84]⟩ : ByteArray), 1, (⟨#[118, 118]⟩ : ByteArray)⟩ : S56), (⟨(⟨#[78, 69]⟩ : ByteArray), 1, (⟨#[118, 118]⟩ : ByteArray)⟩ : S56), (⟨(⟨#[78, 79, 84, 65, 78, 89]⟩ : ByteArray), 3, (⟨#[116]⟩ : ByteArray)⟩ : S56), (⟨(⟨#[79, 80, 69, 78]⟩ : ByteArray), 5, (⟨#[116, 116]⟩ : ByteArray)⟩ : S56), (⟨(⟨#[79, 82, 68]⟩ : ByteArray), 2, (⟨#[116]⟩ : ByteArray)⟩ : S56), (⟨(⟨#[80, 79, 83]⟩ : ByteArray), 3, (⟨#[110]⟩ : ByteArray)⟩ : S56), (⟨(⟨#[80, 85, 84]⟩ : ByteArray), 5, (⟨#[116, 116]⟩ : ByteArray)⟩ : S56), (⟨(⟨#[82, 69, 80, 76, 65, 67, 69]⟩ : ByteArray), 2, (⟨#[116, 116, 116]⟩ : ByteArray)⟩ : S56), (⟨(⟨#[82, 69, 86, 69, 82, 83, 69]⟩ : ByteArray), 2, (⟨#[116]⟩ : ByteArray)⟩ : S56), (⟨(⟨#[82, 69, 87, 73, 78, 68]⟩ : ByteArray), 5, (⟨#[116]⟩ : ByteArray)⟩ : S56), (⟨(⟨#[82, 80, 65, 68]⟩ : ByteArray), 2, (⟨#[116, 110, 116]⟩ : ByteArray)⟩ : S56), (⟨(⟨#[82, 80, 79, 83]⟩ : ByteArray), 3, (⟨#[110]⟩ : ByteArray)⟩ : S56), (⟨(⟨#[82, 84, 65, 66]⟩ : ByteArray), 3, (⟨#[110]⟩ : ByteArray)⟩ : S56), (⟨(⟨#[83, 73, 90, 69]⟩ : ByteArray), 2, (⟨#[116]⟩ : ByteArray)⟩ : S56), (⟨(⟨#[83, 80, 65, 78]⟩ : ByteArray), 3, (⟨#[116]⟩ : ByteArray)⟩ : S56), (⟨(⟨#[83, 85, 66, 83, 84, 82]⟩ : ByteArray), 2, (⟨#[116, 110, 110]⟩ : ByteArray)⟩ : S56), (⟨(⟨#[84, 65, 66]⟩ : ByteArray), 3, (⟨#[110]⟩ : ByteArray)⟩ : S56), (⟨(⟨#[84, 65, 66, 76, 69]⟩ : ByteArray), 4, (⟨#[118]⟩ : ByteArray)⟩ : S56), (⟨(⟨#[84, 82, 73, 77]⟩ : ByteArray), 2, (⟨#[116]⟩ : ByteArray)⟩ : S56)] : List (S56)))) = some r := h
  clear h
  obtain ⟨y194, hy194⟩ : ∃ y_ : List (S56), y_ = (([(⟨(⟨#[65, 78, 89]⟩ : ByteArray), 3, (⟨#[116]⟩ : ByteArray)⟩ : S56), (⟨(⟨#[65, 82, 66, 78, 79]⟩ : ByteArray), 3, (⟨#[112]⟩ : ByteArray)⟩ : S56), (⟨(⟨#[65, 82, 82, 65, 89]⟩ : ByteArray), 4, (⟨#[110, 118]⟩ : ByteArray)⟩ : S56), (⟨(⟨#[66, 82, 69, 65, 75]⟩ : ByteArray), 3, (⟨#[116]⟩ : ByteArray)⟩ : S56), (⟨(⟨#[67, 72, 65, 82]⟩ : ByteArray), 2, (⟨#[110]⟩ : ByteArray)⟩ : S56), (⟨(⟨#[67, 76, 79, 83, 69]⟩ : ByteArray), 5, (⟨#[116]⟩ : ByteArray)⟩ : S56), (⟨(⟨#[67, 79, 80, 89]⟩ : ByteArray), 4, (⟨#[118]⟩ : ByteArray)⟩ : S56), (⟨(⟨#[68, 65, 84, 65, 84, 89, 80, 69]⟩ : ByteArray), 2, (⟨#[118]⟩ : ByteArray)⟩ : S56), (⟨(⟨#[68, 73, 70, 70, 69, 82]⟩ : ByteArray), 1, (⟨#[118, 118]⟩ : ByteArray)⟩ : S56), (⟨(⟨#[68, 85, 80, 76]⟩ : ByteArray), 2, (⟨#[116, 110]⟩ : ByteArray)⟩ : S56), (⟨(⟨#[69, 81]⟩ : ByteArray), 1, (⟨#[118, 118]⟩ : ByteArray)⟩ : S56), (⟨(⟨#[69, 82, 65, 83, 69]⟩ : ByteArray), 5, (⟨#[116]⟩ : ByteArray)⟩ : S56), (⟨(⟨#[71, 69]⟩ : ByteArray), 1, (⟨#[118, 118]⟩ : ByteArray)⟩ : S56), (⟨(⟨#[71, 69, 84]⟩ : ByteArray), 5, (⟨#[116]⟩ : ByteArray)⟩ : S56), (⟨(⟨#[71, 84]⟩ : ByteArray), 1, (⟨#[118, 118]⟩ : ByteArray)⟩ : S56), (⟨(⟨#[73, 68, 69, 78, 84]⟩ : ByteArray), 1, (⟨#[118, 118]⟩ : ByteArray)⟩ : S56), (⟨(⟨#[73, 78, 84, 69, 71, 69, 82]⟩ : ByteArray), 1, (⟨#[118]⟩ : ByteArray)⟩ : S56), (⟨(⟨#[73, 84, 69, 77]⟩ : ByteArray), 4, (⟨#[118, 110]⟩ : ByteArray)⟩ : S56), (⟨(⟨#[75, 69, 89]⟩ : ByteArray), 4, (⟨#[118, 110]⟩ : ByteArray)⟩ : S56), (⟨(⟨#[76, 69]⟩ : ByteArray), 1, (⟨#[118, 118]⟩ : ByteArray)⟩ : S56), (⟨(⟨#[76, 69, 78]⟩ : ByteArray), 3, (⟨#[110]⟩ : ByteArray)⟩ : S56), (⟨(⟨#[76, 69, 78, 71, 84, 72]⟩ : ByteArray), 4, (⟨#[118]⟩ : ByteArray)⟩ : S56), (⟨(⟨#[76, 71, 84]⟩ : ByteArray), 1, (⟨#[118, 118]⟩ : ByteArray)⟩ : S56), (⟨(⟨#[76, 80, 65, 68]⟩ : ByteArray), 2, (⟨#[116, 110, 116]⟩ : ByteArray)⟩ : S56), (⟨(⟨#[76, 84]⟩ : ByteArray), 1, (⟨#[118, 118]⟩ : ByteArray)⟩ : S56), (⟨(⟨#[78, 69]⟩ : ByteArray), 1, (⟨#[118, 118]⟩ : ByteArray)⟩ : S56), (⟨(⟨#[78, 79, 84, 65, 78, 89]⟩ : ByteArray), 3, (⟨#[116]⟩ : ByteArray)⟩ : S56), (⟨(⟨#[79, 80, 69, 78]⟩ : ByteArray), 5, (⟨#[116, 116]⟩ : ByteArray)⟩ : S56), (⟨(⟨#[79, 82, 68]⟩ : ByteArray), 2, (⟨#[116]⟩ : ByteArray)⟩ : S56), (⟨(⟨#[80, 79, 83]⟩ : ByteArray), 3, (⟨#[110]⟩ : ByteArray)⟩ : S56), (⟨(⟨#[80, 85, 84]⟩ : ByteArray), 5, (⟨#[116, 116]⟩ : ByteArray)⟩ : S56), (⟨(⟨#[82, 69, 80, 76, 65, 67, 69]⟩ : ByteArray), 2, (⟨#[116, 116, 116]⟩ : ByteArray)⟩ : S56), (⟨(⟨#[82, 69, 86, 69, 82, 83, 69]⟩ : ByteArray), 2, (⟨#[116]⟩ : ByteArray)⟩ : S56), (⟨(⟨#[82, 69, 87, 73, 78, 68]⟩ : ByteArray), 5, (⟨#[116]⟩ : ByteArray)⟩ : S56), (⟨(⟨#[82, 80, 65, 68]⟩ : ByteArray), 2, (⟨#[116, 110, 116]⟩ : ByteArray)⟩ : S56), (⟨(⟨#[82, 80, 79, 83]⟩ : ByteArray), 3, (⟨#[110]⟩ : ByteArray)⟩ : S56), (⟨(⟨#[82, 84, 65, 66]⟩ : ByteArray), 3, (⟨#[110]⟩ : ByteArray)⟩ : S56), (⟨(⟨#[83, 73, 90, 69]⟩ : ByteArray), 2, (⟨#[116]⟩ : ByteArray)⟩ : S56), (⟨(⟨#[83, 80, 65, 78]⟩ : ByteArray), 3, (⟨#[116]⟩ : ByteArray)⟩ : S56), (⟨(⟨#[83, 85, 66, 83, 84, 82]⟩ : ByteArray), 2, (⟨#[116, 110, 110]⟩ : ByteArray)⟩ : S56), (⟨(⟨#[84, 65, 66]⟩ : ByteArray), 3, (⟨#[110]⟩ : ByteArray)⟩ : S56), (⟨(⟨#[84, 65, 66, 76, 69]⟩ : ByteArray), 4, (⟨#[118]⟩ : ByteArray)⟩ : S56), (⟨(⟨#[84, 82, 73, 77]⟩ : ByteArray), 2, (⟨#[116]⟩ : ByteArray)⟩ : S56)] : List (S56))) := ⟨_, rfl⟩
  replace H : (some y194) = some r := by first | (rw [hy194]; with_reducible exact H) | (have H2_ := (Option.bind_some _ _).symm.trans H; rw [hy194]; with_reducible exact H2_) | (have H2_ := (Option.bind_some _ _).symm.trans H; with_reducible exact H2_) | with_reducible exact H | (rw [hy194]; exact H) | exact H
  have Ny194 := Aside0.mk hy194
  clear hy194
  obtain rfl := Option.some.inj H
  go_enter Try.func46, Try.ntmps46
  go_wp2_with (first | ((with_reducible refine gate_dst (N := 44) rfl ?_); refine Kd.R_lit k56 _ 56 ?hg (N := 44) ?hd (xs := ([(⟨(⟨#[65, 78, 89]⟩ : ByteArray), 3, (⟨#[116]⟩ : ByteArray)⟩ : S56), (⟨(⟨#[65, 82, 66, 78, 79]⟩ : ByteArray), 3, (⟨#[112]⟩ : ByteArray)⟩ : S56), (⟨(⟨#[65, 82, 82, 65, 89]⟩ : ByteArray), 4, (⟨#[110, 118]⟩ : ByteArray)⟩ : S56), (⟨(⟨#[66, 82, 69, 65, 75]⟩ : ByteArray), 3, (⟨#[116]⟩ : ByteArray)⟩ : S56), (⟨(⟨#[67, 72, 65, 82]⟩ : ByteArray), 2, (⟨#[110]⟩ : ByteArray)⟩ : S56), (⟨(⟨#[67, 76, 79, 83, 69]⟩ : ByteArray), 5, (⟨#[116]⟩ : ByteArray)⟩ : S56), (⟨(⟨#[67, 79, 80, 89]⟩ : ByteArray), 4, (⟨#[118]⟩ : ByteArray)⟩ : S56), (⟨(⟨#[68, 65, 84, 65, 84, 89, 80, 69]⟩ : ByteArray), 2, (⟨#[118]⟩ : ByteArray)⟩ : S56), (⟨(⟨#[68, 73, 70, 70, 69, 82]⟩ : ByteArray), 1, (⟨#[118, 118]⟩ : ByteArray)⟩ : S56), (⟨(⟨#[68, 85, 80, 76]⟩ : ByteArray), 2, (⟨#[116, 110]⟩ : ByteArray)⟩ : S56), (⟨(⟨#[69, 81]⟩ : ByteArray), 1, (⟨#[118, 118]⟩ : ByteArray)⟩ : S56), (⟨(⟨#[69, 82, 65, 83, 69]⟩ : ByteArray), 5, (⟨#[116]⟩ : ByteArray)⟩ : S56), (⟨(⟨#[71, 69]⟩ : ByteArray), 1, (⟨#[118, 118]⟩ : ByteArray)⟩ : S56), (⟨(⟨#[71, 69, 84]⟩ : ByteArray), 5, (⟨#[116]⟩ : ByteArray)⟩ : S56), (⟨(⟨#[71, 84]⟩ : ByteArray), 1, (⟨#[118, 118]⟩ : ByteArray)⟩ : S56), (⟨(⟨#[73, 68, 69, 78, 84]⟩ : ByteArray), 1, (⟨#[118, 118]⟩ : ByteArray)⟩ : S56), (⟨(⟨#[73, 78, 84, 69, 71, 69, 82]⟩ : ByteArray), 1, (⟨#[118]⟩ : ByteArray)⟩ : S56), (⟨(⟨#[73, 84, 69, 77]⟩ : ByteArray), 4, (⟨#[118, 110]⟩ : ByteArray)⟩ : S56), (⟨(⟨#[75, 69, 89]⟩ : ByteArray), 4, (⟨#[118, 110]⟩ : ByteArray)⟩ : S56), (⟨(⟨#[76, 69]⟩ : ByteArray), 1, (⟨#[118, 118]⟩ : ByteArray)⟩ : S56), (⟨(⟨#[76, 69, 78]⟩ : ByteArray), 3, (⟨#[110]⟩ : ByteArray)⟩ : S56), (⟨(⟨#[76, 69, 78, 71, 84, 72]⟩ : ByteArray), 4, (⟨#[118]⟩ : ByteArray)⟩ : S56), (⟨(⟨#[76, 71, 84]⟩ : ByteArray), 1, (⟨#[118, 118]⟩ : ByteArray)⟩ : S56), (⟨(⟨#[76, 80, 65, 68]⟩ : ByteArray), 2, (⟨#[116, 110, 116]⟩ : ByteArray)⟩ : S56), (⟨(⟨#[76, 84]⟩ : ByteArray), 1, (⟨#[118, 118]⟩ : ByteArray)⟩ : S56), (⟨(⟨#[78, 69]⟩ : ByteArray), 1, (⟨#[118, 118]⟩ : ByteArray)⟩ : S56), (⟨(⟨#[78, 79, 84, 65, 78, 89]⟩ : ByteArray), 3, (⟨#[116]⟩ : ByteArray)⟩ : S56), (⟨(⟨#[79, 80, 69, 78]⟩ : ByteArray), 5, (⟨#[116, 116]⟩ : ByteArray)⟩ : S56), (⟨(⟨#[79, 82, 68]⟩ : ByteArray), 2, (⟨#[116]⟩ : ByteArray)⟩ : S56), (⟨(⟨#[80, 79, 83]⟩ : ByteArray), 3, (⟨#[110]⟩ : ByteArray)⟩ : S56), (⟨(⟨#[80, 85, 84]⟩ : ByteArray), 5, (⟨#[116, 116]⟩ : ByteArray)⟩ : S56), (⟨(⟨#[82, 69, 80, 76, 65, 67, 69]⟩ : ByteArray), 2, (⟨#[116, 116, 116]⟩ : ByteArray)⟩ : S56), (⟨(⟨#[82, 69, 86, 69, 82, 83, 69]⟩ : ByteArray), 2, (⟨#[116]⟩ : ByteArray)⟩ : S56), (⟨(⟨#[82, 69, 87, 73, 78, 68]⟩ : ByteArray), 5, (⟨#[116]⟩ : ByteArray)⟩ : S56), (⟨(⟨#[82, 80, 65, 68]⟩ : ByteArray), 2, (⟨#[116, 110, 116]⟩ : ByteArray)⟩ : S56), (⟨(⟨#[82, 80, 79, 83]⟩ : ByteArray), 3, (⟨#[110]⟩ : ByteArray)⟩ : S56), (⟨(⟨#[82, 84, 65, 66]⟩ : ByteArray), 3, (⟨#[110]⟩ : ByteArray)⟩ : S56), (⟨(⟨#[83, 73, 90, 69]⟩ : ByteArray), 2, (⟨#[116]⟩ : ByteArray)⟩ : S56), (⟨(⟨#[83, 80, 65, 78]⟩ : ByteArray), 3, (⟨#[116]⟩ : ByteArray)⟩ : S56), (⟨(⟨#[83, 85, 66, 83, 84, 82]⟩ : ByteArray), 2, (⟨#[116, 110, 110]⟩ : ByteArray)⟩ : S56), (⟨(⟨#[84, 65, 66]⟩ : ByteArray), 3, (⟨#[110]⟩ : ByteArray)⟩ : S56), (⟨(⟨#[84, 65, 66, 76, 69]⟩ : ByteArray), 4, (⟨#[118]⟩ : ByteArray)⟩ : S56), (⟨(⟨#[84, 82, 73, 77]⟩ : ByteArray), 2, (⟨#[116]⟩ : ByteArray)⟩ : S56)] : List (S56))) (inner := [.string (⟨#[65, 78, 89]⟩ : ByteArray), .int .i64 3, .string (⟨#[116]⟩ : ByteArray), .string (⟨#[65, 82, 66, 78, 79]⟩ : ByteArray), .int .i64 3, .string (⟨#[112]⟩ : ByteArray), .string (⟨#[65, 82, 82, 65, 89]⟩ : ByteArray), .int .i64 4, .string (⟨#[110, 118]⟩ : ByteArray), .string (⟨#[66, 82, 69, 65, 75]⟩ : ByteArray), .int .i64 3, .string (⟨#[116]⟩ : ByteArray), .string (⟨#[67, 72, 65, 82]⟩ : ByteArray), .int .i64 2, .string (⟨#[110]⟩ : ByteArray), .string (⟨#[67, 76, 79, 83, 69]⟩ : ByteArray), .int .i64 5, .string (⟨#[116]⟩ : ByteArray), .string (⟨#[67, 79, 80, 89]⟩ : ByteArray), .int .i64 4, .string (⟨#[118]⟩ : ByteArray), .string (⟨#[68, 65, 84, 65, 84, 89, 80, 69]⟩ : ByteArray), .int .i64 2, .string (⟨#[118]⟩ : ByteArray), .string (⟨#[68, 73, 70, 70, 69, 82]⟩ : ByteArray), .int .i64 1, .string (⟨#[118, 118]⟩ : ByteArray), .string (⟨#[68, 85, 80, 76]⟩ : ByteArray), .int .i64 2, .string (⟨#[116, 110]⟩ : ByteArray), .string (⟨#[69, 81]⟩ : ByteArray), .int .i64 1, .string (⟨#[118, 118]⟩ : ByteArray), .string (⟨#[69, 82, 65, 83, 69]⟩ : ByteArray), .int .i64 5, .string (⟨#[116]⟩ : ByteArray), .string (⟨#[71, 69]⟩ : ByteArray), .int .i64 1, .string (⟨#[118, 118]⟩ : ByteArray), .string (⟨#[71, 69, 84]⟩ : ByteArray), .int .i64 5, .string (⟨#[116]⟩ : ByteArray), .string (⟨#[71, 84]⟩ : ByteArray), .int .i64 1, .string (⟨#[118, 118]⟩ : ByteArray), .string (⟨#[73, 68, 69, 78, 84]⟩ : ByteArray), .int .i64 1, .string (⟨#[118, 118]⟩ : ByteArray), .string (⟨#[73, 78, 84, 69, 71, 69, 82]⟩ : ByteArray), .int .i64 1, .string (⟨#[118]⟩ : ByteArray), .string (⟨#[73, 84, 69, 77]⟩ : ByteArray), .int .i64 4, .string (⟨#[118, 110]⟩ : ByteArray), .string (⟨#[75, 69, 89]⟩ : ByteArray), .int .i64 4, .string (⟨#[118, 110]⟩ : ByteArray), .string (⟨#[76, 69]⟩ : ByteArray), .int .i64 1, .string (⟨#[118, 118]⟩ : ByteArray), .string (⟨#[76, 69, 78]⟩ : ByteArray), .int .i64 3, .string (⟨#[110]⟩ : ByteArray), .string (⟨#[76, 69, 78, 71, 84, 72]⟩ : ByteArray), .int .i64 4, .string (⟨#[118]⟩ : ByteArray), .string (⟨#[76, 71, 84]⟩ : ByteArray), .int .i64 1, .string (⟨#[118, 118]⟩ : ByteArray), .string (⟨#[76, 80, 65, 68]⟩ : ByteArray), .int .i64 2, .string (⟨#[116, 110, 116]⟩ : ByteArray), .string (⟨#[76, 84]⟩ : ByteArray), .int .i64 1, .string (⟨#[118, 118]⟩ : ByteArray), .string (⟨#[78, 69]⟩ : ByteArray), .int .i64 1, .string (⟨#[118, 118]⟩ : ByteArray), .string (⟨#[78, 79, 84, 65, 78, 89]⟩ : ByteArray), .int .i64 3, .string (⟨#[116]⟩ : ByteArray), .string (⟨#[79, 80, 69, 78]⟩ : ByteArray), .int .i64 5, .string (⟨#[116, 116]⟩ : ByteArray), .string (⟨#[79, 82, 68]⟩ : ByteArray), .int .i64 2, .string (⟨#[116]⟩ : ByteArray), .string (⟨#[80, 79, 83]⟩ : ByteArray), .int .i64 3, .string (⟨#[110]⟩ : ByteArray), .string (⟨#[80, 85, 84]⟩ : ByteArray), .int .i64 5, .string (⟨#[116, 116]⟩ : ByteArray), .string (⟨#[82, 69, 80, 76, 65, 67, 69]⟩ : ByteArray), .int .i64 2, .string (⟨#[116, 116, 116]⟩ : ByteArray), .string (⟨#[82, 69, 86, 69, 82, 83, 69]⟩ : ByteArray), .int .i64 2, .string (⟨#[116]⟩ : ByteArray), .string (⟨#[82, 69, 87, 73, 78, 68]⟩ : ByteArray), .int .i64 5, .string (⟨#[116]⟩ : ByteArray), .string (⟨#[82, 80, 65, 68]⟩ : ByteArray), .int .i64 2, .string (⟨#[116, 110, 116]⟩ : ByteArray), .string (⟨#[82, 80, 79, 83]⟩ : ByteArray), .int .i64 3, .string (⟨#[110]⟩ : ByteArray), .string (⟨#[82, 84, 65, 66]⟩ : ByteArray), .int .i64 3, .string (⟨#[110]⟩ : ByteArray), .string (⟨#[83, 73, 90, 69]⟩ : ByteArray), .int .i64 2, .string (⟨#[116]⟩ : ByteArray), .string (⟨#[83, 80, 65, 78]⟩ : ByteArray), .int .i64 3, .string (⟨#[116]⟩ : ByteArray), .string (⟨#[83, 85, 66, 83, 84, 82]⟩ : ByteArray), .int .i64 2, .string (⟨#[116, 110, 110]⟩ : ByteArray), .string (⟨#[84, 65, 66]⟩ : ByteArray), .int .i64 3, .string (⟨#[110]⟩ : ByteArray), .string (⟨#[84, 65, 66, 76, 69]⟩ : ByteArray), .int .i64 4, .string (⟨#[118]⟩ : ByteArray), .string (⟨#[84, 82, 73, 77]⟩ : ByteArray), .int .i64 2, .string (⟨#[116]⟩ : ByteArray)]) (ok := fun _ => True) (okp := fun _ => True) ?hr ?hp (fun _ hk => hk) trivial (Below.refl _ _) (Nat.le_refl _) (by simp) ?_; (case hd => rfl); (case hg => rfl); (case hr => first | (go_simp; done) | (go_simp; rfl)); (case hp => exact (Reps.c3 (show Kd.M k56 _ _ _ (⟨(⟨#[65, 78, 89]⟩ : ByteArray), 3, (⟨#[116]⟩ : ByteArray)⟩ : S56) [.string (⟨#[65, 78, 89]⟩ : ByteArray), .int .i64 3, .string (⟨#[116]⟩ : ByteArray)] from (k56_mkM _ _ _ (⟨(⟨#[65, 78, 89]⟩ : ByteArray), 3, (⟨#[116]⟩ : ByteArray)⟩ : S56) )) (Reps.c3 (show Kd.M k56 _ _ _ (⟨(⟨#[65, 82, 66, 78, 79]⟩ : ByteArray), 3, (⟨#[112]⟩ : ByteArray)⟩ : S56) [.string (⟨#[65, 82, 66, 78, 79]⟩ : ByteArray), .int .i64 3, .string (⟨#[112]⟩ : ByteArray)] from (k56_mkM _ _ _ (⟨(⟨#[65, 82, 66, 78, 79]⟩ : ByteArray), 3, (⟨#[112]⟩ : ByteArray)⟩ : S56) )) (Reps.c3 (show Kd.M k56 _ _ _ (⟨(⟨#[65, 82, 82, 65, 89]⟩ : ByteArray), 4, (⟨#[110, 118]⟩ : ByteArray)⟩ : S56) [.string (⟨#[65, 82, 82, 65, 89]⟩ : ByteArray), .int .i64 4, .string (⟨#[110, 118]⟩ : ByteArray)] from (k56_mkM _ _ _ (⟨(⟨#[65, 82, 82, 65, 89]⟩ : ByteArray), 4, (⟨#[110, 118]⟩ : ByteArray)⟩ : S56) )) (Reps.c3 (show Kd.M k56 _ _ _ (⟨(⟨#[66, 82, 69, 65, 75]⟩ : ByteArray), 3, (⟨#[116]⟩ : ByteArray)⟩ : S56) [.string (⟨#[66, 82, 69, 65, 75]⟩ : ByteArray), .int .i64 3, .string (⟨#[116]⟩ : ByteArray)] from (k56_mkM _ _ _ (⟨(⟨#[66, 82, 69, 65, 75]⟩ : ByteArray), 3, (⟨#[116]⟩ : ByteArray)⟩ : S56) )) (Reps.c3 (show Kd.M k56 _ _ _ (⟨(⟨#[67, 72, 65, 82]⟩ : ByteArray), 2, (⟨#[110]⟩ : ByteArray)⟩ : S56) [.string (⟨#[67, 72, 65, 82]⟩ : ByteArray), .int .i64 2, .string (⟨#[110]⟩ : ByteArray)] from (k56_mkM _ _ _ (⟨(⟨#[67, 72, 65, 82]⟩ : ByteArray), 2, (⟨#[110]⟩ : ByteArray)⟩ : S56) )) (Reps.c3 (show Kd.M k56 _ _ _ (⟨(⟨#[67, 76, 79, 83, 69]⟩ : ByteArray), 5, (⟨#[116]⟩ : ByteArray)⟩ : S56) [.string (⟨#[67, 76, 79, 83, 69]⟩ : ByteArray), .int .i64 5, .string (⟨#[116]⟩ : ByteArray)] from (k56_mkM _ _ _ (⟨(⟨#[67, 76, 79, 83, 69]⟩ : ByteArray), 5, (⟨#[116]⟩ : ByteArray)⟩ : S56) )) (Reps.c3 (show Kd.M k56 _ _ _ (⟨(⟨#[67, 79, 80, 89]⟩ : ByteArray), 4, (⟨#[118]⟩ : ByteArray)⟩ : S56) [.string (⟨#[67, 79, 80, 89]⟩ : ByteArray), .int .i64 4, .string (⟨#[118]⟩ : ByteArray)] from (k56_mkM _ _ _ (⟨(⟨#[67, 79, 80, 89]⟩ : ByteArray), 4, (⟨#[118]⟩ : ByteArray)⟩ : S56) )) (Reps.c3 (show Kd.M k56 _ _ _ (⟨(⟨#[68, 65, 84, 65, 84, 89, 80, 69]⟩ : ByteArray), 2, (⟨#[118]⟩ : ByteArray)⟩ : S56) [.string (⟨#[68, 65, 84, 65, 84, 89, 80, 69]⟩ : ByteArray), .int .i64 2, .string (⟨#[118]⟩ : ByteArray)] from (k56_mkM _ _ _ (⟨(⟨#[68, 65, 84, 65, 84, 89, 80, 69]⟩ : ByteArray), 2, (⟨#[118]⟩ : ByteArray)⟩ : S56) )) (Reps.c3 (show Kd.M k56 _ _ _ (⟨(⟨#[68, 73, 70, 70, 69, 82]⟩ : ByteArray), 1, (⟨#[118, 118]⟩ : ByteArray)⟩ : S56) [.string (⟨#[68, 73, 70, 70, 69, 82]⟩ : ByteArray), .int .i64 1, .string (⟨#[118, 118]⟩ : ByteArray)] from (k56_mkM _ _ _ (⟨(⟨#[68, 73, 70, 70, 69, 82]⟩ : ByteArray), 1, (⟨#[118, 118]⟩ : ByteArray)⟩ : S56) )) (Reps.c3 (show Kd.M k56 _ _ _ (⟨(⟨#[68, 85, 80, 76]⟩ : ByteArray), 2, (⟨#[116, 110]⟩ : ByteArray)⟩ : S56) [.string (⟨#[68, 85, 80, 76]⟩ : ByteArray), .int .i64 2, .string (⟨#[116, 110]⟩ : ByteArray)] from (k56_mkM _ _ _ (⟨(⟨#[68, 85, 80, 76]⟩ : ByteArray), 2, (⟨#[116, 110]⟩ : ByteArray)⟩ : S56) )) (Reps.c3 (show Kd.M k56 _ _ _ (⟨(⟨#[69, 81]⟩ : ByteArray), 1, (⟨#[118, 118]⟩ : ByteArray)⟩ : S56) [.string (⟨#[69, 81]⟩ : ByteArray), .int .i64 1, .string (⟨#[118, 118]⟩ : ByteArray)] from (k56_mkM _ _ _ (⟨(⟨#[69, 81]⟩ : ByteArray), 1, (⟨#[118, 118]⟩ : ByteArray)⟩ : S56) )) (Reps.c3 (show Kd.M k56 _ _ _ (⟨(⟨#[69, 82, 65, 83, 69]⟩ : ByteArray), 5, (⟨#[116]⟩ : ByteArray)⟩ : S56) [.string (⟨#[69, 82, 65, 83, 69]⟩ : ByteArray), .int .i64 5, .string (⟨#[116]⟩ : ByteArray)] from (k56_mkM _ _ _ (⟨(⟨#[69, 82, 65, 83, 69]⟩ : ByteArray), 5, (⟨#[116]⟩ : ByteArray)⟩ : S56) )) (Reps.c3 (show Kd.M k56 _ _ _ (⟨(⟨#[71, 69]⟩ : ByteArray), 1, (⟨#[118, 118]⟩ : ByteArray)⟩ : S56) [.string (⟨#[71, 69]⟩ : ByteArray), .int .i64 1, .string (⟨#[118, 118]⟩ : ByteArray)] from (k56_mkM _ _ _ (⟨(⟨#[71, 69]⟩ : ByteArray), 1, (⟨#[118, 118]⟩ : ByteArray)⟩ : S56) )) (Reps.c3 (show Kd.M k56 _ _ _ (⟨(⟨#[71, 69, 84]⟩ : ByteArray), 5, (⟨#[116]⟩ : ByteArray)⟩ : S56) [.string (⟨#[71, 69, 84]⟩ : ByteArray), .int .i64 5, .string (⟨#[116]⟩ : ByteArray)] from (k56_mkM _ _ _ (⟨(⟨#[71, 69, 84]⟩ : ByteArray), 5, (⟨#[116]⟩ : ByteArray)⟩ : S56) )) (Reps.c3 (show Kd.M k56 _ _ _ (⟨(⟨#[71, 84]⟩ : ByteArray), 1, (⟨#[118, 118]⟩ : ByteArray)⟩ : S56) [.string (⟨#[71, 84]⟩ : ByteArray), .int .i64 1, .string (⟨#[118, 118]⟩ : ByteArray)] from (k56_mkM _ _ _ (⟨(⟨#[71, 84]⟩ : ByteArray), 1, (⟨#[118, 118]⟩ : ByteArray)⟩ : S56) )) (Reps.c3 (show Kd.M k56 _ _ _ (⟨(⟨#[73, 68, 69, 78, 84]⟩ : ByteArray), 1, (⟨#[118, 118]⟩ : ByteArray)⟩ : S56) [.string (⟨#[73, 68, 69, 78, 84]⟩ : ByteArray), .int .i64 1, .string (⟨#[118, 118]⟩ : ByteArray)] from (k56_mkM _ _ _ (⟨(⟨#[73, 68, 69, 78, 84]⟩ : ByteArray), 1, (⟨#[118, 118]⟩ : ByteArray)⟩ : S56) )) (Reps.c3 (show Kd.M k56 _ _ _ (⟨(⟨#[73, 78, 84, 69, 71, 69, 82]⟩ : ByteArray), 1, (⟨#[118]⟩ : ByteArray)⟩ : S56) [.string (⟨#[73, 78, 84, 69, 71, 69, 82]⟩ : ByteArray), .int .i64 1, .string (⟨#[118]⟩ : ByteArray)] from (k56_mkM _ _ _ (⟨(⟨#[73, 78, 84, 69, 71, 69, 82]⟩ : ByteArray), 1, (⟨#[118]⟩ : ByteArray)⟩ : S56) )) (Reps.c3 (show Kd.M k56 _ _ _ (⟨(⟨#[73, 84, 69, 77]⟩ : ByteArray), 4, (⟨#[118, 110]⟩ : ByteArray)⟩ : S56) [.string (⟨#[73, 84, 69, 77]⟩ : ByteArray), .int .i64 4, .string (⟨#[118, 110]⟩ : ByteArray)] from (k56_mkM _ _ _ (⟨(⟨#[73, 84, 69, 77]⟩ : ByteArray), 4, (⟨#[118, 110]⟩ : ByteArray)⟩ : S56) )) (Reps.c3 (show Kd.M k56 _ _ _ (⟨(⟨#[75, 69, 89]⟩ : ByteArray), 4, (⟨#[118, 110]⟩ : ByteArray)⟩ : S56) [.string (⟨#[75, 69, 89]⟩ : ByteArray), .int .i64 4, .string (⟨#[118, 110]⟩ : ByteArray)] from (k56_mkM _ _ _ (⟨(⟨#[75, 69, 89]⟩ : ByteArray), 4, (⟨#[118, 110]⟩ : ByteArray)⟩ : S56) )) (Reps.c3 (show Kd.M k56 _ _ _ (⟨(⟨#[76, 69]⟩ : ByteArray), 1, (⟨#[118, 118]⟩ : ByteArray)⟩ : S56) [.string (⟨#[76, 69]⟩ : ByteArray), .int .i64 1, .string (⟨#[118, 118]⟩ : ByteArray)] from (k56_mkM _ _ _ (⟨(⟨#[76, 69]⟩ : ByteArray), 1, (⟨#[118, 118]⟩ : ByteArray)⟩ : S56) )) (Reps.c3 (show Kd.M k56 _ _ _ (⟨(⟨#[76, 69, 78]⟩ : ByteArray), 3, (⟨#[110]⟩ : ByteArray)⟩ : S56) [.string (⟨#[76, 69, 78]⟩ : ByteArray), .int .i64 3, .string (⟨#[110]⟩ : ByteArray)] from (k56_mkM _ _ _ (⟨(⟨#[76, 69, 78]⟩ : ByteArray), 3, (⟨#[110]⟩ : ByteArray)⟩ : S56) )) (Reps.c3 (show Kd.M k56 _ _ _ (⟨(⟨#[76, 69, 78, 71, 84, 72]⟩ : ByteArray), 4, (⟨#[118]⟩ : ByteArray)⟩ : S56) [.string (⟨#[76, 69, 78, 71, 84, 72]⟩ : ByteArray), .int .i64 4, .string (⟨#[118]⟩ : ByteArray)] from (k56_mkM _ _ _ (⟨(⟨#[76, 69, 78, 71, 84, 72]⟩ : ByteArray), 4, (⟨#[118]⟩ : ByteArray)⟩ : S56) )) (Reps.c3 (show Kd.M k56 _ _ _ (⟨(⟨#[76, 71, 84]⟩ : ByteArray), 1, (⟨#[118, 118]⟩ : ByteArray)⟩ : S56) [.string (⟨#[76, 71, 84]⟩ : ByteArray), .int .i64 1, .string (⟨#[118, 118]⟩ : ByteArray)] from (k56_mkM _ _ _ (⟨(⟨#[76, 71, 84]⟩ : ByteArray), 1, (⟨#[118, 118]⟩ : ByteArray)⟩ : S56) )) (Reps.c3 (show Kd.M k56 _ _ _ (⟨(⟨#[76, 80, 65, 68]⟩ : ByteArray), 2, (⟨#[116, 110, 116]⟩ : ByteArray)⟩ : S56) [.string (⟨#[76, 80, 65, 68]⟩ : ByteArray), .int .i64 2, .string (⟨#[116, 110, 116]⟩ : ByteArray)] from (k56_mkM _ _ _ (⟨(⟨#[76, 80, 65, 68]⟩ : ByteArray), 2, (⟨#[116, 110, 116]⟩ : ByteArray)⟩ : S56) )) (Reps.c3 (show Kd.M k56 _ _ _ (⟨(⟨#[76, 84]⟩ : ByteArray), 1, (⟨#[118, 118]⟩ : ByteArray)⟩ : S56) [.string (⟨#[76, 84]⟩ : ByteArray), .int .i64 1, .string (⟨#[118, 118]⟩ : ByteArray)] from (k56_mkM _ _ _ (⟨(⟨#[76, 84]⟩ : ByteArray), 1, (⟨#[118, 118]⟩ : ByteArray)⟩ : S56) )) (Reps.c3 (show Kd.M k56 _ _ _ (⟨(⟨#[78, 69]⟩ : ByteArray), 1, (⟨#[118, 118]⟩ : ByteArray)⟩ : S56) [.string (⟨#[78, 69]⟩ : ByteArray), .int .i64 1, .string (⟨#[118, 118]⟩ : ByteArray)] from (k56_mkM _ _ _ (⟨(⟨#[78, 69]⟩ : ByteArray), 1, (⟨#[118, 118]⟩ : ByteArray)⟩ : S56) )) (Reps.c3 (show Kd.M k56 _ _ _ (⟨(⟨#[78, 79, 84, 65, 78, 89]⟩ : ByteArray), 3, (⟨#[116]⟩ : ByteArray)⟩ : S56) [.string (⟨#[78, 79, 84, 65, 78, 89]⟩ : ByteArray), .int .i64 3, .string (⟨#[116]⟩ : ByteArray)] from (k56_mkM _ _ _ (⟨(⟨#[78, 79, 84, 65, 78, 89]⟩ : ByteArray), 3, (⟨#[116]⟩ : ByteArray)⟩ : S56) )) (Reps.c3 (show Kd.M k56 _ _ _ (⟨(⟨#[79, 80, 69, 78]⟩ : ByteArray), 5, (⟨#[116, 116]⟩ : ByteArray)⟩ : S56) [.string (⟨#[79, 80, 69, 78]⟩ : ByteArray), .int .i64 5, .string (⟨#[116, 116]⟩ : ByteArray)] from (k56_mkM _ _ _ (⟨(⟨#[79, 80, 69, 78]⟩ : ByteArray), 5, (⟨#[116, 116]⟩ : ByteArray)⟩ : S56) )) (Reps.c3 (show Kd.M k56 _ _ _ (⟨(⟨#[79, 82, 68]⟩ : ByteArray), 2, (⟨#[116]⟩ : ByteArray)⟩ : S56) [.string (⟨#[79, 82, 68]⟩ : ByteArray), .int .i64 2, .string (⟨#[116]⟩ : ByteArray)] from (k56_mkM _ _ _ (⟨(⟨#[79, 82, 68]⟩ : ByteArray), 2, (⟨#[116]⟩ : ByteArray)⟩ : S56) )) (Reps.c3 (show Kd.M k56 _ _ _ (⟨(⟨#[80, 79, 83]⟩ : ByteArray), 3, (⟨#[110]⟩ : ByteArray)⟩ : S56) [.string (⟨#[80, 79, 83]⟩ : ByteArray), .int .i64 3, .string (⟨#[110]⟩ : ByteArray)] from (k56_mkM _ _ _ (⟨(⟨#[80, 79, 83]⟩ : ByteArray), 3, (⟨#[110]⟩ : ByteArray)⟩ : S56) )) (Reps.c3 (show Kd.M k56 _ _ _ (⟨(⟨#[80, 85, 84]⟩ : ByteArray), 5, (⟨#[116, 116]⟩ : ByteArray)⟩ : S56) [.string (⟨#[80, 85, 84]⟩ : ByteArray), .int .i64 5, .string (⟨#[116, 116]⟩ : ByteArray)] from (k56_mkM _ _ _ (⟨(⟨#[80, 85, 84]⟩ : ByteArray), 5, (⟨#[116, 116]⟩ : ByteArray)⟩ : S56) )) (Reps.c3 (show Kd.M k56 _ _ _ (⟨(⟨#[82, 69, 80, 76, 65, 67, 69]⟩ : ByteArray), 2, (⟨#[116, 116, 116]⟩ : ByteArray)⟩ : S56) [.string (⟨#[82, 69, 80, 76, 65, 67, 69]⟩ : ByteArray), .int .i64 2, .string (⟨#[116, 116, 116]⟩ : ByteArray)] from (k56_mkM _ _ _ (⟨(⟨#[82, 69, 80, 76, 65, 67, 69]⟩ : ByteArray), 2, (⟨#[116, 116, 116]⟩ : ByteArray)⟩ : S56) )) (Reps.c3 (show Kd.M k56 _ _ _ (⟨(⟨#[82, 69, 86, 69, 82, 83, 69]⟩ : ByteArray), 2, (⟨#[116]⟩ : ByteArray)⟩ : S56) [.string (⟨#[82, 69, 86, 69, 82, 83, 69]⟩ : ByteArray), .int .i64 2, .string (⟨#[116]⟩ : ByteArray)] from (k56_mkM _ _ _ (⟨(⟨#[82, 69, 86, 69, 82, 83, 69]⟩ : ByteArray), 2, (⟨#[116]⟩ : ByteArray)⟩ : S56) )) (Reps.c3 (show Kd.M k56 _ _ _ (⟨(⟨#[82, 69, 87, 73, 78, 68]⟩ : ByteArray), 5, (⟨#[116]⟩ : ByteArray)⟩ : S56) [.string (⟨#[82, 69, 87, 73, 78, 68]⟩ : ByteArray), .int .i64 5, .string (⟨#[116]⟩ : ByteArray)] from (k56_mkM _ _ _ (⟨(⟨#[82, 69, 87, 73, 78, 68]⟩ : ByteArray), 5, (⟨#[116]⟩ : ByteArray)⟩ : S56) )) (Reps.c3 (show Kd.M k56 _ _ _ (⟨(⟨#[82, 80, 65, 68]⟩ : ByteArray), 2, (⟨#[116, 110, 116]⟩ : ByteArray)⟩ : S56) [.string (⟨#[82, 80, 65, 68]⟩ : ByteArray), .int .i64 2, .string (⟨#[116, 110, 116]⟩ : ByteArray)] from (k56_mkM _ _ _ (⟨(⟨#[82, 80, 65, 68]⟩ : ByteArray), 2, (⟨#[116, 110, 116]⟩ : ByteArray)⟩ : S56) )) (Reps.c3 (show Kd.M k56 _ _ _ (⟨(⟨#[82, 80, 79, 83]⟩ : ByteArray), 3, (⟨#[110]⟩ : ByteArray)⟩ : S56) [.string (⟨#[82, 80, 79, 83]⟩ : ByteArray), .int .i64 3, .string (⟨#[110]⟩ : ByteArray)] from (k56_mkM _ _ _ (⟨(⟨#[82, 80, 79, 83]⟩ : ByteArray), 3, (⟨#[110]⟩ : ByteArray)⟩ : S56) )) (Reps.c3 (show Kd.M k56 _ _ _ (⟨(⟨#[82, 84, 65, 66]⟩ : ByteArray), 3, (⟨#[110]⟩ : ByteArray)⟩ : S56) [.string (⟨#[82, 84, 65, 66]⟩ : ByteArray), .int .i64 3, .string (⟨#[110]⟩ : ByteArray)] from (k56_mkM _ _ _ (⟨(⟨#[82, 84, 65, 66]⟩ : ByteArray), 3, (⟨#[110]⟩ : ByteArray)⟩ : S56) )) (Reps.c3 (show Kd.M k56 _ _ _ (⟨(⟨#[83, 73, 90, 69]⟩ : ByteArray), 2, (⟨#[116]⟩ : ByteArray)⟩ : S56) [.string (⟨#[83, 73, 90, 69]⟩ : ByteArray), .int .i64 2, .string (⟨#[116]⟩ : ByteArray)] from (k56_mkM _ _ _ (⟨(⟨#[83, 73, 90, 69]⟩ : ByteArray), 2, (⟨#[116]⟩ : ByteArray)⟩ : S56) )) (Reps.c3 (show Kd.M k56 _ _ _ (⟨(⟨#[83, 80, 65, 78]⟩ : ByteArray), 3, (⟨#[116]⟩ : ByteArray)⟩ : S56) [.string (⟨#[83, 80, 65, 78]⟩ : ByteArray), .int .i64 3, .string (⟨#[116]⟩ : ByteArray)] from (k56_mkM _ _ _ (⟨(⟨#[83, 80, 65, 78]⟩ : ByteArray), 3, (⟨#[116]⟩ : ByteArray)⟩ : S56) )) (Reps.c3 (show Kd.M k56 _ _ _ (⟨(⟨#[83, 85, 66, 83, 84, 82]⟩ : ByteArray), 2, (⟨#[116, 110, 110]⟩ : ByteArray)⟩ : S56) [.string (⟨#[83, 85, 66, 83, 84, 82]⟩ : ByteArray), .int .i64 2, .string (⟨#[116, 110, 110]⟩ : ByteArray)] from (k56_mkM _ _ _ (⟨(⟨#[83, 85, 66, 83, 84, 82]⟩ : ByteArray), 2, (⟨#[116, 110, 110]⟩ : ByteArray)⟩ : S56) )) (Reps.c3 (show Kd.M k56 _ _ _ (⟨(⟨#[84, 65, 66]⟩ : ByteArray), 3, (⟨#[110]⟩ : ByteArray)⟩ : S56) [.string (⟨#[84, 65, 66]⟩ : ByteArray), .int .i64 3, .string (⟨#[110]⟩ : ByteArray)] from (k56_mkM _ _ _ (⟨(⟨#[84, 65, 66]⟩ : ByteArray), 3, (⟨#[110]⟩ : ByteArray)⟩ : S56) )) (Reps.c3 (show Kd.M k56 _ _ _ (⟨(⟨#[84, 65, 66, 76, 69]⟩ : ByteArray), 4, (⟨#[118]⟩ : ByteArray)⟩ : S56) [.string (⟨#[84, 65, 66, 76, 69]⟩ : ByteArray), .int .i64 4, .string (⟨#[118]⟩ : ByteArray)] from (k56_mkM _ _ _ (⟨(⟨#[84, 65, 66, 76, 69]⟩ : ByteArray), 4, (⟨#[118]⟩ : ByteArray)⟩ : S56) )) (Reps.c3 (show Kd.M k56 _ _ _ (⟨(⟨#[84, 82, 73, 77]⟩ : ByteArray), 2, (⟨#[116]⟩ : ByteArray)⟩ : S56) [.string (⟨#[84, 82, 73, 77]⟩ : ByteArray), .int .i64 2, .string (⟨#[116]⟩ : ByteArray)] from (k56_mkM _ _ _ (⟨(⟨#[84, 82, 73, 77]⟩ : ByteArray), 2, (⟨#[116]⟩ : ByteArray)⟩ : S56) )) (Reps.none _ _))))))))))))))))))))))))))))))))))))))))))))); intro v195 w1 ho2 hb hg_ hnew_; clear hg_ hnew_; (first | rw [← Ny194.out] at ho2 | (simp only [Int.reduceToNat] at ho2; rw [← Ny194.out] at ho2)); have n0_ := Aside0.mk (Kd.R_lower ho2 (below_size (by repeat (first | (with_reducible first | exact HB.out | apply below_alloc | apply pw_below_drewN | apply below_drew1) | exact HB.out)))); have n1_ := Aside0.mk (below_step (by repeat (first | (with_reducible first | exact HB.out | apply below_alloc | apply pw_below_drewN | apply below_drew1) | exact HB.out)) hb); clear HB; have HO196 := n0_; have HB := n1_; clear n0_ n1_; clear hb ho2))
  go_ret
  exact ⟨_, by first | rfl | (simp [errW_none, errW_some] <;> rfl) | (simp [*, errW_none, errW_some] <;> rfl), by (with_reducible repeat (first | apply Kd.R_alloc | apply Kd.R_drewN | apply Kd.R_drew)); exact HO196.out, by repeat (first | (with_reducible first | exact HB.out | apply below_alloc | apply pw_below_drewN | apply below_drew1) | exact HB.out)⟩

/-! ### impl_findBuiltin: function 36 -/
def impl_findBuiltin.l0 : Nat → ByteArray → List (S56) → Int → Int → Option (ByteArray × Int × ByteArray × Bool)
  | 0, _, _, _, _ => none
  | k + 1, x0, x6, x7, x8 => if x8 < x7 then (if 0 ≤ x8 then (if x8 < (x6.length : Int) then (if ((rd_T56 x6 x8).f0).toList = x0.toList then (some ((rd_T56 x6 x8).f0, (rd_T56 x6 x8).f1, (rd_T56 x6 x8).f2, true)) else (impl_findBuiltin.l0 k x0 x6 x7 (wrap64 (x8 + 1)))) else (none)) else (none)) else (some ((⟨#[]⟩ : ByteArray), 0, (⟨#[]⟩ : ByteArray), false))
def impl_findBuiltin.f (k : Nat) (a0 : ByteArray) : Option (ByteArray × Int × ByteArray × Bool) := (impl_builtins.f).bind fun t198 => (impl_findBuiltin.l0 k a0 t198 (t198.length : Int) 0)
theorem impl_findBuiltin.mono_l : ∀ k, (∀ y0 y1 y2 y3, LeO (impl_findBuiltin.l0 k y0 y1 y2 y3) (impl_findBuiltin.l0 (k + 1) y0 y1 y2 y3))
  | 0 => fun _ _ _ _ r h => by simp [impl_findBuiltin.l0] at h
  | k + 1 => by
    have ih0 := impl_findBuiltin.mono_l k
    · intro y0 y1 y2 y3
      unfold impl_findBuiltin.l0
      repeat' first
      | (with_reducible exact ih0 _ _ _ _)
      | (with_reducible exact LeO.refl _)
      | (with_reducible exact LeO.none _)
      | (with_reducible refine LeO.ite ?_ ?_)
      | (with_reducible refine LeO.bind ?_ (fun _ => ?_))
      | exact ih0 _ _ _ _
      | exact LeO.none _
      | refine LeO.ite ?_ ?_
      | refine LeO.bind ?_ (fun _ => ?_)
theorem impl_findBuiltin.mono : ∀ a0 k, LeO (impl_findBuiltin.f k a0) (impl_findBuiltin.f (k + 1) a0) := by
  intro a0 k
  have ih0 := impl_findBuiltin.mono_l k
  unfold impl_findBuiltin.f
  repeat' first
      | (with_reducible exact ih0 _ _ _ _)
      | (with_reducible exact LeO.refl _)
      | (with_reducible exact LeO.none _)
      | (with_reducible refine LeO.ite ?_ ?_)
      | (with_reducible refine LeO.bind ?_ (fun _ => ?_))
      | exact ih0 _ _ _ _
      | exact LeO.none _
      | refine LeO.ite ?_ ?_
      | refine LeO.bind ?_ (fun _ => ?_)
set_option maxHeartbeats 8000000 in
set_option maxRecDepth 100000 in
theorem impl_findBuiltin.calls (k : Nat) (a0 : ByteArray) (r1 : ByteArray) (r2 : Int) (r3 : ByteArray) (r4 : Bool) (w : World) (h : impl_findBuiltin.f k a0 = some (r1, r2, r3, r4)) :
    Calls Try.prog 36 #[.string a0] w fun e w' => e = .returned (.tuple #[.agg #[.string r1, .int .i64 r2, .string r3], .bool r4]) ∧ Below w.heap.size w w' := by
  have hu56 := Try.underlying56
  have HB := Aside0.mk (Below.refl w.heap.size w)
  have H : ((impl_builtins.f).bind fun t198 => (impl_findBuiltin.l0 k a0 t198 (t198.length : Int) 0)) = some (r1, r2, r3, r4) := h
  clear h
  replace H := Option.bind_eq_some_iff.mp H
  obtain ⟨t198, A20, H⟩ := H
  replace H : (impl_findBuiltin.l0 k a0 t198 (t198.length : Int) 0) = some (r1, r2, r3, r4) := H
  have A2 := Aside0.mk A20
  clear A20
  have H' := Aside0.mk H
  clear H
  go_enter Try.func36, Try.ntmps36
  go_wp2_with (first | ((with_reducible refine gate_dst (N := 2) rfl ?_); refine box_event ?hg (N := 2) ?hd (cs := #[.string (⟨#[]⟩ : ByteArray), .int .i64 0, .string (⟨#[]⟩ : ByteArray)]) (t := 56) ?hr ?_; (case hd => rfl); (case hg => rfl); (case hr => first | (go_simp; done) | (go_simp; rfl)); intro gb197 hg w3 hbox hb; have n0_ := Aside0.mk (below_step (by repeat (first | (with_reducible first | exact HB.out | apply below_alloc | apply pw_below_drewN | apply below_drew1) | exact HB.out)) hb); have n1_ := Aside0.mk (hbox); have n2_ := Aside0.mk ((by rw [hg]; exact (below_size (by repeat (first | (with_reducible first | exact HB.out | apply below_alloc | apply pw_below_drewN | apply below_drew1) | exact HB.out))) : w.heap.size ≤ gb197)); have n3_ := Aside0.mk ((by rw [hg]; exact (below_size (by repeat (first | (with_reducible first | exact HB.out | apply below_alloc | apply pw_below_drewN | apply below_drew1) | exact HB.out))) : w.heap.size ≤ gb197)); clear HB; have HB := n0_; have BK197 := n1_; have GW197 := n2_; have GE197 := n3_; clear n0_ n1_ n2_ n3_; clear hb hbox hg) | ((with_reducible refine gate_callee (f := 46) rfl ?_); refine goesL_ (some 6) rfl rfl Try.func46 (by kernel_rfl) rfl #[] rfl (by (try simp only [List.map_toArray, List.map_cons, List.map_nil]); first | done | rfl | (simp only [List.length_drop, List.length_take]; rfl)) ?_; (with_reducible refine (impl_builtins.calls  t198 _ A2.out).mono ?_); rintro e w4 ⟨v199, rfl, ho0, hb⟩; refine ⟨_, rfl, ?_⟩; have n0_ := Aside0.mk (Kd.R_lower (Kd.R_newB ho0 (g := gb197) (o := .cells #[.string (⟨#[]⟩ : ByteArray), .int .i64 0, .string (⟨#[]⟩ : ByteArray)] 56 (0, 0)) (by (with_reducible repeat (first | refine blk_drewN ?_ _ | refine blk_drew ?_ | refine blk_alloc ?_ _)); exact BK197.out)) (below_size (by repeat (first | (with_reducible first | exact HB.out | apply below_alloc | apply pw_below_drewN | apply below_drew1 | refine below_set ?_ GE197.out) | exact HB.out)))); have n1_ := Aside0.mk (blk_below (g := gb197) (o := .cells #[.string (⟨#[]⟩ : ByteArray), .int .i64 0, .string (⟨#[]⟩ : ByteArray)] 56 (0, 0)) (by (with_reducible repeat (first | refine blk_drewN ?_ _ | refine blk_drew ?_ | refine blk_alloc ?_ _)); exact BK197.out) hb); have n2_ := Aside0.mk (below_step (by repeat (first | (with_reducible first | exact HB.out | apply below_alloc | apply pw_below_drewN | apply below_drew1 | refine below_set ?_ GE197.out) | exact HB.out)) hb); clear BK197; clear HB; have HO200 := n0_; have BK197 := n1_; have HB := n2_; clear n0_ n1_ n2_; (try clear hb); (try clear hb2); (try clear hk); (try clear hi); (try clear ho0); obtain ⟨Ao5, co5, eo5⟩ := Kd.R_slice HO200.out; subst eo5))
  go_loopg [8] k (fun kq v8 w' => ∃ (x8_1 : Int) (x198000_1 : ByteArray) (x198001_1 : Int) (x198002_1 : ByteArray), v8 = .int .i64 x8_1 ∧ Aside0 (impl_findBuiltin.l0 kq a0 t198 (t198.length : Int) x8_1 = some (r1, r2, r3, r4)) ∧ Aside0 (kq ≤ k) ∧ Aside0 (Kd.R k56 56 w' w.heap.size (fun k_ => k_ ≠ gb197) (.slice Ao5 t198.length co5) t198) ∧ Aside0 (w'.heap[gb197]? = some (.cells #[.string x198000_1, .int .i64 x198001_1, .string x198002_1] 56 (0, 0))) ∧ Aside0 (Below w.heap.size w w'))
  case atStart => exact ⟨(0), ((⟨#[]⟩ : ByteArray)), (0), ((⟨#[]⟩ : ByteArray)), (by first | rfl | (simp; done) | (simp [*]; done)), H', ⟨Nat.le_refl _⟩, ⟨by (with_reducible repeat (first | apply Kd.R_alloc | apply Kd.R_drewN | apply Kd.R_drew)); exact Kd.R_mono HO200.out (fun _ hk => hk.2)⟩, ⟨by (with_reducible repeat (first | refine blk_drewN ?_ _ | refine blk_drew ?_ | refine blk_alloc ?_ _)); exact BK197.out⟩, ⟨by repeat (first | (with_reducible first | exact HB.out | apply below_alloc | apply pw_below_drewN | apply below_drew1 | refine below_set ?_ GE197.out) | exact HB.out)⟩⟩
  case round =>
    clear H'
    try clear p2
    try clear c3
    try clear c4
    obtain ⟨x8_1, x198000_1, x198001_1, x198002_1, rfl, HA, HK1, HO_6, BK197, HB⟩ := hrel
    cases gk with
    | zero => exact absurd HA.out (by simp [impl_findBuiltin.l0])
    | succ k1 =>
      have H := HA.out
      clear HA
      simp only [impl_findBuiltin.l0] at H
      by_cases c6 : x8_1 < (t198.length : Int)
      · rw [if_pos c6] at H
        have c6b0 : decide (x8_1 < (t198.length : Int)) = true := decide_eq_true c6
        clear c6
        by_cases c7 : 0 ≤ x8_1
        · rw [if_pos c7] at H
          have c7b0 : decide (0 ≤ x8_1) = true := decide_eq_true c7
          clear c7
          by_cases c8 : x8_1 < (t198.length : Int)
          · rw [if_pos c8] at H
            have c8b0 : decide (x8_1 < (t198.length : Int)) = true := decide_eq_true c8
            clear c8
            by_cases c9 : ((rd_T56 t198 x8_1).f0).toList = a0.toList
            · rw [if_pos c9] at H
              have c9b0 : (((rd_T56 t198 x8_1).f0).toList == a0.toList) = true := beq_iff_eq.mpr c9
              have c9b1 : (((rd_T56 t198 x8_1).f0).toList != a0.toList) = false := bne_eq_false_iff_eq.mpr c9
              clear c9
              simp only [Option.some.injEq, Prod.mk.injEq] at H
              obtain ⟨rfl, rfl, rfl, rfl⟩ := H
              have p201 : 0 ≤ (x8_1 : Int) := of_decide_eq_true (by first | (with_reducible assumption) | assumption)
              have q201 : x8_1 < (t198.length : Int) := of_decide_eq_true (by first | (with_reducible assumption) | assumption)
              obtain ⟨ad201, e201, hx201_0, hx201_1, hx201_2⟩ := at_T56 (Kd.R_reads' HO_6.out).2.2 x8_1 p201 q201
              cases e201
              replace p201 := eq_true p201
              replace q201 := eq_true q201
              go_wp2_with (first | ((with_reducible refine gate_dst (N := 5) rfl ?_); refine box_event ?hg (N := 5) ?hd (cs := #[.string (⟨#[]⟩ : ByteArray), .int .i64 0, .string (⟨#[]⟩ : ByteArray)]) (t := 56) ?hr ?_; (case hd => rfl); (case hg => rfl); (case hr => first | (go_simp; done) | (go_simp; rfl)); intro gb202 hg w10 hbox hb; have n0_ := Aside0.mk (Kd.R_below (Kd.R_elderB (by (with_reducible repeat (first | apply Kd.R_alloc | apply Kd.R_drewN | apply Kd.R_drew)); exact HO_6.out) gb202 (Nat.le_of_eq hg.symm)) hb); have n1_ := Aside0.mk (blk_below (g := gb197) (o := .cells #[.string x198000_1, .int .i64 x198001_1, .string x198002_1] 56 (0, 0)) (by (with_reducible repeat (first | refine blk_drewN ?_ _ | refine blk_drew ?_ | refine blk_alloc ?_ _)); exact BK197.out) hb); have n2_ := Aside0.mk (below_step (by repeat (first | (with_reducible first | exact HB.out | apply below_alloc | apply pw_below_drewN | apply below_drew1 | refine below_set ?_ GE197.out) | exact HB.out)) hb); have n3_ := Aside0.mk (hbox); have n4_ := Aside0.mk ((by rw [hg]; exact (below_size (by repeat (first | (with_reducible first | exact HB.out | apply below_alloc | apply pw_below_drewN | apply below_drew1 | refine below_set ?_ GE197.out) | exact HB.out))) : w.heap.size ≤ gb202)); have n5_ := Aside0.mk ((by rw [hg]; exact (below_size (by repeat (first | (with_reducible first | exact HB.out | apply below_alloc | apply pw_below_drewN | apply below_drew1 | refine below_set ?_ GE197.out) | exact HB.out))) : w.heap.size ≤ gb202)); have n6_ := Aside0.mk ((by rw [hg]; exact Nat.ne_of_lt (blk_lt (g := gb197) (o := .cells #[.string x198000_1, .int .i64 x198001_1, .string x198002_1] 56 (0, 0)) (by (with_reducible repeat (first | refine blk_drewN ?_ _ | refine blk_drew ?_ | refine blk_alloc ?_ _)); exact BK197.out)) : gb197 ≠ gb202)); have n7_ := Aside0.mk ((by rw [hg]; exact Nat.ne_of_gt (blk_lt (g := gb197) (o := .cells #[.string x198000_1, .int .i64 x198001_1, .string x198002_1] 56 (0, 0)) (by (with_reducible repeat (first | refine blk_drewN ?_ _ | refine blk_drew ?_ | refine blk_alloc ?_ _)); exact BK197.out)) : gb202 ≠ gb197)); clear HO_6; clear BK197; clear HB; have HO_6 := n0_; have BK197 := n1_; have HB := n2_; have BK202 := n3_; have GW202 := n4_; have GE202 := n5_; have NB197_202 := n6_; have NB202_197 := n7_; clear n0_ n1_ n2_ n3_ n4_ n5_ n6_ n7_; clear hb hbox hg; have hnb11 := NB202_197.out; have hnc11 := NB197_202.out; have hcz12_0 : w10.cell? ⟨gb202, 0, none⟩ = some (.string (⟨#[]⟩ : ByteArray)) := (blk_cell BK202.out 0).trans rfl; have hcz12_1 : w10.cell? ⟨gb202, 1, none⟩ = some (.int .i64 0) := (blk_cell BK202.out 1).trans rfl; have hcz12_2 : w10.cell? ⟨gb202, 2, none⟩ = some (.string (⟨#[]⟩ : ByteArray)) := (blk_cell BK202.out 2).trans rfl; have hfz12_0 := blk_frozen BK202.out 0; have hfz12_1 := blk_frozen BK202.out 1; have hfz12_2 := blk_frozen BK202.out 2; have hcz13_0 : w10.cell? ⟨gb197, 0, none⟩ = some (.string x198000_1) := (blk_cell BK197.out 0).trans rfl; have hcz13_1 : w10.cell? ⟨gb197, 1, none⟩ = some (.int .i64 x198001_1) := (blk_cell BK197.out 1).trans rfl; have hcz13_2 : w10.cell? ⟨gb197, 2, none⟩ = some (.string x198002_1) := (blk_cell BK197.out 2).trans rfl; have hfz13_0 := blk_frozen BK197.out 0; have hfz13_1 := blk_frozen BK197.out 1; have hfz13_2 := blk_frozen BK197.out 2))
              refine bodyPost_ret (results_ct rfl _ _ gb197 56 #[.string ((rd_T56 t198 x8_1).f0), .int .i64 ((rd_T56 t198 x8_1).f1), .string ((rd_T56 t198 x8_1).f2)] (0, 0) _ rfl (by (with_reducible repeat (first | refine blk_drewN ?_ _ | refine blk_drew ?_ | refine blk_alloc ?_ _)); refine blk_put (cs := #[.string ((rd_T56 t198 x8_1).f0), .int .i64 ((rd_T56 t198 x8_1).f1), .string x198002_1]) ?_ 2 _ rfl; (with_reducible repeat (first | refine blk_drewN ?_ _ | refine blk_drew ?_ | refine blk_alloc ?_ _)); refine blk_put (cs := #[.string ((rd_T56 t198 x8_1).f0), .int .i64 x198001_1, .string x198002_1]) ?_ 1 _ rfl; (with_reducible repeat (first | refine blk_drewN ?_ _ | refine blk_drew ?_ | refine blk_alloc ?_ _)); refine blk_put (cs := #[.string x198000_1, .int .i64 x198001_1, .string x198002_1]) ?_ 0 _ rfl; (with_reducible repeat (first | refine blk_drewN ?_ _ | refine blk_drew ?_ | refine blk_alloc ?_ _)); refine blk_far ?_ NB197_202.out _; (with_reducible repeat (first | refine blk_drewN ?_ _ | refine blk_drew ?_ | refine blk_alloc ?_ _)); refine blk_far ?_ NB197_202.out _; (with_reducible repeat (first | refine blk_drewN ?_ _ | refine blk_drew ?_ | refine blk_alloc ?_ _)); refine blk_far ?_ NB197_202.out _; (with_reducible repeat (first | refine blk_drewN ?_ _ | refine blk_drew ?_ | refine blk_alloc ?_ _)); exact BK197.out) Try.underlying56 rfl (by kernel_rfl)) rfl ?_
              exact ⟨by first | rfl | (simp [errW_none, errW_some] <;> rfl) | (simp [*, errW_none, errW_some] <;> rfl), by repeat (first | (with_reducible first | exact HB.out | apply below_alloc | apply pw_below_drewN | apply below_drew1 | refine below_set ?_ GE197.out | refine below_set ?_ GE202.out) | exact HB.out)⟩
            · rw [if_neg c9] at H
              have c9b0 : (((rd_T56 t198 x8_1).f0).toList == a0.toList) = false := beq_eq_false_iff_ne.mpr c9
              have c9b1 : (((rd_T56 t198 x8_1).f0).toList != a0.toList) = true := bne_iff_ne.mpr c9
              have H' := Aside0.mk H
              clear H
              have p201 : 0 ≤ (x8_1 : Int) := of_decide_eq_true (by first | (with_reducible assumption) | assumption)
              have q201 : x8_1 < (t198.length : Int) := of_decide_eq_true (by first | (with_reducible assumption) | assumption)
              obtain ⟨ad201, e201, hx201_0, hx201_1, hx201_2⟩ := at_T56 (Kd.R_reads' HO_6.out).2.2 x8_1 p201 q201
              cases e201
              replace p201 := eq_true p201
              replace q201 := eq_true q201
              go_wp2_with (first | ((with_reducible refine gate_dst (N := 5) rfl ?_); refine box_event ?hg (N := 5) ?hd (cs := #[.string (⟨#[]⟩ : ByteArray), .int .i64 0, .string (⟨#[]⟩ : ByteArray)]) (t := 56) ?hr ?_; (case hd => rfl); (case hg => rfl); (case hr => first | (go_simp; done) | (go_simp; rfl)); intro gb202 hg w14 hbox hb; have n0_ := Aside0.mk (Kd.R_below (Kd.R_elderB (by (with_reducible repeat (first | apply Kd.R_alloc | apply Kd.R_drewN | apply Kd.R_drew)); exact HO_6.out) gb202 (Nat.le_of_eq hg.symm)) hb); have n1_ := Aside0.mk (blk_below (g := gb197) (o := .cells #[.string x198000_1, .int .i64 x198001_1, .string x198002_1] 56 (0, 0)) (by (with_reducible repeat (first | refine blk_drewN ?_ _ | refine blk_drew ?_ | refine blk_alloc ?_ _)); exact BK197.out) hb); have n2_ := Aside0.mk (below_step (by repeat (first | (with_reducible first | exact HB.out | apply below_alloc | apply pw_below_drewN | apply below_drew1 | refine below_set ?_ GE197.out) | exact HB.out)) hb); have n3_ := Aside0.mk (hbox); have n4_ := Aside0.mk ((by rw [hg]; exact (below_size (by repeat (first | (with_reducible first | exact HB.out | apply below_alloc | apply pw_below_drewN | apply below_drew1 | refine below_set ?_ GE197.out) | exact HB.out))) : w.heap.size ≤ gb202)); have n5_ := Aside0.mk ((by rw [hg]; exact (below_size (by repeat (first | (with_reducible first | exact HB.out | apply below_alloc | apply pw_below_drewN | apply below_drew1 | refine below_set ?_ GE197.out) | exact HB.out))) : w.heap.size ≤ gb202)); have n6_ := Aside0.mk ((by rw [hg]; exact Nat.ne_of_lt (blk_lt (g := gb197) (o := .cells #[.string x198000_1, .int .i64 x198001_1, .string x198002_1] 56 (0, 0)) (by (with_reducible repeat (first | refine blk_drewN ?_ _ | refine blk_drew ?_ | refine blk_alloc ?_ _)); exact BK197.out)) : gb197 ≠ gb202)); have n7_ := Aside0.mk ((by rw [hg]; exact Nat.ne_of_gt (blk_lt (g := gb197) (o := .cells #[.string x198000_1, .int .i64 x198001_1, .string x198002_1] 56 (0, 0)) (by (with_reducible repeat (first | refine blk_drewN ?_ _ | refine blk_drew ?_ | refine blk_alloc ?_ _)); exact BK197.out)) : gb202 ≠ gb197)); clear HO_6; clear BK197; clear HB; have HO_6 := n0_; have BK197 := n1_; have HB := n2_; have BK202 := n3_; have GW202 := n4_; have GE202 := n5_; have NB197_202 := n6_; have NB202_197 := n7_; clear n0_ n1_ n2_ n3_ n4_ n5_ n6_ n7_; clear hb hbox hg; have hnb15 := NB202_197.out; have hnc15 := NB197_202.out; have hcz16_0 : w14.cell? ⟨gb202, 0, none⟩ = some (.string (⟨#[]⟩ : ByteArray)) := (blk_cell BK202.out 0).trans rfl; have hcz16_1 : w14.cell? ⟨gb202, 1, none⟩ = some (.int .i64 0) := (blk_cell BK202.out 1).trans rfl; have hcz16_2 : w14.cell? ⟨gb202, 2, none⟩ = some (.string (⟨#[]⟩ : ByteArray)) := (blk_cell BK202.out 2).trans rfl; have hfz16_0 := blk_frozen BK202.out 0; have hfz16_1 := blk_frozen BK202.out 1; have hfz16_2 := blk_frozen BK202.out 2))
              go_roundg k1
              case measure => have := HK1.out; omega
              case rel => exact ⟨(wrap64 (x8_1 + 1)), (x198000_1), (x198001_1), (x198002_1), (by first | rfl | (simp; done) | (simp [*]; done)), H', ⟨by have := HK1.out; omega⟩, ⟨by (with_reducible repeat (first | apply Kd.R_alloc | apply Kd.R_drewN | apply Kd.R_drew)); exact Kd.R_mono (Kd.R_far (p := ⟨gb202, 2, none⟩) (Kd.R_far (p := ⟨gb202, 1, none⟩) (Kd.R_far (p := ⟨gb202, 0, none⟩) (Kd.R_mono HO_6.out (fun k_ hk => (⟨hk, hk.2⟩ : _ ∧ k_ ≠ gb202))) (fun _ hk => hk.2) (.string ((rd_T56 t198 x8_1).f0))) (fun _ hk => hk.2) (.int .i64 ((rd_T56 t198 x8_1).f1))) (fun _ hk => hk.2) (.string ((rd_T56 t198 x8_1).f2))) (fun _ hk => hk.1.1)⟩, ⟨by (with_reducible repeat (first | refine blk_drewN ?_ _ | refine blk_drew ?_ | refine blk_alloc ?_ _)); refine blk_far ?_ NB197_202.out _; (with_reducible repeat (first | refine blk_drewN ?_ _ | refine blk_drew ?_ | refine blk_alloc ?_ _)); refine blk_far ?_ NB197_202.out _; (with_reducible repeat (first | refine blk_drewN ?_ _ | refine blk_drew ?_ | refine blk_alloc ?_ _)); refine blk_far ?_ NB197_202.out _; (with_reducible repeat (first | refine blk_drewN ?_ _ | refine blk_drew ?_ | refine blk_alloc ?_ _)); exact BK197.out⟩, ⟨by repeat (first | (with_reducible first | exact HB.out | apply below_alloc | apply pw_below_drewN | apply below_drew1 | refine below_set ?_ GE197.out | refine below_set ?_ GE202.out) | exact HB.out)⟩⟩
          · rw [if_neg c8] at H
            exact absurd H (by simp)
        · rw [if_neg c7] at H
          exact absurd H (by simp)
      · rw [if_neg c6] at H
        have c6b0 : decide (x8_1 < (t198.length : Int)) = false := decide_eq_false c6
        clear c6
        simp only [Option.some.injEq, Prod.mk.injEq] at H
        obtain ⟨rfl, rfl, rfl, rfl⟩ := H
        have hcz17_0 : wr.cell? ⟨gb197, 0, none⟩ = some (.string x198000_1) := (blk_cell BK197.out 0).trans rfl
        have hcz17_1 : wr.cell? ⟨gb197, 1, none⟩ = some (.int .i64 x198001_1) := (blk_cell BK197.out 1).trans rfl
        have hcz17_2 : wr.cell? ⟨gb197, 2, none⟩ = some (.string x198002_1) := (blk_cell BK197.out 2).trans rfl
        have hfz17_0 := blk_frozen BK197.out 0
        have hfz17_1 := blk_frozen BK197.out 1
        have hfz17_2 := blk_frozen BK197.out 2
        go_wp2
        refine bodyPost_ret (results_ct rfl _ _ gb197 56 #[.string (⟨#[]⟩ : ByteArray), .int .i64 0, .string (⟨#[]⟩ : ByteArray)] (0, 0) _ rfl (by (with_reducible repeat (first | refine blk_drewN ?_ _ | refine blk_drew ?_ | refine blk_alloc ?_ _)); refine blk_put (cs := #[.string (⟨#[]⟩ : ByteArray), .int .i64 0, .string x198002_1]) ?_ 2 _ rfl; (with_reducible repeat (first | refine blk_drewN ?_ _ | refine blk_drew ?_ | refine blk_alloc ?_ _)); refine blk_put (cs := #[.string (⟨#[]⟩ : ByteArray), .int .i64 x198001_1, .string x198002_1]) ?_ 1 _ rfl; (with_reducible repeat (first | refine blk_drewN ?_ _ | refine blk_drew ?_ | refine blk_alloc ?_ _)); refine blk_put (cs := #[.string x198000_1, .int .i64 x198001_1, .string x198002_1]) ?_ 0 _ rfl; (with_reducible repeat (first | refine blk_drewN ?_ _ | refine blk_drew ?_ | refine blk_alloc ?_ _)); exact BK197.out) Try.underlying56 rfl (by kernel_rfl)) rfl ?_
        exact ⟨by first | rfl | (simp [errW_none, errW_some] <;> rfl) | (simp [*, errW_none, errW_some] <;> rfl), by repeat (first | (with_reducible first | exact HB.out | apply below_alloc | apply pw_below_drewN | apply below_drew1 | refine below_set ?_ GE197.out) | exact HB.out)⟩

/-! ### impl_BuiltinArity: function 15 -/
def impl_BuiltinArity.f (k : Nat) (a0 : ByteArray) : Option (Int) := (impl_findBuiltin.f k a0).bind fun bt203 => (if bt203.2.2.2 = true then (some (bt203.2.2.1.size : Int)) else (some (-1)))
theorem impl_BuiltinArity.mono : ∀ a0 k, LeO (impl_BuiltinArity.f k a0) (impl_BuiltinArity.f (k + 1) a0) := by
  intro a0 k
  unfold impl_BuiltinArity.f
  repeat' first
      | (with_reducible exact impl_findBuiltin.mono _ _)
      | (with_reducible exact LeO.refl _)
      | (with_reducible exact LeO.none _)
      | (with_reducible refine LeO.ite ?_ ?_)
      | (with_reducible refine LeO.bind ?_ (fun _ => ?_))
      | exact impl_findBuiltin.mono _ _
      | exact LeO.none _
      | refine LeO.ite ?_ ?_
      | refine LeO.bind ?_ (fun _ => ?_)
set_option maxHeartbeats 8000000 in
set_option maxRecDepth 100000 in
theorem impl_BuiltinArity.calls (k : Nat) (a0 : ByteArray) (r : Int) (w : World) (h : impl_BuiltinArity.f k a0 = some r) :
    Calls Try.prog 15 #[.string a0] w fun e w' => e = .returned (.int .i64 r) ∧ Below w.heap.size w w' := by
  have hu56 := Try.underlying56
  have HB := Aside0.mk (Below.refl w.heap.size w)
  have H : ((impl_findBuiltin.f k a0).bind fun bt203 => (if bt203.2.2.2 = true then (some (bt203.2.2.1.size : Int)) else (some (-1)))) = some r := h
  clear h
  replace H := Option.bind_eq_some_iff.mp H
  obtain ⟨⟨t203, t204, t205, t206⟩, A20, H⟩ := H
  replace H : (if t206 = true then (some (t205.size : Int)) else (some (-1))) = some r := H
  have A2 := Aside0.mk A20
  clear A20
  by_cases c3 : t206 = true
  · subst c3
    have H1 : (some (t205.size : Int)) = some r := by rw [if_pos rfl] at H; exact H
    clear H
    have H := H1
    clear H1
    obtain rfl := Option.some.inj H
    go_enter Try.func15, Try.ntmps15
    go_wp2_with (first | ((with_reducible refine gate_callee (f := 36) rfl ?_); refine goesL_ (some 7) rfl rfl Try.func36 (by kernel_rfl) rfl #[.string a0] rfl (by (try simp only [List.map_toArray, List.map_cons, List.map_nil]); first | done | rfl | (simp only [List.length_drop, List.length_take]; rfl)) ?_; (with_reducible refine (impl_findBuiltin.calls k a0 t203 t204 t205 true _ A2.out).mono ?_); rintro e w4 ⟨rfl, hb⟩; refine ⟨_, rfl, ?_⟩; have n0_ := Aside0.mk (below_step (by repeat (first | (with_reducible first | exact HB.out | apply below_alloc | apply pw_below_drewN | apply below_drew1) | exact HB.out)) hb); clear HB; have HB := n0_; clear n0_; (try clear hb); (try clear hb2); (try clear hk); (try clear hi)) | ((with_reducible refine gate_dst (N := 3) rfl ?_); refine box_event ?hg (N := 3) ?hd (cs := #[.string (⟨#[]⟩ : ByteArray), .int .i64 0, .string (⟨#[]⟩ : ByteArray)]) (t := 56) ?hr ?_; (case hd => rfl); (case hg => rfl); (case hr => first | (go_simp; done) | (go_simp; rfl)); intro gb207 hg w5 hbox hb; have n0_ := Aside0.mk (below_step (by repeat (first | (with_reducible first | exact HB.out | apply below_alloc | apply pw_below_drewN | apply below_drew1) | exact HB.out)) hb); have n1_ := Aside0.mk (hbox); have n2_ := Aside0.mk ((by rw [hg]; exact (below_size (by repeat (first | (with_reducible first | exact HB.out | apply below_alloc | apply pw_below_drewN | apply below_drew1) | exact HB.out))) : w.heap.size ≤ gb207)); have n3_ := Aside0.mk ((by rw [hg]; exact (below_size (by repeat (first | (with_reducible first | exact HB.out | apply below_alloc | apply pw_below_drewN | apply below_drew1) | exact HB.out))) : w.heap.size ≤ gb207)); clear HB; have HB := n0_; have BK207 := n1_; have GW207 := n2_; have GE207 := n3_; clear n0_ n1_ n2_ n3_; clear hb hbox hg; have hcz6_0 : w5.cell? ⟨gb207, 0, none⟩ = some (.string (⟨#[]⟩ : ByteArray)) := (blk_cell BK207.out 0).trans rfl; have hcz6_1 : w5.cell? ⟨gb207, 1, none⟩ = some (.int .i64 0) := (blk_cell BK207.out 1).trans rfl; have hcz6_2 : w5.cell? ⟨gb207, 2, none⟩ = some (.string (⟨#[]⟩ : ByteArray)) := (blk_cell BK207.out 2).trans rfl; have hfz6_0 := blk_frozen BK207.out 0; have hfz6_1 := blk_frozen BK207.out 1; have hfz6_2 := blk_frozen BK207.out 2))
    go_ret
    exact ⟨by first | rfl | (simp [errW_none, errW_some] <;> rfl) | (simp [*, errW_none, errW_some] <;> rfl), by repeat (first | (with_reducible first | exact HB.out | apply below_alloc | apply pw_below_drewN | apply below_drew1 | refine below_set ?_ GE207.out) | exact HB.out)⟩
  · replace c3 := Bool.eq_false_iff.mpr c3
    subst c3
    have H1 : (some (-1)) = some r := by rw [if_neg (show ¬ (false = true) by decide)] at H; exact H
    clear H
    have H := H1
    clear H1
    obtain rfl := Option.some.inj H
    go_enter Try.func15, Try.ntmps15
    go_wp2_with (first | ((with_reducible refine gate_callee (f := 36) rfl ?_); refine goesL_ (some 7) rfl rfl Try.func36 (by kernel_rfl) rfl #[.string a0] rfl (by (try simp only [List.map_toArray, List.map_cons, List.map_nil]); first | done | rfl | (simp only [List.length_drop, List.length_take]; rfl)) ?_; (with_reducible refine (impl_findBuiltin.calls k a0 t203 t204 t205 false _ A2.out).mono ?_); rintro e w7 ⟨rfl, hb⟩; refine ⟨_, rfl, ?_⟩; have n0_ := Aside0.mk (below_step (by repeat (first | (with_reducible first | exact HB.out | apply below_alloc | apply pw_below_drewN | apply below_drew1) | exact HB.out)) hb); clear HB; have HB := n0_; clear n0_; (try clear hb); (try clear hb2); (try clear hk); (try clear hi)) | ((with_reducible refine gate_dst (N := 3) rfl ?_); refine box_event ?hg (N := 3) ?hd (cs := #[.string (⟨#[]⟩ : ByteArray), .int .i64 0, .string (⟨#[]⟩ : ByteArray)]) (t := 56) ?hr ?_; (case hd => rfl); (case hg => rfl); (case hr => first | (go_simp; done) | (go_simp; rfl)); intro gb207 hg w8 hbox hb; have n0_ := Aside0.mk (below_step (by repeat (first | (with_reducible first | exact HB.out | apply below_alloc | apply pw_below_drewN | apply below_drew1) | exact HB.out)) hb); have n1_ := Aside0.mk (hbox); have n2_ := Aside0.mk ((by rw [hg]; exact (below_size (by repeat (first | (with_reducible first | exact HB.out | apply below_alloc | apply pw_below_drewN | apply below_drew1) | exact HB.out))) : w.heap.size ≤ gb207)); have n3_ := Aside0.mk ((by rw [hg]; exact (below_size (by repeat (first | (with_reducible first | exact HB.out | apply below_alloc | apply pw_below_drewN | apply below_drew1) | exact HB.out))) : w.heap.size ≤ gb207)); clear HB; have HB := n0_; have BK207 := n1_; have GW207 := n2_; have GE207 := n3_; clear n0_ n1_ n2_ n3_; clear hb hbox hg; have hcz9_0 : w8.cell? ⟨gb207, 0, none⟩ = some (.string (⟨#[]⟩ : ByteArray)) := (blk_cell BK207.out 0).trans rfl; have hcz9_1 : w8.cell? ⟨gb207, 1, none⟩ = some (.int .i64 0) := (blk_cell BK207.out 1).trans rfl; have hcz9_2 : w8.cell? ⟨gb207, 2, none⟩ = some (.string (⟨#[]⟩ : ByteArray)) := (blk_cell BK207.out 2).trans rfl; have hfz9_0 := blk_frozen BK207.out 0; have hfz9_1 := blk_frozen BK207.out 1; have hfz9_2 := blk_frozen BK207.out 2))
    go_ret
    exact ⟨by first | rfl | (simp [errW_none, errW_some] <;> rfl) | (simp [*, errW_none, errW_some] <;> rfl), by repeat (first | (with_reducible first | exact HB.out | apply below_alloc | apply pw_below_drewN | apply below_drew1 | refine below_set ?_ GE207.out) | exact HB.out)⟩

/-! ### laws_FnExactBuiltinArity: function 5 -/
def laws_FnExactBuiltinArity.f (k : Nat) (a0 : ByteArray) : Option (Bool) := if (a0.size : Int) > 1048576 then (some true) else ((spec_BuiltinArity.f k a0).bind fun t208 => ((impl_BuiltinArity.f k a0).bind fun t209 => (if t209 = t208 then (some true) else (some false))))
theorem laws_FnExactBuiltinArity.mono : ∀ a0 k, LeO (laws_FnExactBuiltinArity.f k a0) (laws_FnExactBuiltinArity.f (k + 1) a0) := by
  intro a0 k
  unfold laws_FnExactBuiltinArity.f
  repeat' first
      | (with_reducible exact impl_BuiltinArity.mono _ _)
      | (with_reducible exact spec_BuiltinArity.mono _ _)
      | (with_reducible exact LeO.refl _)
      | (with_reducible exact LeO.none _)
      | (with_reducible refine LeO.ite ?_ ?_)
      | (with_reducible refine LeO.bind ?_ (fun _ => ?_))
      | exact impl_BuiltinArity.mono _ _
      | exact spec_BuiltinArity.mono _ _
      | exact LeO.none _
      | refine LeO.ite ?_ ?_
      | refine LeO.bind ?_ (fun _ => ?_)
set_option maxHeartbeats 8000000 in
set_option maxRecDepth 100000 in
theorem laws_FnExactBuiltinArity.calls (k : Nat) (a0 : ByteArray) (r : Bool) (w : World) (h : laws_FnExactBuiltinArity.f k a0 = some r) :
    Calls Try.prog 5 #[.string a0] w fun e w' => e = .returned (.bool r) ∧ Below w.heap.size w w' := by
  have HB := Aside0.mk (Below.refl w.heap.size w)
  have H : (if (a0.size : Int) > 1048576 then (some true) else ((spec_BuiltinArity.f k a0).bind fun t208 => ((impl_BuiltinArity.f k a0).bind fun t209 => (if t209 = t208 then (some true) else (some false))))) = some r := h
  clear h
  by_cases c2 : (a0.size : Int) > 1048576
  · rw [if_pos c2] at H
    have c2b0 : decide (1048576 < (a0.size : Int)) = true := decide_eq_true c2
    have c2b1 : decide (1048576 < a0.size) = true := decide_eq_true (by omega)
    clear c2
    obtain rfl := Option.some.inj H
    go_enter Try.func5, Try.ntmps5
    go_wp2
    go_ret
    exact ⟨by first | rfl | (simp [errW_none, errW_some] <;> rfl) | (simp [*, errW_none, errW_some] <;> rfl), by repeat (first | (with_reducible first | exact HB.out | apply below_alloc | apply pw_below_drewN | apply below_drew1) | exact HB.out)⟩
  · rw [if_neg c2] at H
    have c2b0 : decide (1048576 < (a0.size : Int)) = false := decide_eq_false c2
    have c2b1 : decide (1048576 < a0.size) = false := decide_eq_false (by omega)
    clear c2
    replace H := Option.bind_eq_some_iff.mp H
    obtain ⟨t208, A30, H⟩ := H
    replace H : ((impl_BuiltinArity.f k a0).bind fun t209 => (if t209 = t208 then (some true) else (some false))) = some r := H
    have A3 := Aside0.mk A30
    clear A30
    replace H := Option.bind_eq_some_iff.mp H
    obtain ⟨t209, A40, H⟩ := H
    replace H : (if t209 = t208 then (some true) else (some false)) = some r := H
    have A4 := Aside0.mk A40
    clear A40
    by_cases c5 : t209 = t208
    · rw [if_pos c5] at H
      have c5b0 : (t209 == t208) = true := beq_iff_eq.mpr c5
      have c5b1 : (t209 != t208) = false := bne_eq_false_iff_eq.mpr c5
      clear c5
      obtain rfl := Option.some.inj H
      go_enter Try.func5, Try.ntmps5
      go_wp2_with (first | ((with_reducible refine gate_callee (f := 14) rfl ?_); refine goesL_ (some 9) rfl rfl Try.func14 (by kernel_rfl) rfl #[.string a0] rfl (by (try simp only [List.map_toArray, List.map_cons, List.map_nil]); first | done | rfl | (simp only [List.length_drop, List.length_take]; rfl)) ?_; (with_reducible refine (spec_BuiltinArity.calls k a0 t208 _ A3.out).mono ?_); rintro e w6 ⟨rfl, hb⟩; refine ⟨_, rfl, ?_⟩; have n0_ := Aside0.mk (below_step (by repeat (first | (with_reducible first | exact HB.out | apply below_alloc | apply pw_below_drewN | apply below_drew1) | exact HB.out)) hb); clear HB; have HB := n0_; clear n0_; (try clear hb); (try clear hb2); (try clear hk); (try clear hi)) | ((with_reducible refine gate_callee (f := 15) rfl ?_); refine goesL_ (some 11) rfl rfl Try.func15 (by kernel_rfl) rfl #[.string a0] rfl (by (try simp only [List.map_toArray, List.map_cons, List.map_nil]); first | done | rfl | (simp only [List.length_drop, List.length_take]; rfl)) ?_; (with_reducible refine (impl_BuiltinArity.calls k a0 t209 _ A4.out).mono ?_); rintro e w7 ⟨rfl, hb⟩; refine ⟨_, rfl, ?_⟩; have n0_ := Aside0.mk (below_step (by repeat (first | (with_reducible first | exact HB.out | apply below_alloc | apply pw_below_drewN | apply below_drew1) | exact HB.out)) hb); clear HB; have HB := n0_; clear n0_; (try clear hb); (try clear hb2); (try clear hk); (try clear hi)))
      go_ret
      exact ⟨by first | rfl | (simp [errW_none, errW_some] <;> rfl) | (simp [*, errW_none, errW_some] <;> rfl), by repeat (first | (with_reducible first | exact HB.out | apply below_alloc | apply pw_below_drewN | apply below_drew1) | exact HB.out)⟩
    · rw [if_neg c5] at H
      have c5b0 : (t209 == t208) = false := beq_eq_false_iff_ne.mpr c5
      have c5b1 : (t209 != t208) = true := bne_iff_ne.mpr c5
      obtain rfl := Option.some.inj H
      go_enter Try.func5, Try.ntmps5
      go_wp2_with (first | ((with_reducible refine gate_callee (f := 14) rfl ?_); refine goesL_ (some 9) rfl rfl Try.func14 (by kernel_rfl) rfl #[.string a0] rfl (by (try simp only [List.map_toArray, List.map_cons, List.map_nil]); first | done | rfl | (simp only [List.length_drop, List.length_take]; rfl)) ?_; (with_reducible refine (spec_BuiltinArity.calls k a0 t208 _ A3.out).mono ?_); rintro e w8 ⟨rfl, hb⟩; refine ⟨_, rfl, ?_⟩; have n0_ := Aside0.mk (below_step (by repeat (first | (with_reducible first | exact HB.out | apply below_alloc | apply pw_below_drewN | apply below_drew1) | exact HB.out)) hb); clear HB; have HB := n0_; clear n0_; (try clear hb); (try clear hb2); (try clear hk); (try clear hi)) | ((with_reducible refine gate_callee (f := 15) rfl ?_); refine goesL_ (some 11) rfl rfl Try.func15 (by kernel_rfl) rfl #[.string a0] rfl (by (try simp only [List.map_toArray, List.map_cons, List.map_nil]); first | done | rfl | (simp only [List.length_drop, List.length_take]; rfl)) ?_; (with_reducible refine (impl_BuiltinArity.calls k a0 t209 _ A4.out).mono ?_); rintro e w9 ⟨rfl, hb⟩; refine ⟨_, rfl, ?_⟩; have n0_ := Aside0.mk (below_step (by repeat (first | (with_reducible first | exact HB.out | apply below_alloc | apply pw_below_drewN | apply below_drew1) | exact HB.out)) hb); clear HB; have HB := n0_; clear n0_; (try clear hb); (try clear hb2); (try clear hk); (try clear hi)))
      go_ret
      exact ⟨by first | rfl | (simp [errW_none, errW_some] <;> rfl) | (simp [*, errW_none, errW_some] <;> rfl), by repeat (first | (with_reducible first | exact HB.out | apply below_alloc | apply pw_below_drewN | apply below_drew1) | exact HB.out)⟩

/-- THE ONE PURE STATEMENT of laws_FnExactBuiltinArity: yours. -/
def laws_FnExactBuiltinArity.Pure : Prop := ∀ (a0 : ByteArray), a0.size ≤ 140737488351232 → ∃ k, laws_FnExactBuiltinArity.f k a0 = some true
theorem laws_FnExactBuiltinArity.walk (P : laws_FnExactBuiltinArity.Pure) (a0 : ByteArray) (w : World) (w0 : a0.size ≤ 140737488351232) :
    Calls Try.prog 5 #[.string a0] w fun e w' => e = .returned (.bool true) ∧ Below w.heap.size w w' := by
  obtain ⟨k, h⟩ := P a0 w0
  refine (laws_FnExactBuiltinArity.calls k a0 true w h).mono ?_
  rintro e w' ⟨rfl, hd⟩
  exact ⟨rfl, hd⟩

end Go.Proofs.Ytcnganocdjcbdaa.PFnExactBuiltinArity
