/- Printed functions: spec_l12Match. -/
import Derived.Test.YtabbpnkbhapibaaYFcP0
import Derived.Test.YtabbpnkbhapibaaYFcP8
import Derived.Test.YtabbpnkbhapibaaYFcP10
namespace Go.Proofs.Ytabbpnkbhapibaa.PFnExactFinalOf
open Go.RowKit Go.Proofs.YtabbpnkbhapibaaG Go.Proofs.YtabbpnkbhapibaaW.PrintWords Go.Proofs.YtabbpnkbhapibaaW.PrintLast Go.Proofs.YtabbpnkbhapibaaW.PrintMore
attribute [local go_sem] max2_int min2_int max_two min_two max_three min_three max_four min_four   -- for this text's walks alone
set_option linter.unusedVariables false
set_option linter.unusedSimpArgs false
/-! ### spec_l12Match: function 61 -/
mutual
def spec_l12Match.j0 : Nat → List Int → Int → Int → Int → Int → Option (Int × Int × (List (S35)) × Int × Int)
 | 0, _, _, _, _, _ => none
 | k + 1, x1000, x1001, x1002, x258000, x258001 => (spec_l00Src_one.f x1000 x1001 x1002 6).bind fun bt270 => (if bt270.1 = true then ((spec_l00Src_among.f x1000 bt270.2.1 bt270.2.2 (([(-1), 0, 9, 1099511627776] : List Int))).bind fun bt276 => (spec_l12Match.j1 k x1000 bt276.2.1 bt276.2.2 x258000 bt276.1)) else (spec_l12Match.j1 k x1000 bt270.2.1 bt270.2.2 x258000 x258001))
def spec_l12Match.j1 : Nat → List Int → Int → Int → Int → Int → Option (Int × Int × (List (S35)) × Int × Int)
 | 0, _, _, _, _, _ => none
 | k + 1, x1000, x1001, x1002, x258000, x258001 => (spec_l00Src_pick.f x1000 x1001 x1002 5).bind fun bt279 => (spec_l12Match.l0 k bt279.1 x1000 bt279.2.1 bt279.2.2 x258000 x258001 ([] : List (S35)))
def spec_l12Match.l0 : Nat → Int → List Int → Int → Int → Int → Int → List (S35) → Option (Int × Int × (List (S35)) × Int × Int)
 | 0, _, _, _, _, _, _, _ => none
 | k + 1, x4, x1000, x1001, x1002, x258000, x258001, x258002 => if x4 > 0 then ((spec_l12Capture.f k x1000 x1001 x1002).bind fun bt282 => (if x258002.length < 2932031007402 then (spec_l12Match.l0 k (wrap64 (x4 - 1)) x1000 bt282.2.2.2.2.1 bt282.2.2.2.2.2 x258000 x258001 (x258002 ++ [(⟨bt282.1, bt282.2.1, bt282.2.2.1, bt282.2.2.2.1⟩ : S35)])) else (none))) else (some (x258000, x258001, x258002, x1001, x1002))
end
def spec_l12Match.f (k : Nat) (s0_0 : List Int) (s0_1 : Int) (s0_2 : Int) : Option (Int × Int × (List (S35)) × Int × Int) := (spec_l00Src_pick.f s0_0 s0_1 s0_2 5).bind fun bt254 => ((spec_l00Src_pick.f s0_0 bt254.2.1 bt254.2.2 6).bind fun bt258 => ((spec_l00Src_one.f s0_0 bt258.2.1 bt258.2.2 6).bind fun bt261 => (if bt261.1 = true then ((spec_l00Src_among.f s0_0 bt261.2.1 bt261.2.2 (([(-1), 3, 9, 300] : List Int))).bind fun bt267 => (spec_l12Match.j0 k s0_0 bt267.2.1 bt267.2.2 bt267.1 (wrap64 (bt254.1 + bt258.1)))) else (spec_l12Match.j0 k s0_0 bt261.2.1 bt261.2.2 bt254.1 (wrap64 (bt254.1 + bt258.1))))))
def spec_l12Match.T10 : Bool × List (List Nat × List Nat) := (true, [([], []), ([0], [0]), ([], []), ([2], [2]), ([3], [3]), ([1, 4, 3], [1, 4]), ([0, 1, 2, 3, 4, 5], []), ([6, 5, 5, 0, 1, 2, 3, 4, 5], [5, 6])])
def spec_l12Match.B10 : List Nat := [0, 1, 0, 4, 12, 31, 63, 127]
theorem spec_l12Match.tab10 : rtab .any (opsOf Try.f61 10) = spec_l12Match.T10 := by kernel_rfl
theorem spec_l12Match.bits10 : waitsOk spec_l12Match.T10.2 spec_l12Match.B10 = true := by kernel_rfl
set_option maxHeartbeats 8000000 in
set_option maxRecDepth 100000 in
theorem spec_l12Match.calls (k : Nat) (g : Nat) (s0_0 : List Int) (s0_1 : Int) (s0_2 : Int) (r1 : Int) (r2 : Int) (r3 : List (S35)) (r4 : Int) (r5 : Int) (w0 w : World) (hI : IsS193 w0 w g s0_0 s0_1 s0_2) (hB : Below w0.heap.size w0 w) (h : spec_l12Match.f k s0_0 s0_1 s0_2 = some (r1, r2, r3, r4, r5)) :
  Calls Try.prog 61 #[.pointer (some ⟨g, 0, none⟩)] w fun e w' => ∃ v2_ : Value, e = .returned (.agg #[.int .i64 r1, .int .i64 r2, v2_]) ∧ Kd.R k35 35 w' w.heap.size (fun _ => True) v2_ r3 ∧ IsS193 w0 w' g s0_0 r4 r5 ∧ Below w0.heap.size w0 w' ∧ KeepBut w w' g none := by
 have hu30 := Try.underlying30
 have HI0 := Aside0.mk hI
 have HK := Aside0.mk (KeepBut.refl w g none)
 have HL := Aside0.mk hB.size
 clear hI
 have HW0 := Aside0.mk hB.size
 have HB := Aside0.mk hB
 clear hB
 have H : ((spec_l00Src_pick.f s0_0 s0_1 s0_2 5).bind fun bt254 => ((spec_l00Src_pick.f s0_0 bt254.2.1 bt254.2.2 6).bind fun bt258 => ((spec_l00Src_one.f s0_0 bt258.2.1 bt258.2.2 6).bind fun bt261 => (if bt261.1 = true then ((spec_l00Src_among.f s0_0 bt261.2.1 bt261.2.2 (([(-1), 3, 9, 300] : List Int))).bind fun bt267 => (spec_l12Match.j0 k s0_0 bt267.2.1 bt267.2.2 bt267.1 (wrap64 (bt254.1 + bt258.1)))) else (spec_l12Match.j0 k s0_0 bt261.2.1 bt261.2.2 bt254.1 (wrap64 (bt254.1 + bt258.1))))))) = some (r1, r2, r3, r4, r5) := h
 clear h
 replace H := Option.bind_eq_some_iff.mp H
 obtain ⟨⟨t254, t255, t256⟩, A20, H⟩ := H
 replace H : ((spec_l00Src_pick.f s0_0 t255 t256 6).bind fun bt258 => ((spec_l00Src_one.f s0_0 bt258.2.1 bt258.2.2 6).bind fun bt261 => (if bt261.1 = true then ((spec_l00Src_among.f s0_0 bt261.2.1 bt261.2.2 (([(-1), 3, 9, 300] : List Int))).bind fun bt267 => (spec_l12Match.j0 k s0_0 bt267.2.1 bt267.2.2 bt267.1 (wrap64 (t254 + bt258.1)))) else (spec_l12Match.j0 k s0_0 bt261.2.1 bt261.2.2 t254 (wrap64 (t254 + bt258.1)))))) = some (r1, r2, r3, r4, r5) := H
 have A2 := Aside0.mk A20
 clear A20
 replace H := Option.bind_eq_some_iff.mp H
 obtain ⟨⟨t258, t259, t260⟩, A30, H⟩ := H
 replace H : ((spec_l00Src_one.f s0_0 t259 t260 6).bind fun bt261 => (if bt261.1 = true then ((spec_l00Src_among.f s0_0 bt261.2.1 bt261.2.2 (([(-1), 3, 9, 300] : List Int))).bind fun bt267 => (spec_l12Match.j0 k s0_0 bt267.2.1 bt267.2.2 bt267.1 (wrap64 (t254 + t258)))) else (spec_l12Match.j0 k s0_0 bt261.2.1 bt261.2.2 t254 (wrap64 (t254 + t258))))) = some (r1, r2, r3, r4, r5) := H
 have A3 := Aside0.mk A30
 clear A30
 replace H := Option.bind_eq_some_iff.mp H
 obtain ⟨⟨t261, t262, t263⟩, A40, H⟩ := H
 replace H : (if t261 = true then ((spec_l00Src_among.f s0_0 t262 t263 (([(-1), 3, 9, 300] : List Int))).bind fun bt267 => (spec_l12Match.j0 k s0_0 bt267.2.1 bt267.2.2 bt267.1 (wrap64 (t254 + t258)))) else (spec_l12Match.j0 k s0_0 t262 t263 t254 (wrap64 (t254 + t258)))) = some (r1, r2, r3, r4, r5) := H
 have A4 := Aside0.mk A40
 clear A40
 have HC5 := Aside0.mk H
 clear H
 go_enter Try.func61, Try.ntmps61
 try go_wp2_with (first | ((with_reducible refine gate_dst (N := 2) rfl ?_); refine sV (N := 2) (cs := #[.int .i64 0, .int .i64 0, .slice none 0 0]) (t := 30) ?_; intro gb253 hg w6 hbox hb; have n0_ := Aside0.mk (IsS193.below (by repeat (first | (with_reducible first | exact HI0.out | apply IsS193.alloc | apply IsS193.drewN | apply IsS193.drew | apply IsS193.set_1 | apply IsS193.set_2) | exact HI0.out)) hb); have n1_ := Aside0.mk (KeepBut.trans (by repeat (first | (with_reducible first | exact HK.out | apply KeepBut.set_ | apply keep_drewN | apply keep_drew | apply keep_alloc) | exact HK.out)) (KeepBut.of_below hb g none) (.inl rfl)); have n2_ := Aside0.mk (below_step (by repeat (first | (with_reducible first | exact HB.out | apply below_alloc | apply pw_below_drewN | apply below_drew1 | refine below_set ?_ (IsS193.ge HI0.out)) | exact HB.out)) hb); have n3_ := Aside0.mk (hbox); have n4_ := Aside0.mk ((by rw [hg]; exact (keep_size (w := w) (g := g) (row := none) (by repeat (first | (with_reducible first | exact HK.out | apply KeepBut.set_ | apply keep_drewN | apply keep_drew | apply keep_alloc) | exact HK.out))) : w.heap.size ≤ gb253)); have n5_ := Aside0.mk ((Nat.le_trans HW0.out (by rw [hg]; exact (keep_size (w := w) (g := g) (row := none) (by repeat (first | (with_reducible first | exact HK.out | apply KeepBut.set_ | apply keep_drewN | apply keep_drew | apply keep_alloc) | exact HK.out))) : w.heap.size ≤ gb253) : w0.heap.size ≤ gb253)); have n6_ := Aside0.mk ((by rw [hg]; exact Nat.ne_of_lt (IsS193.lt (show IsS193 w0 _ g s0_0 s0_1 s0_2 from by repeat (first | (with_reducible first | exact HI0.out | apply IsS193.alloc | apply IsS193.drewN | apply IsS193.drew | apply IsS193.set_1 | apply IsS193.set_2) | exact HI0.out))) : g ≠ gb253)); have n7_ := Aside0.mk ((by rw [hg]; exact Nat.ne_of_gt (IsS193.lt (show IsS193 w0 _ g s0_0 s0_1 s0_2 from by repeat (first | (with_reducible first | exact HI0.out | apply IsS193.alloc | apply IsS193.drewN | apply IsS193.drew | apply IsS193.set_1 | apply IsS193.set_2) | exact HI0.out))) : gb253 ≠ g)); clear HI0; clear HK; clear HB; have HI0 := n0_; have HK := n1_; have HB := n2_; have BK253 := n3_; have GW253 := n4_; have GE253 := n5_; have NB0_253 := n6_; have NB253_0 := n7_; clear n0_ n1_ n2_ n3_ n4_ n5_ n6_ n7_; clear hb hbox hg) | ((with_reducible refine gate_callee (f := 132) rfl ?_); refine sC (some 6) Try.func132 #[.pointer (some ⟨g, 0, none⟩), .int .i64 5] (spec_l00Src_pick.calls g s0_0 s0_1 s0_2 5 t254 t255 t256 w0 _ ?side1 ?side2 A2.out) ?_; (case side1 => repeat (first | (with_reducible first | exact HI0.out | apply IsS193.alloc | apply IsS193.drewN | apply IsS193.drew | apply IsS193.set_1 | apply IsS193.set_2 | refine IsS193.far ?_ NB0_253.out _) | exact HI0.out)); (case side2 => repeat (first | (with_reducible first | exact HB.out | apply below_alloc | apply pw_below_drewN | apply below_drew1 | refine below_set ?_ (IsS193.ge HI0.out) | refine below_set ?_ GE253.out) | exact HB.out)); rintro e w7 ⟨rfl, hi, hb, hk⟩; refine ⟨_, rfl, ?_⟩; have n0_ := Aside0.mk (KeepBut.blk hk (g' := gb253) (o := .cells #[.int .i64 0, .int .i64 0, .slice none 0 0] 30 (0, 0)) (sT BK253.out) NB253_0.out (by simp)); have n1_ := Aside0.mk (KeepBut.trans (by repeat (first | (with_reducible first | exact HK.out | apply KeepBut.set_ | apply keep_drewN | apply keep_drew | apply keep_alloc | refine keep_far ?_ GW253.out _) | exact HK.out)) hk (.inl rfl)); have n2_ := Aside0.mk (hb); have n3_ := Aside0.mk (hi); clear BK253; clear HK; clear HB; clear HI0; have BK253 := n0_; have HK := n1_; have HB := n2_; have HI0 := n3_; clear n0_ n1_ n2_ n3_; (try clear hb); (try clear hb2); (try clear hk); (try clear hi)) | ((with_reducible refine gate_dst (N := 3) rfl ?_); refine sV (N := 3) (cs := #[.int .i64 0, .int .i64 0, .slice none 0 0]) (t := 30) ?_; intro gb257 hg w8 hbox hb; have n0_ := Aside0.mk (IsS193.below (by repeat (first | (with_reducible first | exact HI0.out | apply IsS193.alloc | apply IsS193.drewN | apply IsS193.drew | apply IsS193.set_1 | apply IsS193.set_2 | refine IsS193.far ?_ NB0_253.out _) | exact HI0.out)) hb); have n1_ := sK BK253 hb; have n2_ := Aside0.mk (KeepBut.trans (by repeat (first | (with_reducible first | exact HK.out | apply KeepBut.set_ | apply keep_drewN | apply keep_drew | apply keep_alloc | refine keep_far ?_ GW253.out _) | exact HK.out)) (KeepBut.of_below hb g none) (.inl rfl)); have n3_ := Aside0.mk (below_step (by repeat (first | (with_reducible first | exact HB.out | apply below_alloc | apply pw_below_drewN | apply below_drew1 | refine below_set ?_ (IsS193.ge HI0.out) | refine below_set ?_ GE253.out) | exact HB.out)) hb); have n4_ := Aside0.mk (hbox); have n5_ := Aside0.mk ((by rw [hg]; exact (keep_size (w := w) (g := g) (row := none) (by repeat (first | (with_reducible first | exact HK.out | apply KeepBut.set_ | apply keep_drewN | apply keep_drew | apply keep_alloc | refine keep_far ?_ GW253.out _) | exact HK.out))) : w.heap.size ≤ gb257)); have n6_ := Aside0.mk ((Nat.le_trans HW0.out (by rw [hg]; exact (keep_size (w := w) (g := g) (row := none) (by repeat (first | (with_reducible first | exact HK.out | apply KeepBut.set_ | apply keep_drewN | apply keep_drew | apply keep_alloc | refine keep_far ?_ GW253.out _) | exact HK.out))) : w.heap.size ≤ gb257) : w0.heap.size ≤ gb257)); have n7_ := sN BK253 hg; have n8_ := sM BK253 hg; have n9_ := Aside0.mk ((by rw [hg]; exact Nat.ne_of_lt (IsS193.lt (show IsS193 w0 _ g s0_0 t255 t256 from by repeat (first | (with_reducible first | exact HI0.out | apply IsS193.alloc | apply IsS193.drewN | apply IsS193.drew | apply IsS193.set_1 | apply IsS193.set_2 | refine IsS193.far ?_ NB0_253.out _) | exact HI0.out))) : g ≠ gb257)); have n10_ := Aside0.mk ((by rw [hg]; exact Nat.ne_of_gt (IsS193.lt (show IsS193 w0 _ g s0_0 t255 t256 from by repeat (first | (with_reducible first | exact HI0.out | apply IsS193.alloc | apply IsS193.drewN | apply IsS193.drew | apply IsS193.set_1 | apply IsS193.set_2 | refine IsS193.far ?_ NB0_253.out _) | exact HI0.out))) : gb257 ≠ g)); clear HI0; clear BK253; clear HK; clear HB; have HI0 := n0_; have BK253 := n1_; have HK := n2_; have HB := n3_; have BK257 := n4_; have GW257 := n5_; have GE257 := n6_; have NB253_257 := n7_; have NB257_253 := n8_; have NB0_257 := n9_; have NB257_0 := n10_; clear n0_ n1_ n2_ n3_ n4_ n5_ n6_ n7_ n8_ n9_ n10_; clear hb hbox hg; have hnb9 := NB257_253.out; have hnc9 := NB253_257.out; have hnb10 := NB257_0.out; have hnc10 := NB0_257.out; obtain ⟨hcz11_0, hcz11_1, hcz11_2, hfz11_0, hfz11_1, hfz11_2⟩ := cells3 BK257.out))
 have n0_ : Aside0 ((((w8.setCell ⟨gb257, 0, none⟩ (.int .i64 t254)).setCell ⟨gb257, 1, none⟩ (.int .i64 0)).setCell ⟨gb257, 2, none⟩ (.slice none 0 0)).heap[gb253]? = some (.cells #[.int .i64 0, .int .i64 0, .slice none 0 0] 30 (0, 0))) := ⟨by (with_reducible repeat (first | refine blk_drewN ?_ _ | refine blk_drew ?_ | refine blk_alloc ?_ _)); refine blk_far ?_ NB253_257.out _; (with_reducible repeat (first | refine blk_drewN ?_ _ | refine blk_drew ?_ | refine blk_alloc ?_ _)); refine blk_far ?_ NB253_257.out _; (with_reducible repeat (first | refine blk_drewN ?_ _ | refine blk_drew ?_ | refine blk_alloc ?_ _)); refine blk_far ?_ NB253_257.out _; exact sT BK253.out⟩
 have n1_ : Aside0 ((((w8.setCell ⟨gb257, 0, none⟩ (.int .i64 t254)).setCell ⟨gb257, 1, none⟩ (.int .i64 0)).setCell ⟨gb257, 2, none⟩ (.slice none 0 0)).heap[gb257]? = some (.cells #[.int .i64 t254, .int .i64 0, .slice none 0 0] 30 (0, 0))) := ⟨sP3 (sT BK257.out)⟩
 have n2_ : Aside0 (IsS193 w0 (((w8.setCell ⟨gb257, 0, none⟩ (.int .i64 t254)).setCell ⟨gb257, 1, none⟩ (.int .i64 0)).setCell ⟨gb257, 2, none⟩ (.slice none 0 0)) g s0_0 t255 t256) := ⟨by repeat (first | (with_reducible first | exact HI0.out | apply IsS193.alloc | apply IsS193.drewN | apply IsS193.drew | apply IsS193.set_1 | apply IsS193.set_2 | refine IsS193.far ?_ NB0_253.out _ | refine IsS193.far ?_ NB0_257.out _) | exact HI0.out)⟩
 have n3_ : Aside0 (KeepBut w (((w8.setCell ⟨gb257, 0, none⟩ (.int .i64 t254)).setCell ⟨gb257, 1, none⟩ (.int .i64 0)).setCell ⟨gb257, 2, none⟩ (.slice none 0 0)) g none) := ⟨by repeat (first | (with_reducible first | exact HK.out | apply KeepBut.set_ | apply keep_drewN | apply keep_drew | apply keep_alloc | refine keep_far ?_ GW253.out _ | refine keep_far ?_ GW257.out _) | exact HK.out)⟩
 have n4_ : Aside0 (Below w0.heap.size w0 (((w8.setCell ⟨gb257, 0, none⟩ (.int .i64 t254)).setCell ⟨gb257, 1, none⟩ (.int .i64 0)).setCell ⟨gb257, 2, none⟩ (.slice none 0 0))) := ⟨by repeat (first | (with_reducible first | exact HB.out | apply below_alloc | apply pw_below_drewN | apply below_drew1 | refine below_set ?_ (IsS193.ge HI0.out) | refine below_set ?_ GE253.out | refine below_set ?_ GE257.out) | exact HB.out)⟩
 (try clear BK253)
 (try clear BK257)
 (try clear HI0)
 (try clear HK)
 (try clear HB)
 generalize (((w8.setCell ⟨gb257, 0, none⟩ (.int .i64 t254)).setCell ⟨gb257, 1, none⟩ (.int .i64 0)).setCell ⟨gb257, 2, none⟩ (.slice none 0 0)) = w12 at n0_ n1_ n2_ n3_ n4_ ⊢
 have BK253 := n0_
 have BK257 := n1_
 have HI0 := n2_
 have HK := n3_
 have HB := n4_
 clear n0_ n1_ n2_ n3_ n4_
 have n0_ := Aside0.mk (blk_drew BK253.out)
 have n1_ := Aside0.mk (blk_drew BK257.out)
 have n2_ := Aside0.mk (IsS193.drew HI0.out)
 have n3_ := Aside0.mk (keep_drew HK.out)
 have n4_ := Aside0.mk (below_drew1 HB.out)
 clear BK253
 clear BK257
 clear HI0
 clear HK
 clear HB
 have BK253 := n0_
 have BK257 := n1_
 have HI0 := n2_
 have HK := n3_
 have HB := n4_
 clear n0_ n1_ n2_ n3_ n4_
 refine start_ (n := 7) (S := fun w' => w'.cell? ⟨gb257, 0, none⟩ = some (.int .i64 t254) ∧ w'.cell? ⟨gb257, 1, none⟩ = some (.int .i64 0) ∧ w'.cell? ⟨gb257, 2, none⟩ = some (.slice none 0 0)) (ds := [6]) #[false, false, false, false, false, false, false] (by kernel_rfl) rfl rfl ⟨(blk_cell BK257.out 0).trans rfl, (blk_cell BK257.out 1).trans rfl, (blk_cell BK257.out 2).trans rfl⟩ (fun hHeld => ?_)
 generalize w12.drew = w13 at BK253 BK257 HI0 HK HB hHeld ⊢
 refine pure_ (i := 0) (N := some 8) (v := ?_) (a' := ?_) #[true, false, false, false, false, false, false] rfl rfl (by kernel_rfl) (fun _ _ _ h => h) (Or.inl ⟨by rfl, ?_⟩) ?_ ?_
 rotate_left
 ·intro w'
  go_simp
  with_reducible rfl
 rotate_left
 ·simp only [Act.put, List.setIfInBounds_toArray, List.set_cons_zero, List.set_cons_succ, i64_w, i32_w]
  rfl
 refine pure_ (i := 2) (N := some 10) (v := ?_) (a' := ?_) #[true, false, true, false, false, false, false] rfl rfl (by kernel_rfl) (fun _ _ _ h => h) (Or.inl ⟨by rfl, ?_⟩) ?_ ?_
 rotate_left
 ·intro w'
  go_simp
  with_reducible rfl
 rotate_left
 ·simp only [Act.put, List.setIfInBounds_toArray, List.set_cons_zero, List.set_cons_succ, i64_w, i32_w]
  rfl
 refine take_ (i := 1) (N := some 9) (v := ?_) (a' := ?_) #[true, true, true, false, false, false, false] rfl rfl (by kernel_rfl) (fun _ _ _ h => h) (Or.inl ⟨by rfl, ?_⟩) hHeld ?_ ?_
 rotate_left
 ·rintro w' ⟨s0, s1, s2⟩
  go_simp
  with_reducible rfl
 rotate_left
 ·simp only [Act.put, List.setIfInBounds_toArray, List.set_cons_zero, List.set_cons_succ, i64_w, i32_w]
  rfl
 refine one_ (i := 3) (N := some 11) #[true, true, true, true, false, false, false] rfl rfl (by kernel_rfl) (by decide) (fun K hK => ?_)
 refine goes_ Try.func132 (by kernel_rfl) rfl #[.pointer (some ⟨g, 0, none⟩), .int .i64 6] (by rfl) rfl rfl (by (try simp only [List.map_toArray, List.map_cons, List.map_nil]); first | done | rfl | (simp only [List.length_drop, List.length_take]; rfl)) ?_
 with_reducible refine (spec_l00Src_pick.calls g s0_0 t255 t256 6 t258 t259 t260 w0 _ ?side1 ?side2 A3.out).mono ?_
 (case side1 => repeat (first | (with_reducible first | exact HI0.out | apply IsS193.alloc | apply IsS193.drewN | apply IsS193.drew | apply IsS193.set_1 | apply IsS193.set_2 | refine IsS193.far ?_ NB0_253.out _ | refine IsS193.far ?_ NB0_257.out _) | exact HI0.out))
 (case side2 => repeat (first | (with_reducible first | exact HB.out | apply below_alloc | apply pw_below_drewN | apply below_drew1 | refine below_set ?_ (IsS193.ge HI0.out) | refine below_set ?_ GE253.out | refine below_set ?_ GE257.out) | exact HB.out))
 rintro e w14 ⟨rfl, hi, hb, hk⟩
 refine ⟨_, rfl, ?_⟩
 have n0_ := Aside0.mk (KeepBut.blk hk (g' := gb253) (o := .cells #[.int .i64 0, .int .i64 0, .slice none 0 0] 30 (0, 0)) (sT BK253.out) NB253_0.out (by simp))
 have n1_ := Aside0.mk (KeepBut.blk hk (g' := gb257) (o := .cells #[.int .i64 t254, .int .i64 0, .slice none 0 0] 30 (0, 0)) (sT BK257.out) NB257_0.out (by simp))
 have n2_ := Aside0.mk (KeepBut.trans (by repeat (first | (with_reducible first | exact HK.out | apply KeepBut.set_ | apply keep_drewN | apply keep_drew | apply keep_alloc | refine keep_far ?_ GW253.out _ | refine keep_far ?_ GW257.out _) | exact HK.out)) hk (.inl rfl))
 have n3_ := Aside0.mk (hb)
 have n4_ := Aside0.mk (hi)
 clear BK253
 clear BK257
 clear HK
 clear HB
 clear HI0
 have BK253 := n0_
 have BK257 := n1_
 have HK := n2_
 have HB := n3_
 have HI0 := n4_
 clear n0_ n1_ n2_ n3_ n4_
 (try clear hb)
 (try clear hb2)
 (try clear hk)
 (try clear hi)
 refine hK.out _ _ ⟨(blk_cell BK257.out 0).trans rfl, (blk_cell BK257.out 1).trans rfl, (blk_cell BK257.out 2).trans rfl⟩ (fun hHeld => ?_)
 clear hK K
 refine norm_ (a' := ?_) ?_ ?_
 rotate_left
 ·show Act.put _ (some 11) _ = _
  simp only [Act.put, List.setIfInBounds_toArray, List.set_cons_zero, List.set_cons_succ, i64_w, i32_w]
  rfl
 refine pure_ (i := 4) (N := some 12) (v := ?_) (a' := ?_) #[true, true, true, true, true, false, false] rfl rfl (by kernel_rfl) (fun _ _ _ h => h) (Or.inl ⟨by rfl, ?_⟩) ?_ ?_
 rotate_left
 ·intro w'
  go_simp
  with_reducible rfl
 rotate_left
 ·simp only [Act.put, List.setIfInBounds_toArray, List.set_cons_zero, List.set_cons_succ, i64_w, i32_w]
  rfl
 refine pure_ (i := 5) (N := some 13) (v := ?_) (a' := ?_) #[true, true, true, true, true, true, false] rfl rfl (by kernel_rfl) (fun _ _ _ h => h) (Or.inl ⟨by rfl, ?_⟩) ?_ ?_
 rotate_left
 ·intro w'
  go_simp
  with_reducible rfl
 rotate_left
 ·simp only [Act.put, List.setIfInBounds_toArray, List.set_cons_zero, List.set_cons_succ, i64_w, i32_w]
  rfl
 refine last_ (i := 6) (N := none) #[true, true, true, true, true, true, true] rfl rfl (by kernel_rfl) (by decide) (fun K hK => ?_)
 have hs15 : w14.cell? ⟨gb257, 1, none⟩ = some (.int .i64 0) := (blk_cell BK257.out 1).trans rfl
 have hfs15 := blk_frozen BK257.out 1
 have hns15_0 := NB253_257.out
 have hms15_0 := NB257_253.out
 refine skip_ (w1 := ?_) (by rfl) rfl ?_ ?_
 rotate_left
 ·go_simp
  rfl
 refine hK.out _ _ ?_
 clear hK K
 refine done_ (by kernel_rfl) ?_
 go_upto_if 15 with (first | ((with_reducible refine gate_callee (f := 130) rfl ?_); refine sC (some 15) Try.func130 #[.pointer (some ⟨g, 0, none⟩), .int .i64 6] (spec_l00Src_one.calls g s0_0 t259 t260 6 t261 t262 t263 w0 _ ?side1 ?side2 A4.out) ?_; (case side1 => repeat (first | (with_reducible first | exact HI0.out | apply IsS193.alloc | apply IsS193.drewN | apply IsS193.drew | apply IsS193.set_1 | apply IsS193.set_2 | refine IsS193.far ?_ NB0_253.out _ | refine IsS193.far ?_ NB0_257.out _) | exact HI0.out)); (case side2 => repeat (first | (with_reducible first | exact HB.out | apply below_alloc | apply pw_below_drewN | apply below_drew1 | refine below_set ?_ (IsS193.ge HI0.out) | refine below_set ?_ GE253.out | refine below_set ?_ GE257.out) | exact HB.out)); rintro e w16 ⟨rfl, hi, hb, hk⟩; refine ⟨_, rfl, ?_⟩; have n0_ := Aside0.mk (KeepBut.blk hk (g' := gb253) (o := .cells #[.int .i64 0, .int .i64 0, .slice none 0 0] 30 (0, 0)) (by (with_reducible repeat (first | refine blk_drewN ?_ _ | refine blk_drew ?_ | refine blk_alloc ?_ _)); refine blk_far ?_ NB253_257.out _; exact sT BK253.out) NB253_0.out (by simp)); have n1_ := Aside0.mk (KeepBut.blk hk (g' := gb257) (o := .cells #[.int .i64 t254, .int .i64 (wrap64 (t254 + t258)), .slice none 0 0] 30 (0, 0)) (by (with_reducible repeat (first | refine blk_drewN ?_ _ | refine blk_drew ?_ | refine blk_alloc ?_ _)); refine blk_put (cs := #[.int .i64 t254, .int .i64 0, .slice none 0 0]) ?_ 1 _ rfl; exact sT BK257.out) NB257_0.out (by simp)); have n2_ := Aside0.mk (KeepBut.trans (by repeat (first | (with_reducible first | exact HK.out | apply KeepBut.set_ | apply keep_drewN | apply keep_drew | apply keep_alloc | refine keep_far ?_ GW253.out _ | refine keep_far ?_ GW257.out _) | exact HK.out)) hk (.inl rfl)); have n3_ := Aside0.mk (hb); have n4_ := Aside0.mk (hi); clear BK253; clear BK257; clear HK; clear HB; clear HI0; have BK253 := n0_; have BK257 := n1_; have HK := n2_; have HB := n3_; have HI0 := n4_; clear n0_ n1_ n2_ n3_ n4_; (try clear hb); (try clear hb2); (try clear hk); (try clear hi)))
 (try simp only [Act.put, List.setIfInBounds_toArray, List.set_cons_zero, List.set_cons_succ])
 go_cut [] (fun wc => ∃ (kq : Nat) (x1001_4 : Int) (x1002_4 : Int) (x258000_4 : Int), Aside0 (spec_l12Match.j0 kq s0_0 x1001_4 x1002_4 x258000_4 (wrap64 (t254 + t258)) = some (r1, r2, r3, r4, r5)) ∧ Aside0 (kq ≤ k) ∧ Aside0 (wc.heap[gb253]? = some (.cells #[.int .i64 0, .int .i64 0, (.slice none 0 0)] 30 (0, 0))) ∧ Aside0 (wc.heap[gb257]? = some (.cells #[.int .i64 x258000_4, .int .i64 (wrap64 (t254 + t258)), (.slice none 0 0)] 30 (0, 0))) ∧ Aside0 (IsS193 w0 wc g s0_0 x1001_4 x1002_4) ∧ Aside0 (KeepBut w wc g none) ∧ Aside0 (Below w0.heap.size w0 wc))
 case first =>
  have H := HC5.out
  clear HC5
  by_cases c17 : t261 = true
  ·subst c17
   rewrite [if_pos rfl] at H
   obtain ⟨y264, hy264⟩ : ∃ y_ : List Int, y_ = (([(-1), 3, 9, 300] : List Int)) := ⟨_, rfl⟩
   replace H : ((spec_l00Src_among.f s0_0 t262 t263 y264).bind fun bt267 => (spec_l12Match.j0 k s0_0 bt267.2.1 bt267.2.2 bt267.1 (wrap64 (t254 + t258)))) = some (r1, r2, r3, r4, r5) := by first | (rw [hy264]; with_reducible exact H) | (have H2_ := (Option.bind_some _ _).symm.trans H; rw [hy264]; with_reducible exact H2_) | (have H2_ := (Option.bind_some _ _).symm.trans H; with_reducible exact H2_) | with_reducible exact H | (rw [hy264]; exact H) | exact H
   have Ny264 := Aside0.mk hy264
   clear hy264
   replace H := Option.bind_eq_some_iff.mp H
   obtain ⟨⟨t267, t268, t269⟩, A180, H⟩ := H
   replace H : (spec_l12Match.j0 k s0_0 t268 t269 t267 (wrap64 (t254 + t258))) = some (r1, r2, r3, r4, r5) := H
   have A18 := Aside0.mk A180
   clear A180
   have H' := Aside0.mk H
   clear H
   go_wp2_with (first | ((with_reducible refine gate_dst (N := 17) rfl ?_); refine Kd.R_lit (Kd.int .i64) _ 2 ?hg (N := 17) ?hd (xs := ([(-1), 3, 9, 300] : List Int)) (inner := [.int .i64 (-1), .int .i64 3, .int .i64 9, .int .i64 300]) (ok := fun _ => True) (okp := fun _ => True) ?hr ?hp (fun _ hk => hk) trivial (Below.refl _ _) (Nat.le_refl _) (by simp) ?_; (case hd => rfl); (case hg => rfl); (case hr => first | (go_simp; done) | (go_simp; rfl)); (case hp => exact (Reps.one (show Kd.M (Kd.int .i64) _ _ _ (-1) [.int .i64 (-1)] from rfl) (Reps.one (show Kd.M (Kd.int .i64) _ _ _ 3 [.int .i64 3] from rfl) (Reps.one (show Kd.M (Kd.int .i64) _ _ _ 9 [.int .i64 9] from rfl) (Reps.one (show Kd.M (Kd.int .i64) _ _ _ 300 [.int .i64 300] from rfl) (Reps.none _ _)))))); intro v265 w19 ho20 hb hg_ hnew_; clear hg_ hnew_; (first | rw [← Ny264.out] at ho20 | (simp only [Int.reduceToNat] at ho20; rw [← Ny264.out] at ho20)); have n0_ := Aside0.mk (Kd.R_lower ho20 (keep_size (w := w) (g := g) (row := none) (by repeat (first | (with_reducible first | exact HK.out | apply KeepBut.set_ | apply keep_drewN | apply keep_drew | apply keep_alloc | refine keep_far ?_ GW253.out _ | refine keep_far ?_ GW257.out _) | exact HK.out)))); have n1_ := Aside0.mk (IsS193.below (by repeat (first | (with_reducible first | exact HI0.out | apply IsS193.alloc | apply IsS193.drewN | apply IsS193.drew | apply IsS193.set_1 | apply IsS193.set_2 | refine IsS193.far ?_ NB0_253.out _ | refine IsS193.far ?_ NB0_257.out _) | exact HI0.out)) hb); have n2_ := sK BK253 hb; have n3_ := sK BK257 hb; have n4_ := Aside0.mk (KeepBut.trans (by repeat (first | (with_reducible first | exact HK.out | apply KeepBut.set_ | apply keep_drewN | apply keep_drew | apply keep_alloc | refine keep_far ?_ GW253.out _ | refine keep_far ?_ GW257.out _) | exact HK.out)) (KeepBut.of_below hb g none) (.inl rfl)); have n5_ := Aside0.mk (below_step (by repeat (first | (with_reducible first | exact HB.out | apply below_alloc | apply pw_below_drewN | apply below_drew1 | refine below_set ?_ (IsS193.ge HI0.out) | refine below_set ?_ GE253.out | refine below_set ?_ GE257.out) | exact HB.out)) hb); clear HI0; clear BK253; clear BK257; clear HK; clear HB; have HO266 := n0_; have HI0 := n1_; have BK253 := n2_; have BK257 := n3_; have HK := n4_; have HB := n5_; clear n0_ n1_ n2_ n3_ n4_ n5_; clear hb ho20; obtain ⟨Ao21, co21, eo21⟩ := Kd.R_slice HO266.out; subst eo21) | ((with_reducible refine gate_callee (f := 134) rfl ?_); refine sC (some 18) Try.func134 #[.pointer (some ⟨g, 0, none⟩), .slice Ao21 y264.length co21] (spec_l00Src_among.calls g s0_0 t262 t263 _ _ y264 t267 t268 t269 w0 _ ?side1 ?side2 ?side3 ?side4 ?side5 A18.out) ?_; (case side1 => repeat (first | (with_reducible first | exact HI0.out | apply IsS193.alloc | apply IsS193.drewN | apply IsS193.drew | apply IsS193.set_1 | apply IsS193.set_2 | refine IsS193.far ?_ NB0_253.out _ | refine IsS193.far ?_ NB0_257.out _) | exact HI0.out)); (case side2 => repeat (first | (with_reducible first | exact HB.out | apply below_alloc | apply pw_below_drewN | apply below_drew1 | refine below_set ?_ (IsS193.ge HI0.out) | refine below_set ?_ GE253.out | refine below_set ?_ GE257.out) | exact HB.out)); (case side3 => exact sD ((Kd.R_reads' HO266.out).2.2)); (case side4 => exact (Kd.R_reads' HO266.out).2.1); (case side5 => exact far_slice (IsS193.own_ne HI0.out HO266.out (by decide))); rintro e w22 ⟨rfl, hi, hb, hk⟩; refine ⟨_, rfl, ?_⟩; have n0_ := Aside0.mk (KeepBut.blk hk (g' := gb253) (o := .cells #[.int .i64 0, .int .i64 0, .slice none 0 0] 30 (0, 0)) (sT BK253.out) NB253_0.out (by simp)); have n1_ := Aside0.mk (KeepBut.blk hk (g' := gb257) (o := .cells #[.int .i64 t254, .int .i64 (wrap64 (t254 + t258)), .slice none 0 0] 30 (0, 0)) (sT BK257.out) NB257_0.out (by simp)); have n2_ := Aside0.mk (Kd.R_mono (Kd.R_keep (IsS193.apart (show IsS193 w0 _ g s0_0 t262 t263 from by repeat (first | (with_reducible first | exact HI0.out | apply IsS193.alloc | apply IsS193.drewN | apply IsS193.drew | apply IsS193.set_1 | apply IsS193.set_2 | refine IsS193.far ?_ NB0_253.out _ | refine IsS193.far ?_ NB0_257.out _) | exact HI0.out)) (sE HO266.out) (by decide)) hk (fun _ h => h.2)) (fun _ h => h.1)); have n3_ := Aside0.mk (KeepBut.trans (by repeat (first | (with_reducible first | exact HK.out | apply KeepBut.set_ | apply keep_drewN | apply keep_drew | apply keep_alloc | refine keep_far ?_ GW253.out _ | refine keep_far ?_ GW257.out _) | exact HK.out)) hk (.inl rfl)); have n4_ := Aside0.mk (hb); have n5_ := Aside0.mk (hi); clear BK253; clear BK257; clear HO266; clear HK; clear HB; clear HI0; have BK253 := n0_; have BK257 := n1_; have HO266 := n2_; have HK := n3_; have HB := n4_; have HI0 := n5_; clear n0_ n1_ n2_ n3_ n4_ n5_; (try clear hb); (try clear hb2); (try clear hk); (try clear hi); have hnb23 := NB257_253.out; have hnc23 := NB253_257.out; have hnb24 := NB257_0.out; have hnc24 := NB0_257.out; obtain ⟨hcz25_0, hcz25_1, hcz25_2, hfz25_0, hfz25_1, hfz25_2⟩ := cells3 BK257.out))
   go_meet
   case rel => exact ⟨_, (t268), (t269), (t267), H', ⟨by first | omega | exact Nat.le_refl _⟩, ⟨by (with_reducible repeat (first | refine blk_drewN ?_ _ | refine blk_drew ?_ | refine blk_alloc ?_ _)); refine blk_far ?_ NB253_257.out _; exact sT BK253.out⟩, ⟨by (with_reducible repeat (first | refine blk_drewN ?_ _ | refine blk_drew ?_ | refine blk_alloc ?_ _)); refine blk_put (cs := #[.int .i64 t254, .int .i64 (wrap64 (t254 + t258)), .slice none 0 0]) ?_ 0 _ rfl; exact sT BK257.out⟩, ⟨by repeat (first | (with_reducible first | exact HI0.out | apply IsS193.alloc | apply IsS193.drewN | apply IsS193.drew | apply IsS193.set_1 | apply IsS193.set_2 | refine IsS193.far ?_ NB0_253.out _ | refine IsS193.far ?_ NB0_257.out _) | exact HI0.out)⟩, ⟨by repeat (first | (with_reducible first | exact HK.out | apply KeepBut.set_ | apply keep_drewN | apply keep_drew | apply keep_alloc | refine keep_far ?_ GW253.out _ | refine keep_far ?_ GW257.out _) | exact HK.out)⟩, ⟨by repeat (first | (with_reducible first | exact HB.out | apply below_alloc | apply pw_below_drewN | apply below_drew1 | refine below_set ?_ (IsS193.ge HI0.out) | refine below_set ?_ GE253.out | refine below_set ?_ GE257.out) | exact HB.out)⟩⟩
  replace c17 := Bool.eq_false_iff.mpr c17
  subst c17
  rewrite [if_neg (show ¬ (false = true) by decide)] at H
  have H' := Aside0.mk H
  clear H
  go_wp2
  go_meet
  case rel => exact ⟨_, (t262), (t263), (t254), H', ⟨by first | omega | exact Nat.le_refl _⟩, ⟨by exact sT BK253.out⟩, ⟨by exact sT BK257.out⟩, ⟨by repeat (first | (with_reducible first | exact HI0.out | apply IsS193.alloc | apply IsS193.drewN | apply IsS193.drew | apply IsS193.set_1 | apply IsS193.set_2 | refine IsS193.far ?_ NB0_253.out _ | refine IsS193.far ?_ NB0_257.out _) | exact HI0.out)⟩, ⟨by repeat (first | (with_reducible first | exact HK.out | apply KeepBut.set_ | apply keep_drewN | apply keep_drew | apply keep_alloc | refine keep_far ?_ GW253.out _ | refine keep_far ?_ GW257.out _) | exact HK.out)⟩, ⟨by repeat (first | (with_reducible first | exact HB.out | apply below_alloc | apply pw_below_drewN | apply below_drew1 | refine below_set ?_ (IsS193.ge HI0.out) | refine below_set ?_ GE253.out | refine below_set ?_ GE257.out) | exact HB.out)⟩⟩
 case rest =>
  clear HC5
  try clear c1
  try clear c2
  try clear p2
  try clear c6
  try clear p6
  try clear c9
  try clear c10
  try clear c13
  try clear c17
  try clear c23
  try clear c24
  try clear hcz11_0
  try clear hcz11_1
  try clear hcz11_2
  try clear hcz25_0
  try clear hcz25_1
  try clear hcz25_2
  try clear hfz11_0
  try clear hfz11_1
  try clear hfz11_2
  try clear hfz25_0
  try clear hfz25_1
  try clear hfz25_2
  obtain ⟨kq, x1001_4, x1002_4, x258000_4, HA, HJ4, BK253, BK257, HI0, HK, HB⟩ := hcut
  cases kq with
  | zero => exact absurd HA.out (by simp [spec_l12Match.j0])
  | succ kj4 =>
   have H := HA.out
   clear HA
   simp only [spec_l12Match.j0] at H
   replace H := Option.bind_eq_some_iff.mp H
   obtain ⟨⟨t270, t271, t272⟩, A260, H⟩ := H
   replace H : (if t270 = true then ((spec_l00Src_among.f s0_0 t271 t272 (([(-1), 0, 9, 1099511627776] : List Int))).bind fun bt276 => (spec_l12Match.j1 kj4 s0_0 bt276.2.1 bt276.2.2 x258000_4 bt276.1)) else (spec_l12Match.j1 kj4 s0_0 t271 t272 x258000_4 (wrap64 (t254 + t258)))) = some (r1, r2, r3, r4, r5) := H
   have A26 := Aside0.mk A260
   clear A260
   have HC27 := Aside0.mk H
   clear H
   go_upto_if 21 with (first | ((with_reducible refine gate_callee (f := 130) rfl ?_); refine sC (some 21) Try.func130 #[.pointer (some ⟨g, 0, none⟩), .int .i64 6] (spec_l00Src_one.calls g s0_0 x1001_4 x1002_4 6 t270 t271 t272 w0 _ ?side1 ?side2 A26.out) ?_; (case side1 => repeat (first | (with_reducible first | exact HI0.out | apply IsS193.alloc | apply IsS193.drewN | apply IsS193.drew | apply IsS193.set_1 | apply IsS193.set_2 | refine IsS193.far ?_ NB0_253.out _ | refine IsS193.far ?_ NB0_257.out _) | exact HI0.out)); (case side2 => repeat (first | (with_reducible first | exact HB.out | apply below_alloc | apply pw_below_drewN | apply below_drew1 | refine below_set ?_ (IsS193.ge HI0.out) | refine below_set ?_ GE253.out | refine below_set ?_ GE257.out) | exact HB.out)); rintro e w28 ⟨rfl, hi, hb, hk⟩; refine ⟨_, rfl, ?_⟩; have n0_ := Aside0.mk (KeepBut.blk hk (g' := gb253) (o := .cells #[.int .i64 0, .int .i64 0, .slice none 0 0] 30 (0, 0)) (sT BK253.out) NB253_0.out (by simp)); have n1_ := Aside0.mk (KeepBut.blk hk (g' := gb257) (o := .cells #[.int .i64 x258000_4, .int .i64 (wrap64 (t254 + t258)), .slice none 0 0] 30 (0, 0)) (sT BK257.out) NB257_0.out (by simp)); have n2_ := Aside0.mk (KeepBut.trans (by repeat (first | (with_reducible first | exact HK.out | apply KeepBut.set_ | apply keep_drewN | apply keep_drew | apply keep_alloc | refine keep_far ?_ GW253.out _ | refine keep_far ?_ GW257.out _) | exact HK.out)) hk (.inl rfl)); have n3_ := Aside0.mk (hb); have n4_ := Aside0.mk (hi); clear BK253; clear BK257; clear HK; clear HB; clear HI0; have BK253 := n0_; have BK257 := n1_; have HK := n2_; have HB := n3_; have HI0 := n4_; clear n0_ n1_ n2_ n3_ n4_; (try clear hb); (try clear hb2); (try clear hk); (try clear hi)))
   (try simp only [Act.put, List.setIfInBounds_toArray, List.set_cons_zero, List.set_cons_succ])
   go_cut [] (fun wc => ∃ (kq : Nat) (x1001_26 : Int) (x1002_26 : Int) (x258001_26 : Int), Aside0 (spec_l12Match.j1 kq s0_0 x1001_26 x1002_26 x258000_4 x258001_26 = some (r1, r2, r3, r4, r5)) ∧ Aside0 (kq ≤ kj4) ∧ Aside0 (wc.heap[gb253]? = some (.cells #[.int .i64 0, .int .i64 0, (.slice none 0 0)] 30 (0, 0))) ∧ Aside0 (wc.heap[gb257]? = some (.cells #[.int .i64 x258000_4, .int .i64 x258001_26, (.slice none 0 0)] 30 (0, 0))) ∧ Aside0 (IsS193 w0 wc g s0_0 x1001_26 x1002_26) ∧ Aside0 (KeepBut w wc g none) ∧ Aside0 (Below w0.heap.size w0 wc))
   case first =>
    have H := HC27.out
    clear HC27
    by_cases c29 : t270 = true
    ·subst c29
     rewrite [if_pos rfl] at H
     obtain ⟨y273, hy273⟩ : ∃ y_ : List Int, y_ = (([(-1), 0, 9, 1099511627776] : List Int)) := ⟨_, rfl⟩
     replace H : ((spec_l00Src_among.f s0_0 t271 t272 y273).bind fun bt276 => (spec_l12Match.j1 kj4 s0_0 bt276.2.1 bt276.2.2 x258000_4 bt276.1)) = some (r1, r2, r3, r4, r5) := by first | (rw [hy273]; with_reducible exact H) | (have H2_ := (Option.bind_some _ _).symm.trans H; rw [hy273]; with_reducible exact H2_) | (have H2_ := (Option.bind_some _ _).symm.trans H; with_reducible exact H2_) | with_reducible exact H | (rw [hy273]; exact H) | exact H
     have Ny273 := Aside0.mk hy273
     clear hy273
     replace H := Option.bind_eq_some_iff.mp H
     obtain ⟨⟨t276, t277, t278⟩, A300, H⟩ := H
     replace H : (spec_l12Match.j1 kj4 s0_0 t277 t278 x258000_4 t276) = some (r1, r2, r3, r4, r5) := H
     have A30 := Aside0.mk A300
     clear A300
     have H' := Aside0.mk H
     clear H
     go_wp2_with (first | ((with_reducible refine gate_dst (N := 23) rfl ?_); refine Kd.R_lit (Kd.int .i64) _ 2 ?hg (N := 23) ?hd (xs := ([(-1), 0, 9, 1099511627776] : List Int)) (inner := [.int .i64 (-1), .int .i64 0, .int .i64 9, .int .i64 1099511627776]) (ok := fun _ => True) (okp := fun _ => True) ?hr ?hp (fun _ hk => hk) trivial (Below.refl _ _) (Nat.le_refl _) (by simp) ?_; (case hd => rfl); (case hg => rfl); (case hr => first | (go_simp; done) | (go_simp; rfl)); (case hp => exact (Reps.one (show Kd.M (Kd.int .i64) _ _ _ (-1) [.int .i64 (-1)] from rfl) (Reps.one (show Kd.M (Kd.int .i64) _ _ _ 0 [.int .i64 0] from rfl) (Reps.one (show Kd.M (Kd.int .i64) _ _ _ 9 [.int .i64 9] from rfl) (Reps.one (show Kd.M (Kd.int .i64) _ _ _ 1099511627776 [.int .i64 1099511627776] from rfl) (Reps.none _ _)))))); intro v274 w31 ho32 hb hg_ hnew_; clear hg_ hnew_; (first | rw [← Ny273.out] at ho32 | (simp only [Int.reduceToNat] at ho32; rw [← Ny273.out] at ho32)); have n0_ := Aside0.mk (Kd.R_lower ho32 (keep_size (w := w) (g := g) (row := none) (by repeat (first | (with_reducible first | exact HK.out | apply KeepBut.set_ | apply keep_drewN | apply keep_drew | apply keep_alloc | refine keep_far ?_ GW253.out _ | refine keep_far ?_ GW257.out _) | exact HK.out)))); have n1_ := sK BK253 hb; have n2_ := sK BK257 hb; have n3_ := Aside0.mk (IsS193.below (by repeat (first | (with_reducible first | exact HI0.out | apply IsS193.alloc | apply IsS193.drewN | apply IsS193.drew | apply IsS193.set_1 | apply IsS193.set_2 | refine IsS193.far ?_ NB0_253.out _ | refine IsS193.far ?_ NB0_257.out _) | exact HI0.out)) hb); have n4_ := Aside0.mk (KeepBut.trans (by repeat (first | (with_reducible first | exact HK.out | apply KeepBut.set_ | apply keep_drewN | apply keep_drew | apply keep_alloc | refine keep_far ?_ GW253.out _ | refine keep_far ?_ GW257.out _) | exact HK.out)) (KeepBut.of_below hb g none) (.inl rfl)); have n5_ := Aside0.mk (below_step (by repeat (first | (with_reducible first | exact HB.out | apply below_alloc | apply pw_below_drewN | apply below_drew1 | refine below_set ?_ (IsS193.ge HI0.out) | refine below_set ?_ GE253.out | refine below_set ?_ GE257.out) | exact HB.out)) hb); clear BK253; clear BK257; clear HI0; clear HK; clear HB; have HO275 := n0_; have BK253 := n1_; have BK257 := n2_; have HI0 := n3_; have HK := n4_; have HB := n5_; clear n0_ n1_ n2_ n3_ n4_ n5_; clear hb ho32; obtain ⟨Ao33, co33, eo33⟩ := Kd.R_slice HO275.out; subst eo33) | ((with_reducible refine gate_callee (f := 134) rfl ?_); refine sC (some 24) Try.func134 #[.pointer (some ⟨g, 0, none⟩), .slice Ao33 y273.length co33] (spec_l00Src_among.calls g s0_0 t271 t272 _ _ y273 t276 t277 t278 w0 _ ?side1 ?side2 ?side3 ?side4 ?side5 A30.out) ?_; (case side1 => repeat (first | (with_reducible first | exact HI0.out | apply IsS193.alloc | apply IsS193.drewN | apply IsS193.drew | apply IsS193.set_1 | apply IsS193.set_2 | refine IsS193.far ?_ NB0_253.out _ | refine IsS193.far ?_ NB0_257.out _) | exact HI0.out)); (case side2 => repeat (first | (with_reducible first | exact HB.out | apply below_alloc | apply pw_below_drewN | apply below_drew1 | refine below_set ?_ (IsS193.ge HI0.out) | refine below_set ?_ GE253.out | refine below_set ?_ GE257.out) | exact HB.out)); (case side3 => exact sD ((Kd.R_reads' HO275.out).2.2)); (case side4 => exact (Kd.R_reads' HO275.out).2.1); (case side5 => exact far_slice (IsS193.own_ne HI0.out HO275.out (by decide))); rintro e w34 ⟨rfl, hi, hb, hk⟩; refine ⟨_, rfl, ?_⟩; have n0_ := Aside0.mk (KeepBut.blk hk (g' := gb253) (o := .cells #[.int .i64 0, .int .i64 0, .slice none 0 0] 30 (0, 0)) (sT BK253.out) NB253_0.out (by simp)); have n1_ := Aside0.mk (KeepBut.blk hk (g' := gb257) (o := .cells #[.int .i64 x258000_4, .int .i64 (wrap64 (t254 + t258)), .slice none 0 0] 30 (0, 0)) (sT BK257.out) NB257_0.out (by simp)); have n2_ := Aside0.mk (Kd.R_mono (Kd.R_keep (IsS193.apart (show IsS193 w0 _ g s0_0 t271 t272 from by repeat (first | (with_reducible first | exact HI0.out | apply IsS193.alloc | apply IsS193.drewN | apply IsS193.drew | apply IsS193.set_1 | apply IsS193.set_2 | refine IsS193.far ?_ NB0_253.out _ | refine IsS193.far ?_ NB0_257.out _) | exact HI0.out)) (sE HO275.out) (by decide)) hk (fun _ h => h.2)) (fun _ h => h.1)); have n3_ := Aside0.mk (KeepBut.trans (by repeat (first | (with_reducible first | exact HK.out | apply KeepBut.set_ | apply keep_drewN | apply keep_drew | apply keep_alloc | refine keep_far ?_ GW253.out _ | refine keep_far ?_ GW257.out _) | exact HK.out)) hk (.inl rfl)); have n4_ := Aside0.mk (hb); have n5_ := Aside0.mk (hi); clear BK253; clear BK257; clear HO275; clear HK; clear HB; clear HI0; have BK253 := n0_; have BK257 := n1_; have HO275 := n2_; have HK := n3_; have HB := n4_; have HI0 := n5_; clear n0_ n1_ n2_ n3_ n4_ n5_; (try clear hb); (try clear hb2); (try clear hk); (try clear hi); have hnb35 := NB257_253.out; have hnc35 := NB253_257.out; have hnb36 := NB257_0.out; have hnc36 := NB0_257.out; obtain ⟨hcz37_0, hcz37_1, hcz37_2, hfz37_0, hfz37_1, hfz37_2⟩ := cells3 BK257.out))
     go_meet
     case rel => exact ⟨_, (t277), (t278), (t276), H', ⟨by have := HJ4.out; first | omega | exact Nat.le_refl _⟩, ⟨by (with_reducible repeat (first | refine blk_drewN ?_ _ | refine blk_drew ?_ | refine blk_alloc ?_ _)); refine blk_far ?_ NB253_257.out _; exact sT BK253.out⟩, ⟨by (with_reducible repeat (first | refine blk_drewN ?_ _ | refine blk_drew ?_ | refine blk_alloc ?_ _)); refine blk_put (cs := #[.int .i64 x258000_4, .int .i64 (wrap64 (t254 + t258)), .slice none 0 0]) ?_ 1 _ rfl; exact sT BK257.out⟩, ⟨by repeat (first | (with_reducible first | exact HI0.out | apply IsS193.alloc | apply IsS193.drewN | apply IsS193.drew | apply IsS193.set_1 | apply IsS193.set_2 | refine IsS193.far ?_ NB0_253.out _ | refine IsS193.far ?_ NB0_257.out _) | exact HI0.out)⟩, ⟨by repeat (first | (with_reducible first | exact HK.out | apply KeepBut.set_ | apply keep_drewN | apply keep_drew | apply keep_alloc | refine keep_far ?_ GW253.out _ | refine keep_far ?_ GW257.out _) | exact HK.out)⟩, ⟨by repeat (first | (with_reducible first | exact HB.out | apply below_alloc | apply pw_below_drewN | apply below_drew1 | refine below_set ?_ (IsS193.ge HI0.out) | refine below_set ?_ GE253.out | refine below_set ?_ GE257.out) | exact HB.out)⟩⟩
    replace c29 := Bool.eq_false_iff.mpr c29
    subst c29
    rewrite [if_neg (show ¬ (false = true) by decide)] at H
    have H' := Aside0.mk H
    clear H
    go_wp2
    go_meet
    case rel => exact ⟨_, (t271), (t272), ((wrap64 (t254 + t258))), H', ⟨by have := HJ4.out; first | omega | exact Nat.le_refl _⟩, ⟨by exact sT BK253.out⟩, ⟨by exact sT BK257.out⟩, ⟨by repeat (first | (with_reducible first | exact HI0.out | apply IsS193.alloc | apply IsS193.drewN | apply IsS193.drew | apply IsS193.set_1 | apply IsS193.set_2 | refine IsS193.far ?_ NB0_253.out _ | refine IsS193.far ?_ NB0_257.out _) | exact HI0.out)⟩, ⟨by repeat (first | (with_reducible first | exact HK.out | apply KeepBut.set_ | apply keep_drewN | apply keep_drew | apply keep_alloc | refine keep_far ?_ GW253.out _ | refine keep_far ?_ GW257.out _) | exact HK.out)⟩, ⟨by repeat (first | (with_reducible first | exact HB.out | apply below_alloc | apply pw_below_drewN | apply below_drew1 | refine below_set ?_ (IsS193.ge HI0.out) | refine below_set ?_ GE253.out | refine below_set ?_ GE257.out) | exact HB.out)⟩⟩
   case rest =>
    clear HC27
    try clear c1
    try clear c2
    try clear p2
    try clear c3
    try clear c6
    try clear p6
    try clear c9
    try clear c10
    try clear c13
    try clear c17
    try clear c23
    try clear c24
    try clear c29
    try clear c35
    try clear c36
    try clear hcz11_0
    try clear hcz11_1
    try clear hcz11_2
    try clear hcz25_0
    try clear hcz25_1
    try clear hcz25_2
    try clear hcz37_0
    try clear hcz37_1
    try clear hcz37_2
    try clear hfz11_0
    try clear hfz11_1
    try clear hfz11_2
    try clear hfz25_0
    try clear hfz25_1
    try clear hfz25_2
    try clear hfz37_0
    try clear hfz37_1
    try clear hfz37_2
    try clear p2
    try clear p6
    obtain ⟨kq, x1001_26, x1002_26, x258001_26, HA, HJ26, BK253, BK257, HI0, HK, HB⟩ := hcut
    cases kq with
    | zero => exact absurd HA.out (by simp [spec_l12Match.j1])
    | succ kj26 =>
     have H := HA.out
     clear HA
     simp only [spec_l12Match.j1] at H
     replace H := Option.bind_eq_some_iff.mp H
     obtain ⟨⟨t279, t280, t281⟩, A380, H⟩ := H
     replace H : (spec_l12Match.l0 kj26 t279 s0_0 t280 t281 x258000_4 x258001_26 ([] : List (S35))) = some (r1, r2, r3, r4, r5) := H
     have A38 := Aside0.mk A380
     clear A380
     have H' := Aside0.mk H
     clear H
     go_wp2_with (first | ((with_reducible refine gate_callee (f := 132) rfl ?_); refine sC (some 27) Try.func132 #[.pointer (some ⟨g, 0, none⟩), .int .i64 5] (spec_l00Src_pick.calls g s0_0 x1001_26 x1002_26 5 t279 t280 t281 w0 _ ?side1 ?side2 A38.out) ?_; (case side1 => repeat (first | (with_reducible first | exact HI0.out | apply IsS193.alloc | apply IsS193.drewN | apply IsS193.drew | apply IsS193.set_1 | apply IsS193.set_2 | refine IsS193.far ?_ NB0_253.out _ | refine IsS193.far ?_ NB0_257.out _) | exact HI0.out)); (case side2 => repeat (first | (with_reducible first | exact HB.out | apply below_alloc | apply pw_below_drewN | apply below_drew1 | refine below_set ?_ (IsS193.ge HI0.out) | refine below_set ?_ GE253.out | refine below_set ?_ GE257.out) | exact HB.out)); rintro e w39 ⟨rfl, hi, hb, hk⟩; refine ⟨_, rfl, ?_⟩; have n0_ := Aside0.mk (KeepBut.blk hk (g' := gb253) (o := .cells #[.int .i64 0, .int .i64 0, .slice none 0 0] 30 (0, 0)) (sT BK253.out) NB253_0.out (by simp)); have n1_ := Aside0.mk (KeepBut.blk hk (g' := gb257) (o := .cells #[.int .i64 x258000_4, .int .i64 x258001_26, .slice none 0 0] 30 (0, 0)) (sT BK257.out) NB257_0.out (by simp)); have n2_ := Aside0.mk (KeepBut.trans (by repeat (first | (with_reducible first | exact HK.out | apply KeepBut.set_ | apply keep_drewN | apply keep_drew | apply keep_alloc | refine keep_far ?_ GW253.out _ | refine keep_far ?_ GW257.out _) | exact HK.out)) hk (.inl rfl)); have n3_ := Aside0.mk (hb); have n4_ := Aside0.mk (hi); clear BK253; clear BK257; clear HK; clear HB; clear HI0; have BK253 := n0_; have BK257 := n1_; have HK := n2_; have HB := n3_; have HI0 := n4_; clear n0_ n1_ n2_ n3_ n4_; (try clear hb); (try clear hb2); (try clear hk); (try clear hi)))
     go_loopg [4] kj26 (fun kq v4 w' => ∃ (x4_3 : Int) (x1001_3 : Int) (x1002_3 : Int) (x258002_3 : List (S35)) (u258002 : Value), v4 = .int .i64 x4_3 ∧ Aside0 (spec_l12Match.l0 kq x4_3 s0_0 x1001_3 x1002_3 x258000_4 x258001_26 x258002_3 = some (r1, r2, r3, r4, r5)) ∧ Aside0 (kq ≤ kj26) ∧ Aside0 (Kd.R k35 35 w' w.heap.size (fun _ => True) u258002 x258002_3) ∧ Aside0 (w'.heap[gb253]? = some (.cells #[.int .i64 0, .int .i64 0, (.slice none 0 0)] 30 (0, 0))) ∧ Aside0 (w'.heap[gb257]? = some (.cells #[.int .i64 x258000_4, .int .i64 x258001_26, u258002] 30 (0, 0))) ∧ Aside0 (IsS193 w0 w' g s0_0 x1001_3 x1002_3) ∧ Aside0 (KeepBut w w' g none) ∧ Aside0 (Below w0.heap.size w0 w'))
     case atStart => exact ⟨(t279), (t280), (t281), (([] : List (S35))), (.slice none 0 0), sr, H', ⟨Nat.le_refl _⟩, ⟨by first | exact Kd.R_nil _ _ _ _ _ | exact Kd.N_nil _ _ _ _ _ | exact Kd.V_nil _ _ _ _ _ | exact Kd.Q_nil _ _ _ _ _ | exact Kd.S_nil _ _ _ _ _⟩, ⟨by exact sT BK253.out⟩, ⟨by exact sT BK257.out⟩, ⟨by repeat (first | (with_reducible first | exact HI0.out | apply IsS193.alloc | apply IsS193.drewN | apply IsS193.drew | apply IsS193.set_1 | apply IsS193.set_2 | refine IsS193.far ?_ NB0_253.out _ | refine IsS193.far ?_ NB0_257.out _) | exact HI0.out)⟩, ⟨by repeat (first | (with_reducible first | exact HK.out | apply KeepBut.set_ | apply keep_drewN | apply keep_drew | apply keep_alloc | refine keep_far ?_ GW253.out _ | refine keep_far ?_ GW257.out _) | exact HK.out)⟩, ⟨by repeat (first | (with_reducible first | exact HB.out | apply below_alloc | apply pw_below_drewN | apply below_drew1 | refine below_set ?_ (IsS193.ge HI0.out) | refine below_set ?_ GE253.out | refine below_set ?_ GE257.out) | exact HB.out)⟩⟩
     case round =>
      clear H'
      try clear c1
      try clear c2
      try clear p2
      try clear c3
      try clear c6
      try clear p6
      try clear c9
      try clear c10
      try clear c13
      try clear c17
      try clear c23
      try clear c24
      try clear c29
      try clear c35
      try clear c36
      try clear hcz11_0
      try clear hcz11_1
      try clear hcz11_2
      try clear hcz25_0
      try clear hcz25_1
      try clear hcz25_2
      try clear hcz37_0
      try clear hcz37_1
      try clear hcz37_2
      try clear hfz11_0
      try clear hfz11_1
      try clear hfz11_2
      try clear hfz25_0
      try clear hfz25_1
      try clear hfz25_2
      try clear hfz37_0
      try clear hfz37_1
      try clear hfz37_2
      try clear p2
      try clear p6
      obtain ⟨x4_3, x1001_3, x1002_3, x258002_3, u258002, rfl, HA, HK3, HO_258002, BK253, BK257, HI0, HK, HB⟩ := hrel
      cases gk with
      | zero => exact absurd HA.out (by simp [spec_l12Match.l0])
      | succ k3 =>
       have H := HA.out
       clear HA
       simp only [spec_l12Match.l0] at H
       by_cases c40 : x4_3 > 0
       ·rw [if_pos c40] at H
        have c40b0 : decide (0 < x4_3) = true := decide_eq_true c40
        clear c40
        replace H := Option.bind_eq_some_iff.mp H
        obtain ⟨⟨t282, t283, t284, t285, t286, t287⟩, A410, H⟩ := H
        replace H : (if x258002_3.length < 2932031007402 then (spec_l12Match.l0 k3 (wrap64 (x4_3 - 1)) s0_0 t286 t287 x258000_4 x258001_26 (x258002_3 ++ [(⟨t282, t283, t284, t285⟩ : S35)])) else (none)) = some (r1, r2, r3, r4, r5) := H
        have A41 := Aside0.mk A410
        clear A410
        by_cases c42 : x258002_3.length < 2932031007402
        ·rw [if_pos c42] at H
         have LMc42 := Aside0.mk c42
         clear c42
         obtain ⟨y288, hy288⟩ : ∃ y_ : List (S35), y_ = (x258002_3 ++ [(⟨t282, t283, t284, t285⟩ : S35)]) := ⟨_, rfl⟩
         replace H : (spec_l12Match.l0 k3 (wrap64 (x4_3 - 1)) s0_0 t286 t287 x258000_4 x258001_26 y288) = some (r1, r2, r3, r4, r5) := by first | (rw [hy288]; with_reducible exact H) | (have H2_ := (Option.bind_some _ _).symm.trans H; rw [hy288]; with_reducible exact H2_) | (have H2_ := (Option.bind_some _ _).symm.trans H; with_reducible exact H2_) | with_reducible exact H | (rw [hy288]; exact H) | exact H
         have Ny288 := Aside0.mk hy288
         clear hy288
         have H' := Aside0.mk H
         clear H
         try go_wp2
         have n0_ := Aside0.mk (Kd.R_drew HO_258002.out)
         have n1_ := Aside0.mk (blk_drew BK253.out)
         have n2_ := Aside0.mk (blk_drew BK257.out)
         have n3_ := Aside0.mk (IsS193.drew HI0.out)
         have n4_ := Aside0.mk (keep_drew HK.out)
         have n5_ := Aside0.mk (below_drew1 HB.out)
         clear HO_258002
         clear BK253
         clear BK257
         clear HI0
         clear HK
         clear HB
         have HO_258002 := n0_
         have BK253 := n1_
         have BK257 := n2_
         have HI0 := n3_
         have HK := n4_
         have HB := n5_
         clear n0_ n1_ n2_ n3_ n4_ n5_
         refine start_ (n := 8) (S := fun w' => w'.cell? ⟨gb257, 0, none⟩ = some (.int .i64 x258000_4) ∧ w'.cell? ⟨gb257, 1, none⟩ = some (.int .i64 x258001_26) ∧ w'.cell? ⟨gb257, 2, none⟩ = some (u258002)) (ds := [7]) #[false, false, false, false, false, false, false, false] (by kernel_rfl) rfl rfl ⟨(blk_cell BK257.out 0).trans rfl, (blk_cell BK257.out 1).trans rfl, (blk_cell BK257.out 2).trans rfl⟩ (fun hHeld => ?_); refine with_tabW spec_l12Match.tab10 spec_l12Match.bits10 (fun HT_ HW_ => ?_)
         generalize wr.drew = w43 at HO_258002 BK253 BK257 HI0 HK HB hHeld ⊢
         refine pure_ (i := 0) (N := some 32) (v := ?_) (a' := ?_) (bN 8 1) rfl rfl (any_of HT_.out (by kernel_rfl)) (fun _ _ _ h => h) (Or.inl ⟨by rfl, ?_⟩) ?_ ?_
         rotate_left
         ·intro w'
          go_simp
          with_reducible rfl
         rotate_left
         ·simp only [Act.put, List.setIfInBounds_toArray, List.set_cons_zero, List.set_cons_succ, i64_w, i32_w]
          rfl
         refine pure_ (i := 2) (N := some 34) (v := ?_) (a' := ?_) (bN 8 5) rfl rfl (any_of HT_.out (by kernel_rfl)) (fun _ _ _ h => h) (Or.inl ⟨by rfl, ?_⟩) ?_ ?_
         rotate_left
         ·intro w'
          go_simp
          with_reducible rfl
         rotate_left
         ·simp only [Act.put, List.setIfInBounds_toArray, List.set_cons_zero, List.set_cons_succ, i64_w, i32_w]
          rfl
         refine take_ (i := 1) (N := some 33) (v := ?_) (a' := ?_) (bN 8 7) rfl rfl (take_ofW HT_.out HW_.out (by kernel_rfl)) (fun _ _ _ h => h) (Or.inl ⟨by rfl, ?_⟩) hHeld ?_ ?_
         rotate_left
         ·rintro w' ⟨s0, s1, s2⟩
          go_simp
          with_reducible rfl
         rotate_left
         ·simp only [Act.put, List.setIfInBounds_toArray, List.set_cons_zero, List.set_cons_succ, i64_w, i32_w]
          rfl
         refine one_ (i := 3) (N := some 35) (bN 8 15) rfl rfl (one_of HT_.out (by kernel_rfl)) (by decide) (fun K hK => ?_)
         refine goes_ Try.func135 (by kernel_rfl) rfl #[.pointer (some ⟨g, 0, none⟩)] (by rfl) rfl rfl (by (try simp only [List.map_toArray, List.map_cons, List.map_nil]); first | done | rfl | (simp only [List.length_drop, List.length_take]; rfl)) ?_
         with_reducible refine (spec_l12Capture.calls k3 g s0_0 x1001_3 x1002_3 t282 t283 t284 t285 t286 t287 w0 _ ?side1 ?side2 A41.out).mono ?_
         (case side1 => repeat (first | (with_reducible first | exact HI0.out | apply IsS193.alloc | apply IsS193.drewN | apply IsS193.drew | apply IsS193.set_1 | apply IsS193.set_2 | refine IsS193.far ?_ NB0_253.out _ | refine IsS193.far ?_ NB0_257.out _) | exact HI0.out))
         (case side2 => repeat (first | (with_reducible first | exact HB.out | apply below_alloc | apply pw_below_drewN | apply below_drew1 | refine below_set ?_ (IsS193.ge HI0.out) | refine below_set ?_ GE253.out | refine below_set ?_ GE257.out) | exact HB.out))
         rintro e w44 ⟨rfl, hi, hb, hk⟩
         refine ⟨_, rfl, ?_⟩
         have n0_ := Aside0.mk (Kd.R_mono (Kd.R_keep (IsS193.apart (show IsS193 w0 _ g s0_0 x1001_3 x1002_3 from by repeat (first | (with_reducible first | exact HI0.out | apply IsS193.alloc | apply IsS193.drewN | apply IsS193.drew | apply IsS193.set_1 | apply IsS193.set_2 | refine IsS193.far ?_ NB0_253.out _ | refine IsS193.far ?_ NB0_257.out _) | exact HI0.out)) (sE HO_258002.out) (by decide)) hk (fun _ h => h.2)) (fun _ h => h.1))
         have n1_ := Aside0.mk (KeepBut.blk hk (g' := gb253) (o := .cells #[.int .i64 0, .int .i64 0, .slice none 0 0] 30 (0, 0)) (sT BK253.out) NB253_0.out (by simp))
         have n2_ := Aside0.mk (KeepBut.blk hk (g' := gb257) (o := .cells #[.int .i64 x258000_4, .int .i64 x258001_26, u258002] 30 (0, 0)) (sT BK257.out) NB257_0.out (by simp))
         have n3_ := Aside0.mk (KeepBut.trans (by repeat (first | (with_reducible first | exact HK.out | apply KeepBut.set_ | apply keep_drewN | apply keep_drew | apply keep_alloc | refine keep_far ?_ GW253.out _ | refine keep_far ?_ GW257.out _) | exact HK.out)) hk (.inl rfl))
         have n4_ := Aside0.mk (hb)
         have n5_ := Aside0.mk (hi)
         clear HO_258002
         clear BK253
         clear BK257
         clear HK
         clear HB
         clear HI0
         have HO_258002 := n0_
         have BK253 := n1_
         have BK257 := n2_
         have HK := n3_
         have HB := n4_
         have HI0 := n5_
         clear n0_ n1_ n2_ n3_ n4_ n5_
         (try clear hb)
         (try clear hb2)
         (try clear hk)
         (try clear hi)
         refine hK.out _ _ ⟨(blk_cell BK257.out 0).trans rfl, (blk_cell BK257.out 1).trans rfl, (blk_cell BK257.out 2).trans rfl⟩ (fun hHeld => ?_)
         clear hK K
         refine norm_ (a' := ?_) ?_ ?_
         rotate_left
         ·show Act.put _ (some 35) _ = _
          simp only [Act.put, List.setIfInBounds_toArray, List.set_cons_zero, List.set_cons_succ, i64_w, i32_w]
          rfl
         refine one_ (i := 4) (N := some 36) (bN 8 31) rfl rfl (one_of HT_.out (by kernel_rfl)) (by decide) (fun K hK => ?_)
         refine value_ (w1 := ?_) (v := ?_) (by rfl) rfl ?_ ?_
         rotate_left 2
         ·go_simp
          constructor
          ·rfl
          ·rfl
         refine hK.out _ _ ⟨(blk_cell (blk_alloc BK257.out _) 0).trans rfl, (blk_cell (blk_alloc BK257.out _) 1).trans rfl, (blk_cell (blk_alloc BK257.out _) 2).trans rfl⟩ (fun hHeld => ?_)
         clear hK K
         refine norm_ (a' := ?_) ?_ ?_
         rotate_left
         ·show Act.put _ (some 36) _ = _
          simp only [Act.put, List.setIfInBounds_toArray, List.set_cons_zero, List.set_cons_succ, i64_w, i32_w]
          rfl
         refine one_ (i := 5) (N := some 37) (bN 8 63) rfl rfl (one_of HT_.out (by kernel_rfl)) (by decide) (fun K hK => ?_)
         refine Kd.R_append_step k35 w.heap.size (by rfl) (.tmp 33) (.tmp 36) 28 35 (.agg #[(.string ⟨#[]⟩), (.string ⟨#[]⟩), (.int .i64 0), (.int .i64 0)]) 48 rfl Try.underlying28 info35 rfl (by decide) (by omega) u258002 x258002_3 (⟨t282, t283, t284, t285⟩ : S35) [.string t282, .string t283, .int .i64 t284, .int .i64 t285] (fun _ => True) (fun _ => False) rfl rfl ?aP (fun _ hk => hk.elim) ?aF ?aO (Below.refl _ _) ?aS ?aL ?_
         (case aP => exact k35_mkM _ _ _ (⟨t282, t283, t284, t285⟩ : S35))
         (case aF => exact (fun _ _ => trivial))
         (case aO => exact (sE HO_258002.out))
         (case aS => exact (keep_size (w := w) (g := g) (row := none) (by repeat (first | (with_reducible first | exact HK.out | apply KeepBut.set_ | apply keep_drewN | apply keep_drew | apply keep_alloc | refine keep_far ?_ GW253.out _ | refine keep_far ?_ GW257.out _) | exact HK.out))))
         (case aL => have := LMc42.out; omega)
         intro v289 w45 ho hb hg hat
         rw [← Ny288.out] at ho
         have n0_ := Aside0.mk (blk_grown (g := gb253) (o := .cells #[.int .i64 0, .int .i64 0, .slice none 0 0] 30 (0, 0)) (sT BK253.out) hg (Kd.R_ne HO_258002.out BK253.out (by decide)))
         have n1_ := Aside0.mk (blk_grown (g := gb257) (o := .cells #[.int .i64 x258000_4, .int .i64 x258001_26, u258002] 30 (0, 0)) (sT BK257.out) hg (Kd.R_ne HO_258002.out BK257.out (by decide)))
         have n2_ := Aside0.mk (IsS193.grown (by repeat (first | (with_reducible first | exact HI0.out | apply IsS193.alloc | apply IsS193.drewN | apply IsS193.drew | apply IsS193.set_1 | apply IsS193.set_2 | refine IsS193.far ?_ NB0_253.out _ | refine IsS193.far ?_ NB0_257.out _) | exact HI0.out)) hg (IsS193.own_ne HI0.out HO_258002.out (by decide)))
         have n3_ := Aside0.mk (below_weaken (by repeat (first | (with_reducible first | exact HB.out | apply below_alloc | apply pw_below_drewN | apply below_drew1 | refine below_set ?_ (IsS193.ge HI0.out) | refine below_set ?_ GE253.out | refine below_set ?_ GE257.out) | exact HB.out)) HL.out hb)
         have n4_ := Aside0.mk (KeepBut.trans (by repeat (first | (with_reducible first | exact HK.out | apply KeepBut.set_ | apply keep_drewN | apply keep_drew | apply keep_alloc | refine keep_far ?_ GW253.out _ | refine keep_far ?_ GW257.out _) | exact HK.out)) (KeepBut.of_grown hg g) (Kd.R_base2 HO_258002.out))
         have n5_ := Aside0.mk (ho)
         clear BK253
         clear BK257
         clear HI0
         clear HB
         clear HK
         clear HO_258002
         have BK253 := n0_
         have BK257 := n1_
         have HI0 := n2_
         have HB := n3_
         have HK := n4_
         have HO290 := n5_
         clear n0_ n1_ n2_ n3_ n4_ n5_
         clear ho hb hg hat
         obtain ⟨Ao46, co46, eo46⟩ := Kd.R_slice HO290.out
         (first | subst eo46 | (injection eo46 with f1_ f2_ f3_; have f4_ := f1_.symm; have f5_ := f3_.symm; clear f1_ f2_ f3_; subst f4_; subst f5_))
         refine hK.out _ _ ⟨(blk_cell BK257.out 0).trans rfl, (blk_cell BK257.out 1).trans rfl, (blk_cell BK257.out 2).trans rfl⟩ (fun hHeld => ?_)
         clear hK K
         refine norm_ (a' := ?_) ?_ ?_
         rotate_left
         ·show Act.put _ (some 37) _ = _
          simp only [Act.put, List.setIfInBounds_toArray, List.set_cons_zero, List.set_cons_succ, i64_w, i32_w]
          rfl
         refine pure_ (i := 6) (N := some 38) (v := ?_) (a' := ?_) (bN 8 127) rfl rfl (any_of HT_.out (by kernel_rfl)) (fun _ _ _ h => h) (Or.inl ⟨by rfl, ?_⟩) ?_ ?_
         rotate_left
         ·intro w'
          go_simp
          with_reducible rfl
         rotate_left
         ·simp only [Act.put, List.setIfInBounds_toArray, List.set_cons_zero, List.set_cons_succ, i64_w, i32_w]
          rfl
         refine last_ (i := 7) (N := none) (bN 8 255) rfl rfl (one_of HT_.out (by kernel_rfl)) (by decide) (fun K hK => ?_)
         have hs47 : w45.cell? ⟨gb257, 2, none⟩ = some (u258002) := (blk_cell BK257.out 2).trans rfl
         have hfs47 := blk_frozen BK257.out 2
         have hns47_0 := NB253_257.out
         have hms47_0 := NB257_253.out
         refine skip_ (w1 := ?_) (by rfl) rfl ?_ ?_
         rotate_left
         ·go_simp
          rfl
         refine hK.out _ _ ?_
         clear hK K
         refine done_ (done_of HT_.out (by kernel_rfl)) ?_
         try go_wp2
         go_roundg k3
         case measure => have := HJ4.out; have := HJ26.out; have := HK3.out; omega
         case rel => exact ⟨(wrap64 (x4_3 - 1)), (t286), (t287), (y288), (.slice Ao46 y288.length co46), sr, H', ⟨by have := HJ4.out; have := HJ26.out; have := HK3.out; omega⟩, ⟨by (with_reducible repeat (first | apply Kd.R_alloc | apply Kd.R_drewN | apply Kd.R_drew)); exact Kd.R_mono (Kd.R_far (p := ⟨gb257, 2, none⟩) (Kd.R_types HO290.out BK257.out (by decide)) (fun _ hk => hk.2) (.slice Ao46 y288.length co46)) (fun _ hk => trivial)⟩, ⟨by (with_reducible repeat (first | refine blk_drewN ?_ _ | refine blk_drew ?_ | refine blk_alloc ?_ _)); refine blk_far ?_ NB253_257.out _; exact sT BK253.out⟩, ⟨by (with_reducible repeat (first | refine blk_drewN ?_ _ | refine blk_drew ?_ | refine blk_alloc ?_ _)); refine blk_put (cs := #[.int .i64 x258000_4, .int .i64 x258001_26, u258002]) ?_ 2 _ rfl; exact sT BK257.out⟩, ⟨by repeat (first | (with_reducible first | exact HI0.out | apply IsS193.alloc | apply IsS193.drewN | apply IsS193.drew | apply IsS193.set_1 | apply IsS193.set_2 | refine IsS193.far ?_ NB0_253.out _ | refine IsS193.far ?_ NB0_257.out _) | exact HI0.out)⟩, ⟨by repeat (first | (with_reducible first | exact HK.out | apply KeepBut.set_ | apply keep_drewN | apply keep_drew | apply keep_alloc | refine keep_far ?_ GW253.out _ | refine keep_far ?_ GW257.out _) | exact HK.out)⟩, ⟨by repeat (first | (with_reducible first | exact HB.out | apply below_alloc | apply pw_below_drewN | apply below_drew1 | refine below_set ?_ (IsS193.ge HI0.out) | refine below_set ?_ GE253.out | refine below_set ?_ GE257.out) | exact HB.out)⟩⟩
        rw [if_neg c42] at H
        exact absurd H (by simp)
       rw [if_neg c40] at H
       have c40b0 : decide (0 < x4_3) = false := decide_eq_false c40
       clear c40
       simp only [Option.some.injEq, Prod.mk.injEq] at H
       obtain ⟨rfl, rfl, rfl, rfl, rfl⟩ := H
       have hnb48 := NB257_253.out
       have hnc48 := NB253_257.out
       have hnb49 := NB257_0.out
       have hnc49 := NB0_257.out
       obtain ⟨hcz50_0, hcz50_1, hcz50_2, hfz50_0, hfz50_1, hfz50_2⟩ := cells3 BK257.out
       have hnb51 := NB253_0.out
       have hnc51 := NB0_253.out
       obtain ⟨hcz52_0, hcz52_1, hcz52_2, hfz52_0, hfz52_1, hfz52_2⟩ := cells3 BK253.out
       obtain ⟨Ao53, co53, eo53⟩ := Kd.R_slice HO_258002.out
       subst eo53
       go_wp2
       refine bodyPost_ret (results_cell_row rfl _ _ gb253 30 #[.int .i64 x258000_4, .int .i64 x258001_26, .slice Ao53 x258002_3.length co53] (0, 0) _ rfl (by exact sP3 (sT BK253.out)) Try.underlying30 rfl (by kernel_rfl)) rfl ?_
       exact ⟨_, sq, by (with_reducible repeat (first | apply Kd.R_alloc | apply Kd.R_drewN | apply Kd.R_drew)); exact Kd.R_mono (Kd.R_far (p := ⟨gb253, 2, none⟩) (Kd.R_far (p := ⟨gb253, 1, none⟩) (Kd.R_far (p := ⟨gb253, 0, none⟩) (Kd.R_types HO_258002.out BK253.out (by decide)) (fun _ hk => hk.2) (.int .i64 x258000_4)) (fun _ hk => hk.2) (.int .i64 x258001_26)) (fun _ hk => hk.2) (.slice Ao53 x258002_3.length co53)) (fun _ hk => trivial), by repeat (first | (with_reducible first | exact HI0.out | apply IsS193.alloc | apply IsS193.drewN | apply IsS193.drew | apply IsS193.set_1 | apply IsS193.set_2 | refine IsS193.far ?_ NB0_253.out _ | refine IsS193.far ?_ NB0_257.out _) | exact HI0.out), by repeat (first | (with_reducible first | exact HB.out | apply below_alloc | apply pw_below_drewN | apply below_drew1 | refine below_set ?_ (IsS193.ge HI0.out) | refine below_set ?_ GE253.out | refine below_set ?_ GE257.out) | exact HB.out), by repeat (first | (with_reducible first | exact HK.out | apply KeepBut.set_ | apply keep_drewN | apply keep_drew | apply keep_alloc | refine keep_far ?_ GW253.out _ | refine keep_far ?_ GW257.out _) | exact HK.out)⟩
end Go.Proofs.Ytabbpnkbhapibaa.PFnExactFinalOf
