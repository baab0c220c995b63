/- Printed functions: impl_ReadInstr. -/
import Derived.Test.YtdihlgkcpooadaaDoorYRiP0
import Derived.Test.YtdihlgkcpooadaaDoorYRiP8
import Derived.Test.YtdihlgkcpooadaaDoorYRiP9
import Derived.Test.YtdihlgkcpooadaaDoorYRiP10
import Derived.Test.YtdihlgkcpooadaaDoorYRiP12
namespace Go.Proofs.YtdihlgkcpooadaaDoor.PFnExactReadInstr
open Go.RowKit Go.Proofs.YtdihlgkcpooadaaDoorG Go.Proofs.YtdihlgkcpooadaaDoorW.PrintWords Go.Proofs.YtdihlgkcpooadaaDoorW.PrintLast Go.Proofs.YtdihlgkcpooadaaDoorW.PrintMore
attribute [local go_sem] max2_int min2_int max_two min_two max_three min_three max_four min_four   -- for this text's walks alone
set_option linter.unusedVariables false
set_option linter.unusedSimpArgs false
/-! ### impl_ReadInstr: function 5 -/
mutual
def impl_ReadInstr.j0 : Nat → ByteArray → ByteArray → Int → Int → ByteArray → Option (Int × Int × ByteArray × Bool)
 | 0, _, _, _, _, _ => none
 | k + 1, x0, x5, x235000, x235001, x235002 => if x235000 = 2 then ((impl_inside.f x5).bind fun t247 => (impl_ReadInstr.j1 k x0 x235000 x235001 t247)) else ((impl_Instr_form.f x235000 x235001 x235002).bind fun bt248 => (if bt248.2.2.2.2.1 = true then (impl_ReadInstr.j1 k x0 x235000 x235001 x5) else (impl_ReadInstr.j1 k x0 x235000 x235001 x235002)))
def impl_ReadInstr.j1 : Nat → ByteArray → Int → Int → ByteArray → Option (Int × Int × ByteArray × Bool)
 | 0, _, _, _, _ => none
 | k + 1, x0, x235000, x235001, x235002 => (impl_ValidInstr.f k x235000 x235001 x235002).bind fun t255 => (if t255 = true then ((impl_InstrText.f k x235000 x235001 x235002).bind fun t256 => (if t256.toList = x0.toList then (some (x235000, x235001, x235002, true)) else (some (0, 0, (⟨#[]⟩ : ByteArray), false)))) else (some (0, 0, (⟨#[]⟩ : ByteArray), false)))
end
def impl_ReadInstr.f (k : Nat) (a0 : ByteArray) : Option (Int × Int × ByteArray × Bool) := (strings_Cut.f a0 (⟨#[32]⟩ : ByteArray)).bind fun bt226 => ((impl_instrForms.f).bind fun t230 => ((impl_instrForm__impl_ReadInstr_1.f k t230 [bt226.1]).bind fun t233 => (if t233 < 0 then (some (0, 0, (⟨#[]⟩ : ByteArray), false)) else ((impl_Instr_form.f (wrap64 (t233 + 1)) 0 (⟨#[]⟩ : ByteArray)).bind fun bt235 => (if bt235.2.1 = true then ((strings_Cut.f bt226.2.1 (⟨#[32]⟩ : ByteArray)).bind fun bt242 => ((impl_readInteger.f bt242.1).bind fun bt245 => (impl_ReadInstr.j0 k a0 bt242.2.1 (wrap64 (t233 + 1)) bt245.1 (⟨#[]⟩ : ByteArray)))) else (impl_ReadInstr.j0 k a0 bt226.2.1 (wrap64 (t233 + 1)) 0 (⟨#[]⟩ : ByteArray)))))))
set_option maxHeartbeats 8000000 in
set_option maxRecDepth 100000 in
theorem impl_ReadInstr.calls (k : Nat) (a0 : ByteArray) (r1 : Int) (r2 : Int) (r3 : ByteArray) (r4 : Bool) (w : World) (h : impl_ReadInstr.f k a0 = some (r1, r2, r3, r4)) (HT : EnvT w) :
  Calls Tryd.prog 5 #[.string a0] w fun e w' => e = .returned (.tuple #[.agg #[.int .i64 r1, .int .i64 r2, .string r3], .bool r4]) ∧ Below w.heap.size w w' := by
 have hu23 := Tryd.underlying23
 have hu43 := Tryd.underlying43
 have HB := Aside0.mk (Below.refl w.heap.size w)
 have H : ((strings_Cut.f a0 (⟨#[32]⟩ : ByteArray)).bind fun bt226 => ((impl_instrForms.f).bind fun t230 => ((impl_instrForm__impl_ReadInstr_1.f k t230 [bt226.1]).bind fun t233 => (if t233 < 0 then (some (0, 0, (⟨#[]⟩ : ByteArray), false)) else ((impl_Instr_form.f (wrap64 (t233 + 1)) 0 (⟨#[]⟩ : ByteArray)).bind fun bt235 => (if bt235.2.1 = true then ((strings_Cut.f bt226.2.1 (⟨#[32]⟩ : ByteArray)).bind fun bt242 => ((impl_readInteger.f bt242.1).bind fun bt245 => (impl_ReadInstr.j0 k a0 bt242.2.1 (wrap64 (t233 + 1)) bt245.1 (⟨#[]⟩ : ByteArray)))) else (impl_ReadInstr.j0 k a0 bt226.2.1 (wrap64 (t233 + 1)) 0 (⟨#[]⟩ : ByteArray)))))))) = some (r1, r2, r3, r4) := h
 clear h
 replace H := Option.bind_eq_some_iff.mp H
 obtain ⟨⟨t226, t227, t228⟩, A20, H⟩ := H
 replace H : ((impl_instrForms.f).bind fun t230 => ((impl_instrForm__impl_ReadInstr_1.f k t230 [t226]).bind fun t233 => (if t233 < 0 then (some (0, 0, (⟨#[]⟩ : ByteArray), false)) else ((impl_Instr_form.f (wrap64 (t233 + 1)) 0 (⟨#[]⟩ : ByteArray)).bind fun bt235 => (if bt235.2.1 = true then ((strings_Cut.f t227 (⟨#[32]⟩ : ByteArray)).bind fun bt242 => ((impl_readInteger.f bt242.1).bind fun bt245 => (impl_ReadInstr.j0 k a0 bt242.2.1 (wrap64 (t233 + 1)) bt245.1 (⟨#[]⟩ : ByteArray)))) else (impl_ReadInstr.j0 k a0 t227 (wrap64 (t233 + 1)) 0 (⟨#[]⟩ : ByteArray))))))) = some (r1, r2, r3, r4) := H
 have A2 := Aside0.mk A20
 clear A20
 obtain ⟨t230, A3, H⟩ := sO H
 obtain ⟨t233, A4, H⟩ := sO H
 by_cases c5 : t233 < 0
 ·rw [if_pos c5] at H
  have c5b0 := decide_eq_true c5
  clear c5
  simp only [Option.some.injEq, Prod.mk.injEq] at H
  obtain ⟨rfl, rfl, rfl, rfl⟩ := H
  go_enter Tryd.func5, Tryd.ntmps5
  go_wp2_with (first | ((with_reducible refine gate_dst (N := 2) rfl ?_); refine sV (N := 2) (cs := #[.int .i64 0, .int .i64 0, .string (⟨#[]⟩ : ByteArray)]) (t := 23) ?_; intro gb225 hg w6 hbox hb; have n0_ := sB HB hb; have n1_ := Aside0.mk (hbox); have n2_ := sG HB hg; have n3_ := sG HB hg; clear HB; have HB := n0_; have BK225 := n1_; have GW225 := n2_; have GE225 := n3_; clear n0_ n1_ n2_ n3_; clear hb hbox hg) | ((with_reducible refine gate_callee (f := 13) rfl ?_); refine sC (some 14) Tryd.func13 #[.string a0, .string (⟨#[32]⟩ : ByteArray)] (strings_Cut.calls a0 (⟨#[32]⟩ : ByteArray) t226 t227 t228 _ A2.out (by first | with_reducible exact HT | exact EnvT.below HT sb)) ?_; rintro e w7 ⟨rfl, hb⟩; refine ⟨_, rfl, ?_⟩; have n0_ := sK BK225 hb; have n1_ := sB HB hb; clear BK225; clear HB; have BK225 := n0_; have HB := n1_; clear n0_ n1_; (try clear hb); (try clear hb2); (try clear hk); (try clear hi)) | ((with_reducible refine gate_dst (N := 4) rfl ?_); refine sV (N := 4) (cs := #[.string (⟨#[]⟩ : ByteArray)]) (t := 9) ?_; intro gb229 hg w8 hbox hb; have n0_ := sK BK225 hb; have n1_ := sB HB hb; have n2_ := Aside0.mk (hbox); have n3_ := sG HB hg; have n4_ := sG HB hg; have n5_ := sN BK225 hg; have n6_ := sM BK225 hg; clear BK225; clear HB; have BK225 := n0_; have HB := n1_; have BK229 := n2_; have GW229 := n3_; have GE229 := n4_; have NB225_229 := n5_; have NB229_225 := n6_; clear n0_ n1_ n2_ n3_ n4_ n5_ n6_; clear hb hbox hg; have hnb9 := NB229_225.out; have hnc9 := NB225_229.out; obtain ⟨hcz10_0, hfz10_0⟩ := cells1 BK229.out) | ((with_reducible refine gate_callee (f := 15) rfl ?_); refine sC (some 18) Tryd.func15 #[] (impl_instrForms.calls  t230 _ A3.out) ?_; rintro e w11 ⟨v231, rfl, ho0, hb⟩; refine ⟨_, rfl, ?_⟩; have n0_ := Aside0.mk (Kd.R_lower ho0 (below_size (by repeat (first | (with_reducible first | exact HB.out | apply below_alloc | apply pw_below_drewN | apply below_drew1 | refine below_set ?_ GE225.out | refine below_set ?_ GE229.out) | exact HB.out)))); have n1_ := Aside0.mk (blk_below (g := gb225) (o := .cells #[.int .i64 0, .int .i64 0, .string (⟨#[]⟩ : ByteArray)] 23 (0, 0)) (by (with_reducible repeat (first | refine blk_drewN ?_ _ | refine blk_drew ?_ | refine blk_alloc ?_ _)); refine blk_far ?_ NB225_229.out _; exact sT BK225.out) hb); have n2_ := Aside0.mk (blk_below (g := gb229) (o := .cells #[.string t226] 9 (0, 0)) (by (with_reducible repeat (first | refine blk_drewN ?_ _ | refine blk_drew ?_ | refine blk_alloc ?_ _)); refine blk_put (cs := #[.string (⟨#[]⟩ : ByteArray)]) ?_ 0 _ rfl; exact sT BK229.out) hb); have n3_ := sB HB hb; clear BK225; clear BK229; clear HB; have HO232 := n0_; have BK225 := n1_; have BK229 := n2_; have HB := n3_; clear n0_ n1_ n2_ n3_; (try clear hb); (try clear hb2); (try clear hk); (try clear hi); (try clear ho0); obtain ⟨Ao12, co12, eo12⟩ := Kd.R_slice HO232.out; subst eo12) | ((with_reducible refine gate_callee (f := 14) rfl ?_); refine sC (some 20) Tryd.func14 #[.slice Ao12 t230.length co12, .func (.func 16) #[] #[.pointer (some ⟨gb229, 0, none⟩)]] (impl_instrForm__impl_ReadInstr_1.calls k _ _ t230 _ [t226] t233 _ ?side1 ?side2 ?side3 A4.out) ?_; (case side1 => exact sD ((Kd.R_reads' HO232.out).2.2)); (case side2 => exact (Kd.R_reads' HO232.out).2.1); (case side3 => exact C_box (t := 9) (sT BK229.out) rfl); rintro e w13 ⟨rfl, hb⟩; refine ⟨_, rfl, ?_⟩; have n0_ := Aside0.mk (Kd.R_below (sE HO232.out) hb); have n1_ := sK BK225 hb; have n2_ := sK BK229 hb; have n3_ := sB HB hb; clear HO232; clear BK225; clear BK229; clear HB; have HO232 := n0_; have BK225 := n1_; have BK229 := n2_; have HB := n3_; clear n0_ n1_ n2_ n3_; (try clear hb); (try clear hb2); (try clear hk); (try clear hi)) | ((with_reducible refine gate_dst (N := 8) rfl ?_); refine sV (N := 8) (cs := #[.int .i64 0, .int .i64 0, .string (⟨#[]⟩ : ByteArray)]) (t := 23) ?_; intro gb234 hg w14 hbox hb; have n0_ := Aside0.mk (Kd.R_below (sE HO232.out) hb); have n1_ := sK BK225 hb; have n2_ := sK BK229 hb; have n3_ := sB HB hb; have n4_ := Aside0.mk (hbox); have n5_ := sG HB hg; have n6_ := sG HB hg; have n7_ := sN BK225 hg; have n8_ := sM BK225 hg; have n9_ := sN BK229 hg; have n10_ := sM BK229 hg; clear HO232; clear BK225; clear BK229; clear HB; have HO232 := n0_; have BK225 := n1_; have BK229 := n2_; have HB := n3_; have BK234 := n4_; have GW234 := n5_; have GE234 := n6_; have NB225_234 := n7_; have NB234_225 := n8_; have NB229_234 := n9_; have NB234_229 := n10_; clear n0_ n1_ n2_ n3_ n4_ n5_ n6_ n7_ n8_ n9_ n10_; clear hb hbox hg; have hnb15 := NB234_225.out; have hnc15 := NB225_234.out; have hnb16 := NB234_229.out; have hnc16 := NB229_234.out; obtain ⟨hcz17_0, hcz17_1, hcz17_2, hfz17_0, hfz17_1, hfz17_2⟩ := cells3 BK234.out; obtain ⟨hcz18_0, hcz18_1, hcz18_2, hfz18_0, hfz18_1, hfz18_2⟩ := cells3 BK225.out))
  refine bodyPost_ret (results_ct rfl _ _ gb225 23 #[.int .i64 0, .int .i64 0, .string (⟨#[]⟩ : ByteArray)] (0, 0) _ rfl (by (with_reducible repeat (first | refine blk_drewN ?_ _ | refine blk_drew ?_ | refine blk_alloc ?_ _)); refine blk_put (cs := #[.int .i64 0, .int .i64 0, .string (⟨#[]⟩ : ByteArray)]) ?_ 2 _ rfl; (with_reducible repeat (first | refine blk_drewN ?_ _ | refine blk_drew ?_ | refine blk_alloc ?_ _)); refine blk_put (cs := #[.int .i64 0, .int .i64 0, .string (⟨#[]⟩ : ByteArray)]) ?_ 1 _ rfl; (with_reducible repeat (first | refine blk_drewN ?_ _ | refine blk_drew ?_ | refine blk_alloc ?_ _)); refine blk_put (cs := #[.int .i64 0, .int .i64 0, .string (⟨#[]⟩ : ByteArray)]) ?_ 0 _ rfl; (with_reducible repeat (first | refine blk_drewN ?_ _ | refine blk_drew ?_ | refine blk_alloc ?_ _)); refine blk_far ?_ NB225_234.out _; (with_reducible repeat (first | refine blk_drewN ?_ _ | refine blk_drew ?_ | refine blk_alloc ?_ _)); refine blk_far ?_ NB225_234.out _; (with_reducible repeat (first | refine blk_drewN ?_ _ | refine blk_drew ?_ | refine blk_alloc ?_ _)); refine blk_far ?_ NB225_234.out _; exact sT BK225.out) Tryd.underlying23 rfl (by kernel_rfl)) rfl ?_
  exact ⟨sq, sb⟩
 rw [if_neg c5] at H
 have c5b0 := decide_eq_false c5
 clear c5
 replace H := Option.bind_eq_some_iff.mp H
 obtain ⟨⟨t235, t236, t237, t238, t239, t240, t241⟩, A190, H⟩ := H
 replace H : (if t236 = true then ((strings_Cut.f t227 (⟨#[32]⟩ : ByteArray)).bind fun bt242 => ((impl_readInteger.f bt242.1).bind fun bt245 => (impl_ReadInstr.j0 k a0 bt242.2.1 (wrap64 (t233 + 1)) bt245.1 (⟨#[]⟩ : ByteArray)))) else (impl_ReadInstr.j0 k a0 t227 (wrap64 (t233 + 1)) 0 (⟨#[]⟩ : ByteArray))) = some (r1, r2, r3, r4) := H
 have A19 := Aside0.mk A190
 clear A190
 have HC20 := Aside0.mk H
 clear H
 go_enter Tryd.func5, Tryd.ntmps5
 have hfdt235_1 : ∀ w_ : World, (Instr.field 43 (.agg #[.string t235, .bool t236, .int .i64 t237, .int .i64 t238, .bool t239, .int .i64 t240, .int .i64 t241]) 1).run Tryd.prog w_ = .ok (.bool t236) w_ := fun _ => by kernel_rfl
 have hfdt235_4 : ∀ w_ : World, (Instr.field 43 (.agg #[.string t235, .bool t236, .int .i64 t237, .int .i64 t238, .bool t239, .int .i64 t240, .int .i64 t241]) 4).run Tryd.prog w_ = .ok (.bool t239) w_ := fun _ => by kernel_rfl
 go_upto_if 29 with (first | ((with_reducible refine gate_dst (N := 2) rfl ?_); refine sV (N := 2) (cs := #[.int .i64 0, .int .i64 0, .string (⟨#[]⟩ : ByteArray)]) (t := 23) ?_; intro gb225 hg w21 hbox hb; have n0_ := sB HB hb; have n1_ := Aside0.mk (hbox); have n2_ := sG HB hg; have n3_ := sG HB hg; clear HB; have HB := n0_; have BK225 := n1_; have GW225 := n2_; have GE225 := n3_; clear n0_ n1_ n2_ n3_; clear hb hbox hg) | ((with_reducible refine gate_callee (f := 13) rfl ?_); refine sC (some 14) Tryd.func13 #[.string a0, .string (⟨#[32]⟩ : ByteArray)] (strings_Cut.calls a0 (⟨#[32]⟩ : ByteArray) t226 t227 t228 _ A2.out (by first | with_reducible exact HT | exact EnvT.below HT sb)) ?_; rintro e w22 ⟨rfl, hb⟩; refine ⟨_, rfl, ?_⟩; have n0_ := sK BK225 hb; have n1_ := sB HB hb; clear BK225; clear HB; have BK225 := n0_; have HB := n1_; clear n0_ n1_; (try clear hb); (try clear hb2); (try clear hk); (try clear hi)) | ((with_reducible refine gate_dst (N := 4) rfl ?_); refine sV (N := 4) (cs := #[.string (⟨#[]⟩ : ByteArray)]) (t := 9) ?_; intro gb229 hg w23 hbox hb; have n0_ := sK BK225 hb; have n1_ := sB HB hb; have n2_ := Aside0.mk (hbox); have n3_ := sG HB hg; have n4_ := sG HB hg; have n5_ := sN BK225 hg; have n6_ := sM BK225 hg; clear BK225; clear HB; have BK225 := n0_; have HB := n1_; have BK229 := n2_; have GW229 := n3_; have GE229 := n4_; have NB225_229 := n5_; have NB229_225 := n6_; clear n0_ n1_ n2_ n3_ n4_ n5_ n6_; clear hb hbox hg; have hnb24 := NB229_225.out; have hnc24 := NB225_229.out; obtain ⟨hcz25_0, hfz25_0⟩ := cells1 BK229.out) | ((with_reducible refine gate_callee (f := 15) rfl ?_); refine sC (some 18) Tryd.func15 #[] (impl_instrForms.calls  t230 _ A3.out) ?_; rintro e w26 ⟨v231, rfl, ho0, hb⟩; refine ⟨_, rfl, ?_⟩; have n0_ := Aside0.mk (Kd.R_lower ho0 (below_size (by repeat (first | (with_reducible first | exact HB.out | apply below_alloc | apply pw_below_drewN | apply below_drew1 | refine below_set ?_ GE225.out | refine below_set ?_ GE229.out) | exact HB.out)))); have n1_ := Aside0.mk (blk_below (g := gb225) (o := .cells #[.int .i64 0, .int .i64 0, .string (⟨#[]⟩ : ByteArray)] 23 (0, 0)) (by (with_reducible repeat (first | refine blk_drewN ?_ _ | refine blk_drew ?_ | refine blk_alloc ?_ _)); refine blk_far ?_ NB225_229.out _; exact sT BK225.out) hb); have n2_ := Aside0.mk (blk_below (g := gb229) (o := .cells #[.string t226] 9 (0, 0)) (by (with_reducible repeat (first | refine blk_drewN ?_ _ | refine blk_drew ?_ | refine blk_alloc ?_ _)); refine blk_put (cs := #[.string (⟨#[]⟩ : ByteArray)]) ?_ 0 _ rfl; exact sT BK229.out) hb); have n3_ := sB HB hb; clear BK225; clear BK229; clear HB; have HO232 := n0_; have BK225 := n1_; have BK229 := n2_; have HB := n3_; clear n0_ n1_ n2_ n3_; (try clear hb); (try clear hb2); (try clear hk); (try clear hi); (try clear ho0); obtain ⟨Ao27, co27, eo27⟩ := Kd.R_slice HO232.out; subst eo27) | ((with_reducible refine gate_callee (f := 14) rfl ?_); refine sC (some 20) Tryd.func14 #[.slice Ao27 t230.length co27, .func (.func 16) #[] #[.pointer (some ⟨gb229, 0, none⟩)]] (impl_instrForm__impl_ReadInstr_1.calls k _ _ t230 _ [t226] t233 _ ?side1 ?side2 ?side3 A4.out) ?_; (case side1 => exact sD ((Kd.R_reads' HO232.out).2.2)); (case side2 => exact (Kd.R_reads' HO232.out).2.1); (case side3 => exact C_box (t := 9) (sT BK229.out) rfl); rintro e w28 ⟨rfl, hb⟩; refine ⟨_, rfl, ?_⟩; have n0_ := Aside0.mk (Kd.R_below (sE HO232.out) hb); have n1_ := sK BK225 hb; have n2_ := sK BK229 hb; have n3_ := sB HB hb; clear HO232; clear BK225; clear BK229; clear HB; have HO232 := n0_; have BK225 := n1_; have BK229 := n2_; have HB := n3_; clear n0_ n1_ n2_ n3_; (try clear hb); (try clear hb2); (try clear hk); (try clear hi)) | ((with_reducible refine gate_dst (N := 8) rfl ?_); refine sV (N := 8) (cs := #[.int .i64 0, .int .i64 0, .string (⟨#[]⟩ : ByteArray)]) (t := 23) ?_; intro gb234 hg w29 hbox hb; have n0_ := Aside0.mk (Kd.R_below (sE HO232.out) hb); have n1_ := sK BK225 hb; have n2_ := sK BK229 hb; have n3_ := sB HB hb; have n4_ := Aside0.mk (hbox); have n5_ := sG HB hg; have n6_ := sG HB hg; have n7_ := sN BK225 hg; have n8_ := sM BK225 hg; have n9_ := sN BK229 hg; have n10_ := sM BK229 hg; clear HO232; clear BK225; clear BK229; clear HB; have HO232 := n0_; have BK225 := n1_; have BK229 := n2_; have HB := n3_; have BK234 := n4_; have GW234 := n5_; have GE234 := n6_; have NB225_234 := n7_; have NB234_225 := n8_; have NB229_234 := n9_; have NB234_229 := n10_; clear n0_ n1_ n2_ n3_ n4_ n5_ n6_ n7_ n8_ n9_ n10_; clear hb hbox hg; have hnb30 := NB234_225.out; have hnc30 := NB225_234.out; have hnb31 := NB234_229.out; have hnc31 := NB229_234.out; obtain ⟨hcz32_0, hcz32_1, hcz32_2, hfz32_0, hfz32_1, hfz32_2⟩ := cells3 BK234.out) | ((with_reducible refine gate_callee (f := 17) rfl ?_); refine sC (some 28) Tryd.func17 #[.agg #[.int .i64 (wrap64 (t233 + 1)), .int .i64 0, .string (⟨#[]⟩ : ByteArray)]] (impl_Instr_form.calls (wrap64 (t233 + 1)) 0 (⟨#[]⟩ : ByteArray) t235 t236 t237 t238 t239 t240 t241 _ A19.out) ?_; rintro e w33 ⟨rfl, hb⟩; refine ⟨_, rfl, ?_⟩; have n0_ := Aside0.mk (Kd.R_below (by (with_reducible repeat (first | apply Kd.R_alloc | apply Kd.R_drewN | apply Kd.R_drew)); exact (Kd.R_mono (Kd.R_far (p := ⟨gb234, 2, none⟩) (Kd.R_far (p := ⟨gb234, 1, none⟩) (Kd.R_far (p := ⟨gb234, 0, none⟩) (Kd.R_types HO232.out BK234.out (by decide)) (fun _ hk => hk.2) (.int .i64 (wrap64 (t233 + 1)))) (fun _ hk => hk.2) (.int .i64 0)) (fun _ hk => hk.2) (.string (⟨#[]⟩ : ByteArray))) (fun _ h_ => h_.1))) hb); have n1_ := Aside0.mk (blk_below (g := gb225) (o := .cells #[.int .i64 0, .int .i64 0, .string (⟨#[]⟩ : ByteArray)] 23 (0, 0)) (by (with_reducible repeat (first | refine blk_drewN ?_ _ | refine blk_drew ?_ | refine blk_alloc ?_ _)); refine blk_far ?_ NB225_234.out _; (with_reducible repeat (first | refine blk_drewN ?_ _ | refine blk_drew ?_ | refine blk_alloc ?_ _)); refine blk_far ?_ NB225_234.out _; (with_reducible repeat (first | refine blk_drewN ?_ _ | refine blk_drew ?_ | refine blk_alloc ?_ _)); refine blk_far ?_ NB225_234.out _; exact sT BK225.out) hb); have n2_ := Aside0.mk (blk_below (g := gb229) (o := .cells #[.string t226] 9 (0, 0)) (by (with_reducible repeat (first | refine blk_drewN ?_ _ | refine blk_drew ?_ | refine blk_alloc ?_ _)); refine blk_far ?_ NB229_234.out _; (with_reducible repeat (first | refine blk_drewN ?_ _ | refine blk_drew ?_ | refine blk_alloc ?_ _)); refine blk_far ?_ NB229_234.out _; (with_reducible repeat (first | refine blk_drewN ?_ _ | refine blk_drew ?_ | refine blk_alloc ?_ _)); refine blk_far ?_ NB229_234.out _; exact sT BK229.out) hb); have n3_ := Aside0.mk (blk_below (g := gb234) (o := .cells #[.int .i64 (wrap64 (t233 + 1)), .int .i64 0, .string (⟨#[]⟩ : ByteArray)] 23 (0, 0)) (by exact sP3 (sT BK234.out)) hb); have n4_ := sB HB hb; clear HO232; clear BK225; clear BK229; clear BK234; clear HB; have HO232 := n0_; have BK225 := n1_; have BK229 := n2_; have BK234 := n3_; have HB := n4_; clear n0_ n1_ n2_ n3_ n4_; (try clear hb); (try clear hb2); (try clear hk); (try clear hi)))
 (try simp only [Act.put, List.setIfInBounds_toArray, List.set_cons_zero, List.set_cons_succ])
 go_cut [5] (fun v5 wc => ∃ (kq : Nat) (x5_19 : ByteArray) (x235001_19 : Int), v5 = .string x5_19 ∧ Aside0 (impl_ReadInstr.j0 kq a0 x5_19 (wrap64 (t233 + 1)) x235001_19 (⟨#[]⟩ : ByteArray) = some (r1, r2, r3, r4)) ∧ Aside0 (kq ≤ k) ∧ Aside0 (wc.heap[gb225]? = some (.cells #[.int .i64 0, .int .i64 0, .string (⟨#[]⟩ : ByteArray)] 23 (0, 0))) ∧ Aside0 (wc.heap[gb229]? = some (.cells #[.string t226] 9 (0, 0))) ∧ Aside0 (wc.heap[gb234]? = some (.cells #[.int .i64 (wrap64 (t233 + 1)), .int .i64 x235001_19, .string (⟨#[]⟩ : ByteArray)] 23 (0, 0))) ∧ Aside0 (Below w.heap.size w wc))
 case first =>
  have H := HC20.out
  clear HC20
  by_cases c34 : t236 = true
  ·subst c34
   rewrite [if_pos rfl] at H
   replace H := Option.bind_eq_some_iff.mp H
   obtain ⟨⟨t242, t243, t244⟩, A350, H⟩ := H
   replace H : ((impl_readInteger.f t242).bind fun bt245 => (impl_ReadInstr.j0 k a0 t243 (wrap64 (t233 + 1)) bt245.1 (⟨#[]⟩ : ByteArray))) = some (r1, r2, r3, r4) := H
   have A35 := Aside0.mk A350
   clear A350
   replace H := Option.bind_eq_some_iff.mp H
   obtain ⟨⟨t245, t246⟩, A360, H⟩ := H
   replace H : (impl_ReadInstr.j0 k a0 t243 (wrap64 (t233 + 1)) t245 (⟨#[]⟩ : ByteArray)) = some (r1, r2, r3, r4) := H
   have A36 := Aside0.mk A360
   clear A360
   have H' := Aside0.mk H
   clear H
   go_wp2_with (first | ((with_reducible refine gate_callee (f := 13) rfl ?_); refine sC (some 32) Tryd.func13 #[.string t227, .string (⟨#[32]⟩ : ByteArray)] (strings_Cut.calls t227 (⟨#[32]⟩ : ByteArray) t242 t243 t244 _ A35.out (by first | with_reducible exact HT | exact EnvT.below HT sb)) ?_; rintro e w37 ⟨rfl, hb⟩; refine ⟨_, rfl, ?_⟩; have n0_ := Aside0.mk (Kd.R_below (sE HO232.out) hb); have n1_ := sK BK225 hb; have n2_ := sK BK229 hb; have n3_ := sK BK234 hb; have n4_ := sB HB hb; clear HO232; clear BK225; clear BK229; clear BK234; clear HB; have HO232 := n0_; have BK225 := n1_; have BK229 := n2_; have BK234 := n3_; have HB := n4_; clear n0_ n1_ n2_ n3_ n4_; (try clear hb); (try clear hb2); (try clear hk); (try clear hi)) | ((with_reducible refine gate_callee (f := 18) rfl ?_); refine sC (some 38) Tryd.func18 #[.string t242] (impl_readInteger.calls t242 t245 t246 _ A36.out (by first | with_reducible exact HT | exact EnvT.below HT sb)) ?_; rintro e w38 ⟨rfl, hb⟩; refine ⟨_, rfl, ?_⟩; have n0_ := Aside0.mk (Kd.R_below (sE HO232.out) hb); have n1_ := sK BK225 hb; have n2_ := sK BK229 hb; have n3_ := sK BK234 hb; have n4_ := sB HB hb; clear HO232; clear BK225; clear BK229; clear BK234; clear HB; have HO232 := n0_; have BK225 := n1_; have BK229 := n2_; have BK234 := n3_; have HB := n4_; clear n0_ n1_ n2_ n3_ n4_; (try clear hb); (try clear hb2); (try clear hk); (try clear hi); have hnb39 := NB234_225.out; have hnc39 := NB225_234.out; have hnb40 := NB234_229.out; have hnc40 := NB229_234.out; obtain ⟨hcz41_0, hcz41_1, hcz41_2, hfz41_0, hfz41_1, hfz41_2⟩ := cells3 BK234.out))
   go_meet
   case rel => exact ⟨_, (t243), (t245), sr, H', ⟨by first | omega | exact Nat.le_refl _⟩, ⟨by (with_reducible repeat (first | refine blk_drewN ?_ _ | refine blk_drew ?_ | refine blk_alloc ?_ _)); refine blk_far ?_ NB225_234.out _; exact sT BK225.out⟩, ⟨by (with_reducible repeat (first | refine blk_drewN ?_ _ | refine blk_drew ?_ | refine blk_alloc ?_ _)); refine blk_far ?_ NB229_234.out _; exact sT BK229.out⟩, ⟨by (with_reducible repeat (first | refine blk_drewN ?_ _ | refine blk_drew ?_ | refine blk_alloc ?_ _)); refine blk_put (cs := #[.int .i64 (wrap64 (t233 + 1)), .int .i64 0, .string (⟨#[]⟩ : ByteArray)]) ?_ 1 _ rfl; exact sT BK234.out⟩, ⟨sb⟩⟩
  replace c34 := Bool.eq_false_iff.mpr c34
  subst c34
  rewrite [if_neg (show ¬ (false = true) by decide)] at H
  have H' := Aside0.mk H
  clear H
  go_wp2
  go_meet
  case rel => exact ⟨_, (t227), (0), sr, H', ⟨by first | omega | exact Nat.le_refl _⟩, ⟨by exact sT BK225.out⟩, ⟨by exact sT BK229.out⟩, ⟨by exact sT BK234.out⟩, ⟨sb⟩⟩
 case rest =>
  clear HC20
  try clear c1
  try clear c2
  try clear p2
  try clear c3
  try clear c4
  try clear c5
  try clear c5b0
  try clear p6
  try clear c7
  try clear c9
  try clear c13
  try clear c15
  try clear c16
  try clear c17
  try clear c18
  try clear c24
  try clear c30
  try clear c31
  try clear c34
  try clear c39
  try clear c40
  try clear hcz10_0
  try clear hcz17_0
  try clear hcz17_1
  try clear hcz17_2
  try clear hcz18_0
  try clear hcz18_1
  try clear hcz18_2
  try clear hcz25_0
  try clear hcz32_0
  try clear hcz32_1
  try clear hcz32_2
  try clear hcz41_0
  try clear hcz41_1
  try clear hcz41_2
  try clear hfz10_0
  try clear hfz17_0
  try clear hfz17_1
  try clear hfz17_2
  try clear hfz18_0
  try clear hfz18_1
  try clear hfz18_2
  try clear hfz25_0
  try clear hfz32_0
  try clear hfz32_1
  try clear hfz32_2
  try clear hfz41_0
  try clear hfz41_1
  try clear hfz41_2
  obtain ⟨kq, x5_19, x235001_19, rfl, HA, HJ19, BK225, BK229, BK234, HB⟩ := hcut
  cases kq with
  | zero => exact absurd HA.out (by simp [impl_ReadInstr.j0])
  | succ kj19 =>
   have H := HA.out
   clear HA
   simp only [impl_ReadInstr.j0] at H
   have HC42 := Aside0.mk H
   clear H
   go_upto_block 0 with (fail)
   go_cut [] (fun wc => ∃ (kq : Nat) (x235002_41 : ByteArray), Aside0 (impl_ReadInstr.j1 kq a0 (wrap64 (t233 + 1)) x235001_19 x235002_41 = some (r1, r2, r3, r4)) ∧ Aside0 (kq ≤ kj19) ∧ Aside0 (wc.heap[gb225]? = some (.cells #[.int .i64 0, .int .i64 0, .string (⟨#[]⟩ : ByteArray)] 23 (0, 0))) ∧ Aside0 (wc.heap[gb229]? = some (.cells #[.string t226] 9 (0, 0))) ∧ Aside0 (wc.heap[gb234]? = some (.cells #[.int .i64 (wrap64 (t233 + 1)), .int .i64 x235001_19, .string x235002_41] 23 (0, 0))) ∧ Aside0 (Below w.heap.size w wc))
   case first =>
    have H := HC42.out
    clear HC42
    by_cases c43 : (wrap64 (t233 + 1)) = 2
    ·rw [if_pos c43] at H
     have c43b0 : ((wrap64 (t233 + 1)) == 2) = true := beq_iff_eq.mpr c43
     have c43b1 : ((wrap64 (t233 + 1)) != 2) = false := bne_eq_false_iff_eq.mpr c43
     clear c43
     (first | rw [c43b0] | (simp only [i64_w, i32_w]; rw [c43b0]) | rw [c43b2] | skip)
     obtain ⟨t247, A44, H⟩ := sO H
     have H' := Aside0.mk H
     clear H
     have hnb45 := NB234_225.out
     have hnc45 := NB225_234.out
     have hnb46 := NB234_229.out
     have hnc46 := NB229_234.out
     obtain ⟨hcz47_0, hcz47_1, hcz47_2, hfz47_0, hfz47_1, hfz47_2⟩ := cells3 BK234.out
     go_wp2_with (first | ((with_reducible refine gate_callee (f := 19) rfl ?_); refine sC (some 48) Tryd.func19 #[.string x5_19] (impl_inside.calls x5_19 t247 _ A44.out) ?_; rintro e w' ⟨rfl, ⟨nd, rfl⟩⟩; refine ⟨_, rfl, ?_⟩; (try (rw [drewN_self wc]; generalize hq_ : World.drewN wc _ = wc; have n0_ : Aside0 (wc.heap[gb225]? = some (.cells #[.int .i64 0, .int .i64 0, .string (⟨#[]⟩ : ByteArray)] 23 (0, 0))) := ⟨by rw [← hq_]; exact (sT BK225.out)⟩; have n1_ : Aside0 (wc.heap[gb229]? = some (.cells #[.string t226] 9 (0, 0))) := ⟨by rw [← hq_]; exact (sT BK229.out)⟩; have n2_ : Aside0 (wc.heap[gb234]? = some (.cells #[.int .i64 (wrap64 (t233 + 1)), .int .i64 x235001_19, .string (⟨#[]⟩ : ByteArray)] 23 (0, 0))) := ⟨by rw [← hq_]; exact (sT BK234.out)⟩; have n3_ : Aside0 (Below w.heap.size w wc) := ⟨by rw [← hq_]; exact (by repeat (first | (with_reducible first | exact HB.out | apply below_alloc | apply pw_below_drewN | apply below_drew1 | refine below_set ?_ GE225.out | refine below_set ?_ GE229.out | refine below_set ?_ GE234.out) | exact HB.out))⟩; clear BK225 BK229 BK234 HB hq_; have BK225 := n0_; have BK229 := n1_; have BK234 := n2_; have HB := n3_; clear n0_ n1_ n2_ n3_; obtain ⟨hcy_0, hcy_1, hcy_2, hfy_0, hfy_1, hfy_2⟩ := cells3 BK234.out))))
     go_meet
     case rel => exact ⟨_, (t247), H', ⟨by have := HJ19.out; first | omega | exact Nat.le_refl _⟩, ⟨by (with_reducible repeat (first | refine blk_drewN ?_ _ | refine blk_drew ?_ | refine blk_alloc ?_ _)); refine blk_far ?_ NB225_234.out _; exact sT BK225.out⟩, ⟨by (with_reducible repeat (first | refine blk_drewN ?_ _ | refine blk_drew ?_ | refine blk_alloc ?_ _)); refine blk_far ?_ NB229_234.out _; exact sT BK229.out⟩, ⟨by (with_reducible repeat (first | refine blk_drewN ?_ _ | refine blk_drew ?_ | refine blk_alloc ?_ _)); refine blk_put (cs := #[.int .i64 (wrap64 (t233 + 1)), .int .i64 x235001_19, .string (⟨#[]⟩ : ByteArray)]) ?_ 2 _ rfl; exact sT BK234.out⟩, ⟨sb⟩⟩
    rw [if_neg c43] at H
    have c43b0 : ((wrap64 (t233 + 1)) == 2) = false := beq_eq_false_iff_ne.mpr c43
    have c43b1 : ((wrap64 (t233 + 1)) != 2) = true := bne_iff_ne.mpr c43
    (first | rw [c43b0] | (simp only [i64_w, i32_w]; rw [c43b0]) | rw [c43b2] | skip)
    replace H := Option.bind_eq_some_iff.mp H
    obtain ⟨⟨t248, t249, t250, t251, t252, t253, t254⟩, A480, H⟩ := H
    replace H : (if t252 = true then (impl_ReadInstr.j1 kj19 a0 (wrap64 (t233 + 1)) x235001_19 x5_19) else (impl_ReadInstr.j1 kj19 a0 (wrap64 (t233 + 1)) x235001_19 (⟨#[]⟩ : ByteArray))) = some (r1, r2, r3, r4) := H
    have A48 := Aside0.mk A480
    clear A480
    by_cases c49 : t252 = true
    ·subst c49
     rewrite [if_pos rfl] at H
     have H' := Aside0.mk H
     clear H
     have hnb50 := NB234_225.out
     have hnc50 := NB225_234.out
     have hnb51 := NB234_229.out
     have hnc51 := NB229_234.out
     obtain ⟨hcz52_0, hcz52_1, hcz52_2, hfz52_0, hfz52_1, hfz52_2⟩ := cells3 BK234.out
     have hfdt248_1 : ∀ w_ : World, (Instr.field 43 (.agg #[.string t248, .bool t249, .int .i64 t250, .int .i64 t251, .bool true, .int .i64 t253, .int .i64 t254]) 1).run Tryd.prog w_ = .ok (.bool t249) w_ := fun _ => by kernel_rfl
     have hfdt248_4 : ∀ w_ : World, (Instr.field 43 (.agg #[.string t248, .bool t249, .int .i64 t250, .int .i64 t251, .bool true, .int .i64 t253, .int .i64 t254]) 4).run Tryd.prog w_ = .ok (.bool true) w_ := fun _ => by kernel_rfl
     go_wp2_with (first | ((with_reducible refine gate_callee (f := 17) rfl ?_); refine sC (some 52) Tryd.func17 #[.agg #[.int .i64 (wrap64 (t233 + 1)), .int .i64 x235001_19, .string (⟨#[]⟩ : ByteArray)]] (impl_Instr_form.calls (wrap64 (t233 + 1)) x235001_19 (⟨#[]⟩ : ByteArray) t248 t249 t250 t251 true t253 t254 _ A48.out) ?_; rintro e w53 ⟨rfl, hb⟩; refine ⟨_, rfl, ?_⟩; have n0_ := sK BK225 hb; have n1_ := sK BK229 hb; have n2_ := sK BK234 hb; have n3_ := sB HB hb; clear BK225; clear BK229; clear BK234; clear HB; have BK225 := n0_; have BK229 := n1_; have BK234 := n2_; have HB := n3_; clear n0_ n1_ n2_ n3_; (try clear hb); (try clear hb2); (try clear hk); (try clear hi); obtain ⟨hcz54_0, hcz54_1, hcz54_2, hfz54_0, hfz54_1, hfz54_2⟩ := cells3 BK234.out))
     go_meet
     case rel => exact ⟨_, (x5_19), H', ⟨by have := HJ19.out; first | omega | exact Nat.le_refl _⟩, ⟨by (with_reducible repeat (first | refine blk_drewN ?_ _ | refine blk_drew ?_ | refine blk_alloc ?_ _)); refine blk_far ?_ NB225_234.out _; exact sT BK225.out⟩, ⟨by (with_reducible repeat (first | refine blk_drewN ?_ _ | refine blk_drew ?_ | refine blk_alloc ?_ _)); refine blk_far ?_ NB229_234.out _; exact sT BK229.out⟩, ⟨by (with_reducible repeat (first | refine blk_drewN ?_ _ | refine blk_drew ?_ | refine blk_alloc ?_ _)); refine blk_put (cs := #[.int .i64 (wrap64 (t233 + 1)), .int .i64 x235001_19, .string (⟨#[]⟩ : ByteArray)]) ?_ 2 _ rfl; exact sT BK234.out⟩, ⟨sb⟩⟩
    replace c49 := Bool.eq_false_iff.mpr c49
    subst c49
    rewrite [if_neg (show ¬ (false = true) by decide)] at H
    have H' := Aside0.mk H
    clear H
    have hnb55 := NB234_225.out
    have hnc55 := NB225_234.out
    have hnb56 := NB234_229.out
    have hnc56 := NB229_234.out
    obtain ⟨hcz57_0, hcz57_1, hcz57_2, hfz57_0, hfz57_1, hfz57_2⟩ := cells3 BK234.out
    have hfdt248_1 : ∀ w_ : World, (Instr.field 43 (.agg #[.string t248, .bool t249, .int .i64 t250, .int .i64 t251, .bool false, .int .i64 t253, .int .i64 t254]) 1).run Tryd.prog w_ = .ok (.bool t249) w_ := fun _ => by kernel_rfl
    have hfdt248_4 : ∀ w_ : World, (Instr.field 43 (.agg #[.string t248, .bool t249, .int .i64 t250, .int .i64 t251, .bool false, .int .i64 t253, .int .i64 t254]) 4).run Tryd.prog w_ = .ok (.bool false) w_ := fun _ => by kernel_rfl
    go_wp2_with (first | ((with_reducible refine gate_callee (f := 17) rfl ?_); refine sC (some 52) Tryd.func17 #[.agg #[.int .i64 (wrap64 (t233 + 1)), .int .i64 x235001_19, .string (⟨#[]⟩ : ByteArray)]] (impl_Instr_form.calls (wrap64 (t233 + 1)) x235001_19 (⟨#[]⟩ : ByteArray) t248 t249 t250 t251 false t253 t254 _ A48.out) ?_; rintro e w58 ⟨rfl, hb⟩; refine ⟨_, rfl, ?_⟩; have n0_ := sK BK225 hb; have n1_ := sK BK229 hb; have n2_ := sK BK234 hb; have n3_ := sB HB hb; clear BK225; clear BK229; clear BK234; clear HB; have BK225 := n0_; have BK229 := n1_; have BK234 := n2_; have HB := n3_; clear n0_ n1_ n2_ n3_; (try clear hb); (try clear hb2); (try clear hk); (try clear hi)))
    go_meet
    case rel => exact ⟨_, ((⟨#[]⟩ : ByteArray)), H', ⟨by have := HJ19.out; first | omega | exact Nat.le_refl _⟩, ⟨by exact sT BK225.out⟩, ⟨by exact sT BK229.out⟩, ⟨by exact sT BK234.out⟩, ⟨sb⟩⟩
   case rest =>
    clear HC42
    try clear c1
    try clear c2
    try clear p2
    try clear c3
    try clear c4
    try clear c5
    try clear c5b0
    try clear p6
    try clear c7
    try clear c9
    try clear c13
    try clear c15
    try clear c16
    try clear c17
    try clear c18
    try clear c19
    try clear c24
    try clear c30
    try clear c31
    try clear c34
    try clear c39
    try clear c40
    try clear c43
    try clear c43b0
    try clear c43b1
    try clear c43b2
    try clear c45
    try clear c46
    try clear c49
    try clear c50
    try clear c51
    try clear c55
    try clear c56
    try clear hcz10_0
    try clear hcz17_0
    try clear hcz17_1
    try clear hcz17_2
    try clear hcz18_0
    try clear hcz18_1
    try clear hcz18_2
    try clear hcz25_0
    try clear hcz32_0
    try clear hcz32_1
    try clear hcz32_2
    try clear hcz41_0
    try clear hcz41_1
    try clear hcz41_2
    try clear hcz47_0
    try clear hcz47_1
    try clear hcz47_2
    try clear hcz52_0
    try clear hcz52_1
    try clear hcz52_2
    try clear hcz54_0
    try clear hcz54_1
    try clear hcz54_2
    try clear hcz57_0
    try clear hcz57_1
    try clear hcz57_2
    try clear hfz10_0
    try clear hfz17_0
    try clear hfz17_1
    try clear hfz17_2
    try clear hfz18_0
    try clear hfz18_1
    try clear hfz18_2
    try clear hfz25_0
    try clear hfz32_0
    try clear hfz32_1
    try clear hfz32_2
    try clear hfz41_0
    try clear hfz41_1
    try clear hfz41_2
    try clear hfz47_0
    try clear hfz47_1
    try clear hfz47_2
    try clear hfz52_0
    try clear hfz52_1
    try clear hfz52_2
    try clear hfz54_0
    try clear hfz54_1
    try clear hfz54_2
    try clear hfz57_0
    try clear hfz57_1
    try clear hfz57_2
    try clear p2
    try clear p6
    obtain ⟨kq, x235002_41, HA, HJ41, BK225, BK229, BK234, HB⟩ := hcut
    cases kq with
    | zero => exact absurd HA.out (by simp [impl_ReadInstr.j1])
    | succ kj41 =>
     have H := HA.out
     clear HA
     simp only [impl_ReadInstr.j1] at H
     obtain ⟨t255, A59, H⟩ := sO H
     by_cases c60 : t255 = true
     ·subst c60
      rewrite [if_pos rfl] at H
      obtain ⟨t256, A61, H⟩ := sO H
      by_cases c62 : t256.toList = a0.toList
      ·rw [if_pos c62] at H
       have c62b0 : (t256.toList == a0.toList) = true := beq_iff_eq.mpr c62
       have c62b1 : (t256.toList != a0.toList) = false := bne_eq_false_iff_eq.mpr c62
       clear c62
       simp only [Option.some.injEq, Prod.mk.injEq] at H
       obtain ⟨rfl, rfl, rfl, rfl⟩ := H
       have hnb63 := NB234_225.out
       have hnc63 := NB225_234.out
       have hnb64 := NB234_229.out
       have hnc64 := NB229_234.out
       obtain ⟨hcz65_0, hcz65_1, hcz65_2, hfz65_0, hfz65_1, hfz65_2⟩ := cells3 BK234.out
       go_wp2_with (first | ((with_reducible refine gate_callee (f := 20) rfl ?_); refine sC (some 57) Tryd.func20 #[.agg #[.int .i64 (wrap64 (t233 + 1)), .int .i64 x235001_19, .string x235002_41]] (impl_ValidInstr.calls kj41 (wrap64 (t233 + 1)) x235001_19 x235002_41 true _ A59.out) ?_; rintro e w66 ⟨rfl, hb⟩; refine ⟨_, rfl, ?_⟩; have n0_ := sK BK225 hb; have n1_ := sK BK229 hb; have n2_ := sK BK234 hb; have n3_ := sB HB hb; clear BK225; clear BK229; clear BK234; clear HB; have BK225 := n0_; have BK229 := n1_; have BK234 := n2_; have HB := n3_; clear n0_ n1_ n2_ n3_; (try clear hb); (try clear hb2); (try clear hk); (try clear hi); obtain ⟨hcz67_0, hcz67_1, hcz67_2, hfz67_0, hfz67_1, hfz67_2⟩ := cells3 BK234.out) | (go_at_call 21; (with_reducible refine (impl_InstrText.calls kj41 (wrap64 (t233 + 1)) x235001_19 x235002_41 t256 _ A61.out (by first | with_reducible exact HT | exact EnvT.below HT sb)).mono ?_); rintro e w68 ⟨rfl, hb⟩; have n0_ := sK BK225 hb; have n1_ := sK BK229 hb; have n2_ := sK BK234 hb; have n3_ := sB HB hb; clear BK225; clear BK229; clear BK234; clear HB; have BK225 := n0_; have BK229 := n1_; have BK234 := n2_; have HB := n3_; clear n0_ n1_ n2_ n3_; (try clear hb); (try clear hb2); (try clear hk); (try clear hi); obtain ⟨hcz69_0, hcz69_1, hcz69_2, hfz69_0, hfz69_1, hfz69_2⟩ := cells3 BK234.out; have hnb70 := NB225_229.out; have hnc70 := NB229_225.out; obtain ⟨hcz71_0, hcz71_1, hcz71_2, hfz71_0, hfz71_1, hfz71_2⟩ := cells3 BK225.out))
       refine bodyPost_ret (results_ct rfl _ _ gb225 23 #[.int .i64 (wrap64 (t233 + 1)), .int .i64 x235001_19, .string x235002_41] (0, 0) _ rfl (by exact sP3 (sT BK225.out)) Tryd.underlying23 rfl (by kernel_rfl)) rfl ?_
       exact ⟨sq, sb⟩
      rw [if_neg c62] at H
      have c62b0 : (t256.toList == a0.toList) = false := beq_eq_false_iff_ne.mpr c62
      have c62b1 : (t256.toList != a0.toList) = true := bne_iff_ne.mpr c62
      simp only [Option.some.injEq, Prod.mk.injEq] at H
      obtain ⟨rfl, rfl, rfl, rfl⟩ := H
      have hnb72 := NB234_225.out
      have hnc72 := NB225_234.out
      have hnb73 := NB234_229.out
      have hnc73 := NB229_234.out
      obtain ⟨hcz74_0, hcz74_1, hcz74_2, hfz74_0, hfz74_1, hfz74_2⟩ := cells3 BK234.out
      go_wp2_with (first | ((with_reducible refine gate_callee (f := 20) rfl ?_); refine sC (some 57) Tryd.func20 #[.agg #[.int .i64 (wrap64 (t233 + 1)), .int .i64 x235001_19, .string x235002_41]] (impl_ValidInstr.calls kj41 (wrap64 (t233 + 1)) x235001_19 x235002_41 true _ A59.out) ?_; rintro e w75 ⟨rfl, hb⟩; refine ⟨_, rfl, ?_⟩; have n0_ := sK BK225 hb; have n1_ := sK BK229 hb; have n2_ := sK BK234 hb; have n3_ := sB HB hb; clear BK225; clear BK229; clear BK234; clear HB; have BK225 := n0_; have BK229 := n1_; have BK234 := n2_; have HB := n3_; clear n0_ n1_ n2_ n3_; (try clear hb); (try clear hb2); (try clear hk); (try clear hi); obtain ⟨hcz76_0, hcz76_1, hcz76_2, hfz76_0, hfz76_1, hfz76_2⟩ := cells3 BK234.out) | (go_at_call 21; (with_reducible refine (impl_InstrText.calls kj41 (wrap64 (t233 + 1)) x235001_19 x235002_41 t256 _ A61.out (by first | with_reducible exact HT | exact EnvT.below HT sb)).mono ?_); rintro e w77 ⟨rfl, hb⟩; have n0_ := sK BK225 hb; have n1_ := sK BK229 hb; have n2_ := sK BK234 hb; have n3_ := sB HB hb; clear BK225; clear BK229; clear BK234; clear HB; have BK225 := n0_; have BK229 := n1_; have BK234 := n2_; have HB := n3_; clear n0_ n1_ n2_ n3_; (try clear hb); (try clear hb2); (try clear hk); (try clear hi); have hnb78 := NB225_229.out; have hnc78 := NB229_225.out; obtain ⟨hcz79_0, hcz79_1, hcz79_2, hfz79_0, hfz79_1, hfz79_2⟩ := cells3 BK225.out))
      refine bodyPost_ret (results_ct rfl _ _ gb225 23 #[.int .i64 0, .int .i64 0, .string (⟨#[]⟩ : ByteArray)] (0, 0) _ rfl (by exact sP3 (sT BK225.out)) Tryd.underlying23 rfl (by kernel_rfl)) rfl ?_
      exact ⟨sq, sb⟩
     replace c60 := Bool.eq_false_iff.mpr c60
     subst c60
     rewrite [if_neg (show ¬ (false = true) by decide)] at H
     simp only [Option.some.injEq, Prod.mk.injEq] at H
     obtain ⟨rfl, rfl, rfl, rfl⟩ := H
     have hnb80 := NB234_225.out
     have hnc80 := NB225_234.out
     have hnb81 := NB234_229.out
     have hnc81 := NB229_234.out
     obtain ⟨hcz82_0, hcz82_1, hcz82_2, hfz82_0, hfz82_1, hfz82_2⟩ := cells3 BK234.out
     go_wp2_with (first | ((with_reducible refine gate_callee (f := 20) rfl ?_); refine sC (some 57) Tryd.func20 #[.agg #[.int .i64 (wrap64 (t233 + 1)), .int .i64 x235001_19, .string x235002_41]] (impl_ValidInstr.calls kj41 (wrap64 (t233 + 1)) x235001_19 x235002_41 false _ A59.out) ?_; rintro e w83 ⟨rfl, hb⟩; refine ⟨_, rfl, ?_⟩; have n0_ := sK BK225 hb; have n1_ := sK BK229 hb; have n2_ := sK BK234 hb; have n3_ := sB HB hb; clear BK225; clear BK229; clear BK234; clear HB; have BK225 := n0_; have BK229 := n1_; have BK234 := n2_; have HB := n3_; clear n0_ n1_ n2_ n3_; (try clear hb); (try clear hb2); (try clear hk); (try clear hi); have hnb84 := NB225_229.out; have hnc84 := NB229_225.out; obtain ⟨hcz85_0, hcz85_1, hcz85_2, hfz85_0, hfz85_1, hfz85_2⟩ := cells3 BK225.out))
     refine bodyPost_ret (results_ct rfl _ _ gb225 23 #[.int .i64 0, .int .i64 0, .string (⟨#[]⟩ : ByteArray)] (0, 0) _ rfl (by exact sP3 (sT BK225.out)) Tryd.underlying23 rfl (by kernel_rfl)) rfl ?_
     exact ⟨sq, sb⟩
end Go.Proofs.YtdihlgkcpooadaaDoor.PFnExactReadInstr
