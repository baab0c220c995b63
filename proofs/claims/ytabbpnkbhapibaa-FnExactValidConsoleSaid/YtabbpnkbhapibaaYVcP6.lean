/- Printed functions: spec_ValidConsole. -/
import Derived.Test.YtabbpnkbhapibaaYVcP0
import Derived.Test.YtabbpnkbhapibaaYVcP5
namespace Go.Proofs.Ytabbpnkbhapibaa.PFnExactValidConsole
open Go.RowKit Go.Proofs.YtabbpnkbhapibaaG Go.Proofs.YtabbpnkbhapibaaW.PrintWords Go.Proofs.YtabbpnkbhapibaaW.PrintLast Go.Proofs.YtabbpnkbhapibaaW.PrintMore
attribute [local go_sem] max2_int min2_int max_two min_two max_three min_three max_four min_four   -- for this text's walks alone
set_option linter.unusedVariables false
set_option linter.unusedSimpArgs false
/-! ### spec_ValidConsole: function 37 -/
def spec_ValidConsole.f (k : Nat) (l0_0 : List ByteArray) (a0_1 : Int) (l0_2 : List ByteArray) (l0_3 : List (S163)) (l0_4 : List ByteArray) : Option (Bool) := (spec_l21Ok.f k [(⟨l0_0, a0_1, l0_2, l0_3, l0_4⟩ : S74)]).bind fun t177 => (some t177)
set_option maxHeartbeats 8000000 in
set_option maxRecDepth 100000 in
theorem spec_ValidConsole.calls (k : Nat) (A0_0 : Option Addr) (c0_0 : Nat) (l0_0 : List ByteArray) (a0_1 : Int) (A0_2 : Option Addr) (c0_2 : Nat) (l0_2 : List ByteArray) (A0_3 : Option Addr) (c0_3 : Nat) (l0_3 : List (S163)) (A0_4 : Option Addr) (c0_4 : Nat) (l0_4 : List ByteArray) (r : Bool) (w : World) (hr0_0 : Kd.C Kd.string w A0_0 l0_0.length l0_0) (hc0_0 : l0_0.length ≤ c0_0) (hr0_2 : Kd.C Kd.string w A0_2 l0_2.length l0_2) (hc0_2 : l0_2.length ≤ c0_2) (hr0_3 : Kd.C k163 w A0_3 l0_3.length l0_3) (hc0_3 : l0_3.length ≤ c0_3) (hr0_4 : Kd.C Kd.string w A0_4 l0_4.length l0_4) (hc0_4 : l0_4.length ≤ c0_4) (h : spec_ValidConsole.f k l0_0 a0_1 l0_2 l0_3 l0_4 = some r) :
  Calls Try.prog 37 #[.agg #[.slice A0_0 l0_0.length c0_0, .int .i64 a0_1, .slice A0_2 l0_2.length c0_2, .slice A0_3 l0_3.length c0_3, .slice A0_4 l0_4.length c0_4]] w fun e w' => e = .returned (.bool r) ∧ Below w.heap.size w w' := by
 have hu74 := Try.underlying74
 have HR0_0 := Aside0.mk hr0_0
 have HC0_0 := Aside0.mk hc0_0
 clear hr0_0 hc0_0
 have HR0_2 := Aside0.mk hr0_2
 have HC0_2 := Aside0.mk hc0_2
 clear hr0_2 hc0_2
 have HR0_3 := Aside0.mk hr0_3
 have HC0_3 := Aside0.mk hc0_3
 clear hr0_3 hc0_3
 have HR0_4 := Aside0.mk hr0_4
 have HC0_4 := Aside0.mk hc0_4
 clear hr0_4 hc0_4
 have HB := Aside0.mk (Below.refl w.heap.size w)
 have H : ((spec_l21Ok.f k [(⟨l0_0, a0_1, l0_2, l0_3, l0_4⟩ : S74)]).bind fun t177 => (some t177)) = some r := h
 clear h
 obtain ⟨t177, A2, H⟩ := sO H
 obtain rfl := Option.some.inj H
 go_enter Try.func37, Try.ntmps37
 go_wp2_with (first | ((with_reducible refine gate_dst (N := 1) rfl ?_); refine sV (N := 1) (cs := #[.slice A0_0 l0_0.length c0_0, .int .i64 a0_1, .slice A0_2 l0_2.length c0_2, .slice A0_3 l0_3.length c0_3, .slice A0_4 l0_4.length c0_4]) (t := 74) ?_; intro gb176 hg w3 hbox hb; have n0_ := sB HB hb; have n1_ := Aside0.mk (hbox); have n2_ := sG HB hg; have n3_ := sG HB hg; clear HB; have HB := n0_; have BK176 := n1_; have GW176 := n2_; have GE176 := n3_; clear n0_ n1_ n2_ n3_; clear hb hbox hg) | ((with_reducible refine gate_callee (f := 86) rfl ?_); refine sC (some 3) Try.func86 #[.pointer (some ⟨gb176, 0, none⟩)] (spec_l21Ok.calls k _ [(⟨l0_0, a0_1, l0_2, l0_3, l0_4⟩ : S74)] t177 _ ?side1 A2.out) ?_; (case side1 => exact C_box (t := 74) (sT BK176.out) (k74_mk _ (⟨l0_0, a0_1, l0_2, l0_3, l0_4⟩ : S74) (by exact HC0_0.out) (by exact sD (Kd.C_below HR0_0.out HB.out)) (by exact HC0_2.out) (by exact sD (Kd.C_below HR0_2.out HB.out)) (by exact HC0_3.out) (by exact sD (Kd.C_below HR0_3.out HB.out)) (by exact HC0_4.out) (by exact sD (Kd.C_below HR0_4.out HB.out)))); rintro e w4 ⟨rfl, hb⟩; refine ⟨_, rfl, ?_⟩; have n0_ := sK BK176 hb; have n1_ := sB HB hb; clear BK176; clear HB; have BK176 := n0_; have HB := n1_; clear n0_ n1_; (try clear hb); (try clear hb2); (try clear hk); (try clear hi)))
 go_ret
 exact ⟨sq, sb⟩
end Go.Proofs.Ytabbpnkbhapibaa.PFnExactValidConsole
