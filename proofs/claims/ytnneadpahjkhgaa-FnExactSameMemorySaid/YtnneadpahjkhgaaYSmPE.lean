/- Comparisons of structs. -/
import Derived.Test.YtnneadpahjkhgaaYSmP0
namespace Go.Proofs.Ytnneadpahjkhgaa.PFnExactSameMemory
open Go.RowKit Go.Proofs.YtnneadpahjkhgaaG Go.Proofs.YtnneadpahjkhgaaW.PrintWords Go.Proofs.YtnneadpahjkhgaaW.PrintLast Go.Proofs.YtnneadpahjkhgaaW.PrintMore
attribute [local go_sem] max2_int min2_int max_two min_two max_three min_three max_four min_four
set_option linter.unusedVariables false
set_option linter.unusedSimpArgs false
theorem eqA114 (d:Nat) (w:World) (x0 y0:Int) (x1 y1:Int) (x2 y2:ByteArray) (x3 y3:Int):
    (Op.equalIn (d+2) 114 (.agg #[.int .i64 x0,.int .i64 x1,.string x2,.int .i64 x3]) (.agg #[.int .i64 y0,.int .i64 y1,.string y2,.int .i64 y3])).run Try.prog w= .ok (x0==y0&&(x1==y1&&(x2.toList==y2.toList&&(x3==y3)))) w:=by
  refine eqA_of Try.underlying114 (by kernel_rfl) ?_
  refine eqf_cons (by rfl) (by go_simp;rfl) (by go_simp;rfl) (by go_simp) ?_
  refine eqf_cons (by rfl) (by go_simp;rfl) (by go_simp;rfl) (by go_simp) ?_
  refine eqf_cons (by rfl) (by go_simp;rfl) (by go_simp;rfl) (by go_simp) ?_
  exact eqf_last (by rfl) (by go_simp;rfl) (by go_simp;rfl) (by go_simp)
theorem eqA116 (d:Nat) (w:World) (x0 y0:ByteArray) (x1 y1:Int) (x2 y2:Int) (x3 y3:ByteArray) (x4 y4:Int):
    (Op.equalIn (d+3) 116 (.agg #[.string x0,.int .i64 x1,.int .i64 x2,.string x3,.int .i64 x4]) (.agg #[.string y0,.int .i64 y1,.int .i64 y2,.string y3,.int .i64 y4])).run Try.prog w= .ok (x0.toList==y0.toList&&((x1==y1&&(x2==y2&&(x3.toList==y3.toList&&(x4==y4)))))) w:=by
  refine eqA_of Try.underlying116 (by kernel_rfl) ?_
  refine eqf_cons (by rfl) (by go_simp;rfl) (by go_simp;rfl) (by go_simp) ?_
  exact eqf_last (by rfl) (by go_simp) (by go_simp) (eqA114 (d+0) w _ _ _ _ _ _ _ _)
end Go.Proofs.Ytnneadpahjkhgaa.PFnExactSameMemory
