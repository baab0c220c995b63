/- slices.Concat of two rows of values. No condition. -/
import Derived.Test.YtengilknjiobiaaYRefsOfVValues
import Derived.Test.YtengilknjiobiaaYRoW4
import Derived.Test.YtengilknjiobiaaYRoP0
import Derived.Test.YtengilknjiobiaaYRoP15
namespace Go.Proofs.Ytengilknjiobiaa.PureFnExactRefsOf
open Go.RowKit Go.Proofs.YtengilknjiobiaaG Go.Proofs.Ytengilknjiobiaa.PFnExactRefsOf Go.Proofs.YtengilknjiobiaaW.PrintWords Go.Proofs.YtengilknjiobiaaW.PrintLast Go.Proofs.YtengilknjiobiaaW.PrintMore
set_option linter.unusedSimpArgs false
set_option linter.unusedVariables false
theorem grow_eq (n:Int) (h0:0≤n) (h:n≤4194304):impl_Value__nil.f n=some []:=by
  have w:wrap64 n=n:=wrap_id (by omega) (by omega)
  simp only[impl_Value__nil.f,w]
  rw[if_neg (by omega)]
  split
  · simp[h0];omega
  · rfl
theorem concat2_ev (a b:List S29) (ha:a.length≤1048576) (hb:b.length≤1048576):Ev (fun k=>impl_Value_117.f k [a,b]) (a++b):=by
  simp only[impl_Value_117.f]
  have L:(([a,b]:List (List S29)).length:Int)=2:=rfl
  have R0:rd_L5 [a,b] 0=a:=rfl
  have R1:rd_L5 [a,b] 1=b:=rfl
  have w1:wrap64 (0+(a.length:Int))=a.length:=by unfold wrap64;omega
  have w2:wrap64 ((a.length:Int)+(b.length:Int))=((a.length+b.length:Nat):Int):=by unfold wrap64;omega
  have u1:wrap64 ((0:Int)+1)=1:=by unfold wrap64;omega
  have u2:wrap64 ((1:Int)+1)=2:=by unfold wrap64;omega
  refine ev_shift ?_;simp only[impl_Value_117.l0,L,R0,w1,u1]
  refine ev_pos (by decide) (ev_pos (by decide) (ev_pos (by decide) (ev_neg (by omega) ?_)))
  refine ev_shift ?_;simp only[impl_Value_117.l0,L,R1,w2,u2]
  refine ev_pos (by decide) (ev_pos (by decide) (ev_pos (by decide) (ev_neg (by omega) ?_)))
  refine ev_shift ?_;simp only[impl_Value_117.l0,L]
  refine ev_neg (by decide) (ev_bindc (grow_eq _ (by omega) (by omega)) ?_)
  refine ev_shift ?_;simp only[impl_Value_117.l1,L,R0,u1,List.nil_append]
  refine ev_pos (by decide) (ev_pos (by decide) (ev_pos (by decide) (ev_pos (by simp;omega) ?_)))
  refine ev_shift ?_;simp only[impl_Value_117.l1,L,R1,u2]
  refine ev_pos (by decide) (ev_pos (by decide) (ev_pos (by decide) (ev_pos (by omega) ?_)))
  refine ev_shift ?_;simp only[impl_Value_117.l1,L]
  exact ev_neg (by decide) (ev_some _)
end Go.Proofs.Ytengilknjiobiaa.PureFnExactRefsOf
