/- The program's NewIdOf returns what the reference's returns, for every heap, roots and Id; no condition. -/
import Derived.Test.YtengilknjiobiaaYNewIdOfA
import Derived.Test.YtengilknjiobiaaYNewIdOfVReach
namespace Go.Proofs.Ytengilknjiobiaa.Pure
open Go.Proofs.Ytengilknjiobiaa.PureFnExactNewIdOf Go.RowKit Go.Proofs.YtengilknjiobiaaG Go.Proofs.Ytengilknjiobiaa.PFnExactNewIdOf Go.Proofs.YtengilknjiobiaaW.PrintWords Go.Proofs.YtengilknjiobiaaW.PrintLast Go.Proofs.YtengilknjiobiaaW.PrintMore
theorem small_of {l:List S56} (h:Fine l):smallO l:=by
  intro o ho
  have f:Fine o.f0∧Fine o.f1∧Fine o.f2∧Fine o.f3∧Fine o.f4∧Fine o.f5∧Fine o.f6:=h.mem ho
  exact⟨f.2.2.2.2.1.len,f.2.2.2.2.2.1.len⟩
theorem new_ev (l:List Int) (hl:l.length≤1048576) (x:Int):Ev (fun k=>spec_l08New.f k l x) (idxI l x+1):=by
  simp only[spec_l08New.f]
  obtain⟨v,hv,hp⟩:=idx_find (g:=fun k i=>(spec_l08New.l0 k l x i).map (· - 1)) l.length (fun i=>decide (rd l (i:Int)=x)) (by
    refine ev_shift ?_;simp only[spec_l08New.l0]
    exact Ev.congr (fun k=>by rw[if_neg (by omega)];rfl) (ev_some _)) (by
    intro i hi hp r hr
    refine ev_shift ?_;simp only[spec_l08New.l0]
    rw[wrap_up (by omega) (show(i:Int)<(l.length:Int) by omega) (by omega)]
    exact Ev.congr (fun k=>by rw[if_pos (by omega),if_pos (by omega),if_neg (of_decide_eq_false hp)]) hr) (by
    intro i hi hp
    refine ev_shift ?_;simp only[spec_l08New.l0]
    rw[wrap_up (by omega) (show(i:Int)<(l.length:Int) by omega) (by omega)]
    exact Ev.congr (fun k=>by rw[if_pos (by omega),if_pos (by omega),if_pos (of_decide_eq_true hp)];simp) (ev_some _))
  rw[←idxI_of _ _ _ hp]
  obtain⟨K,hK⟩:=hv
  refine⟨K,fun k hk=>?_⟩
  have:=hK k hk
  dsimp only at this
  obtain⟨a,ha,hb⟩:=Option.map_eq_some_iff.1 this
  show spec_l08New.l0 k l x 0=some (v+1)
  rw[ha];congr 1;omega
theorem core:laws_FnExactNewIdOf.Core:=by
  intro n l roots x _ gl gr _
  have hm:=small_of gl
  have hs:=spec_l08Valid_ev n l gl.len hm roots gr.len
  have hi:=impl_ValidRoots_ev n l gl.len hm roots gr.len
  simp only[spec_NewIdOf.f,impl_NewIdOf.f,impl_Reachable.f]
  cases hv:(heapV n l&&fitL l roots)with
  |false=>
    rw[hv]at hs hi
    refine⟨0,ev_bind hs (ev_neg Bool.false_ne_true (ev_some _)),ev_bind (ev_bind hi (ev_neg Bool.false_ne_true (ev_some _))) (ev_bind (index_int_ev [] (by simp) x) ?_),(show-9223372036854775808≤(0:Int)∧(0:Int)≤9223372036854775807 by omega)⟩
    have e:wrap64 (idxI [] x+1)=0:=by show wrap64 (-1+1)=0;unfold wrap64;omega
    rw[e];exact ev_some _
  |true=>
    rw[hv]at hs hi
    simp only[Bool.and_eq_true]at hv
    have hin:=inv_len (trace_inv hv.1 hv.2)
    have hlen:=gl.len
    have hlt:=idxI_lt (traceL l roots) x
    refine⟨idxI (traceL l roots) x+1,ev_bind hs (ev_pos rfl (ev_bind (trace_s_ev gl.len hm hv.1 gr.len hv.2) (ev_bind (new_ev _ (by omega) x) (ev_some _)))),ev_bind (ev_bind hi (ev_pos rfl (ev_bind (trace_i_ev gl.len hm hv.1 gr.len hv.2) (ev_some _)))) (ev_bind (index_int_ev _ (by omega) x) ?_),(show-9223372036854775808≤idxI (traceL l roots) x+1∧idxI (traceL l roots) x+1≤9223372036854775807 by omega)⟩
    have e:wrap64 (idxI (traceL l roots) x+1)=idxI (traceL l roots) x+1:=by unfold wrap64;omega
    rw[e];exact ev_some _
theorem FnExactNewIdOf:laws_FnExactNewIdOf.Pure:=close core
end Go.Proofs.Ytengilknjiobiaa.Pure
