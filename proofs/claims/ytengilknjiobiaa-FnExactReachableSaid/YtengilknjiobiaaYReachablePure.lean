/- Reachable: both functions trace alike. No condition. -/
import Derived.Test.YtengilknjiobiaaYReachableA
import Derived.Test.YtengilknjiobiaaYReachableVReach
namespace Go.Proofs.Ytengilknjiobiaa.Pure
open Go.Proofs.Ytengilknjiobiaa.PureFnExactReachable Go.RowKit Go.Proofs.YtengilknjiobiaaG Go.Proofs.Ytengilknjiobiaa.PFnExactReachable Go.Proofs.YtengilknjiobiaaW.PrintWords Go.Proofs.YtengilknjiobiaaW.PrintLast Go.Proofs.YtengilknjiobiaaW.PrintMore
theorem small_of {l:List S56} (h:Fine l):smallO l:=by
  intro o ho
  have f:Fine o.f0∧Fine o.f1∧Fine o.f2∧Fine o.f3∧Fine o.f4∧Fine o.f5∧Fine o.f6:=h.mem ho
  exact⟨f.2.2.2.2.1.len,f.2.2.2.2.2.1.len⟩
theorem ids_fine {l:List S56} (gl:Fine l) {ids:List Int} (hI:InvT l ids):Fine ids:=by
  refine Fine.list (by have:=gl.len;have:=inv_len hI;omega) (fun x hx=>?_)
  have h0:=hI.2 x hx
  have hlt:=findI_lt l x
  have hid:=findI_id l x h0
  obtain⟨i,hi⟩:∃i:Nat,findI l x=i:=⟨(findI l x).toNat,by omega⟩
  rw[hi]at hid hlt
  have hil:i<l.length:=by omega
  rw[rd_ob l i hil]at hid
  have f:Fine (l[i]).f0∧Fine (l[i]).f1∧Fine (l[i]).f2∧Fine (l[i]).f3∧Fine (l[i]).f4∧Fine (l[i]).f5∧Fine (l[i]).f6:=gl.mem (List.getElem_mem hil)
  rw[←hid];exact f.1
theorem core:laws_FnExactReachable.Core:=by
  intro n l rs _ gl gr
  have hm:=small_of gl
  have hs:=spec_l08Valid_ev n l gl.len hm rs gr.len
  have hi:=impl_ValidRoots_ev n l gl.len hm rs gr.len
  simp only[spec_Reachable.f,impl_Reachable.f]
  cases hv:(heapV n l&&fitL l rs)with
  |false=>
    rw[hv]at hs hi
    exact⟨[],ev_bind hs (ev_neg Bool.false_ne_true (ev_some _)),ev_bind hi (ev_neg Bool.false_ne_true (ev_some _)),Fine.list (by simp) (fun x hx=>by cases hx)⟩
  |true=>
    rw[hv]at hs hi
    simp only[Bool.and_eq_true]at hv
    have hI:=trace_inv hv.1 hv.2
    have ts:=trace_s_ev gl.len hm hv.1 gr.len hv.2
    have ti:=trace_i_ev gl.len hm hv.1 gr.len hv.2
    exact⟨traceL l rs,ev_bind hs (ev_pos rfl (ev_bind ts (ev_some _))),ev_bind hi (ev_pos rfl (ev_bind ti (ev_some _))),ids_fine gl hI⟩
theorem FnExactReachable:laws_FnExactReachable.Pure:=close core
end Go.Proofs.Ytengilknjiobiaa.Pure
