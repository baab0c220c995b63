/- LiveSize: the size of the collected heap, which is valid. No condition. -/
import Derived.Test.YtpdljgieaaicpaaYLiveSizeA
import Derived.Test.YtpdljgieaaicpaaYLiveSizeVCollectValid
namespace Go.Proofs.Ytpdljgieaaicpaa.Pure
open Go.Proofs.Ytpdljgieaaicpaa.PureFnExactLiveSize Go.RowKit Go.Proofs.YtpdljgieaaicpaaG Go.Proofs.Ytpdljgieaaicpaa.PFnExactLiveSize Go.Proofs.YtpdljgieaaicpaaW.PrintWords Go.Proofs.YtpdljgieaaicpaaW.PrintLast Go.Proofs.YtpdljgieaaicpaaW.PrintMore
theorem small_of {l:List S64} (h:Fine l):smallO l:=by
  intro o ho
  have f:Fine o.f0∧Fine o.f1∧Fine o.f2∧Fine o.f3∧Fine o.f4∧Fine o.f5∧Fine o.f6:=h.mem ho
  exact⟨f.2.2.2.2.1.len,f.2.2.2.2.2.1.len⟩
theorem core:laws_FnExactLiveSize.Core:=by
  intro n l rs _ gl gr
  have hm:=small_of gl
  have hs:=spec_l08Valid_ev n l gl.len hm rs gr.len
  have hi:=impl_ValidRoots_ev n l gl.len hm rs gr.len
  simp only[spec_LiveSize.f,impl_LiveSize.f]
  cases hv:(heapV n l&&fitL l rs)with
  |false=>
    rw[hv]at hs hi
    exact⟨-1,ev_bind hs (ev_neg Bool.false_ne_true (ev_some _)),ev_bind hi (ev_neg Bool.false_ne_true (ev_some _)),show _∧_ by decide⟩
  |true=>
    rw[hv]at hs hi
    simp only[Bool.and_eq_true]at hv
    have hI:=trace_inv hv.1 hv.2
    have h40:=forty hv.1
    have hil:=inv_len hI
    have cs:=collect_s_ev gl.len hm hv.1 gr.len hv.2
    have ci:=collect_i_ev gl.len hm hv.1 gr.len hv.2
    have sm:=col_small hm hI
    have hcl:=colL_len l (traceL l rs) (traceL l rs).length
    have hval:=col_valid hv.1 hv.2
    have hle:(colL l (traceL l rs) (traceL l rs).length).length≤1048576:=by omega
    have s1:=spec_l07Size_ev ⟨((traceL l rs).length:Int),colL l (traceL l rs) (traceL l rs).length⟩ hle
    have s2:=impl_size_ev (colL l (traceL l rs) (traceL l rs).length) hle
    have hvh:=impl_ValidHeap_ev ((traceL l rs).length:Int) (colL l (traceL l rs) (traceL l rs).length) hle sm
    rw[hval]at hvh
    refine⟨sumH (colL l (traceL l rs) (traceL l rs).length),ev_bind hs (ev_pos rfl (ev_bind cs (ev_bind s1 (ev_some _)))),ev_bind hi (ev_pos rfl (ev_bind ci (ev_bind (r:=sumH (colL l (traceL l rs) (traceL l rs).length)) ?_ (ev_some _)))),sum_fine _⟩
    simp only[impl_HeapSize.f]
    exact ev_bind hvh (ev_pos rfl s2)
theorem FnExactLiveSize:laws_FnExactLiveSize.Pure:=close core
end Go.Proofs.Ytpdljgieaaicpaa.Pure
