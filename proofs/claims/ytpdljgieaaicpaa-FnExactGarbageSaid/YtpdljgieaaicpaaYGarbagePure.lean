/- Both functions list the garbage alike. -/
import Derived.Test.YtpdljgieaaicpaaYGarbageA
import Derived.Test.YtpdljgieaaicpaaYGarbageVReach
namespace Go.Proofs.Ytpdljgieaaicpaa.Pure
open Go.Proofs.Ytpdljgieaaicpaa.PureFnExactGarbage Go.RowKit Go.Proofs.YtpdljgieaaicpaaG Go.Proofs.Ytpdljgieaaicpaa.PFnExactGarbage Go.Proofs.YtpdljgieaaicpaaW.PrintWords Go.Proofs.YtpdljgieaaicpaaW.PrintLast Go.Proofs.YtpdljgieaaicpaaW.PrintMore
theorem small_of {l:List S64} (h:Fine l):smallO l:=by
  intro o ho
  have f:Fine o.f0∧Fine o.f1∧Fine o.f2∧Fine o.f3∧Fine o.f4∧Fine o.f5∧Fine o.f6:=h.mem ho
  exact⟨f.2.2.2.2.1.len,f.2.2.2.2.2.1.len⟩
def garb1 (l:List S64) (ids:List Int) (b:List Int) (i:Nat):List Int:=if idN l i∈ids then b else b++[idN l i]
def garbL (l:List S64) (ids:List Int):List Int:=(List.range' 0 l.length).foldl (garb1 l ids) []
theorem garb1_len (l:List S64) (ids b:List Int) (i:Nat):(garb1 l ids b i).length≤b.length+1:=by
  unfold garb1;split
  · omega
  · simp
theorem garb_s_ev (n:Int) (l:List S64) (hl:l.length≤1048576) (ids:List Int) (hi:ids.length≤1048576):Ev (fun k=>spec_Garbage.l0 k [] ids 0 n l) (garbL l ids):=by
  refine idx_foldI (g:=fun k b i=>spec_Garbage.l0 k b ids i n l) l.length _ (fun b i=>b.length≤i) ?_ ?_ ?_ [] (Nat.le_refl _)
  · intro b i hi hb
    have:=garb1_len l ids b i
    omega
  · intro b hb
    refine ev_shift ?_;simp only[spec_Garbage.l0]
    exact ev_neg (by omega) (ev_some _)
  · intro b i hil hb r hr
    refine ev_shift ?_;simp only[spec_Garbage.l0]
    rw[wrap_up (by omega) (show(i:Int)<(l.length:Int) by omega) (by omega)]
    refine ev_pos (by omega) (ev_pos (by omega) (ev_bind (has_ev ids hi _) ?_))
    unfold garb1 idN at hr
    by_cases hm:(rd_T64 l (i:Int)).f0∈ids
    · rw [if_pos hm] at hr
      exact ev_pos (decide_eq_true hm) hr
    · rw [if_neg hm] at hr
      exact ev_neg (fun h=>hm (of_decide_eq_true h)) (ev_pos (by omega) hr)
theorem garb_i_ev (l:List S64) (hl:l.length≤1048576) (ids:List Int) (hi:ids.length≤1048576):Ev (fun k=>impl_Garbage.l0 k [] ids l (l.length:Int) 0) (garbL l ids):=by
  refine idx_foldI (g:=fun k b i=>impl_Garbage.l0 k b ids l (l.length:Int) i) l.length _ (fun b i=>b.length≤i) ?_ ?_ ?_ [] (Nat.le_refl _)
  · intro b i hi hb
    have:=garb1_len l ids b i
    omega
  · intro b hb
    refine ev_shift ?_;simp only[impl_Garbage.l0]
    exact ev_neg (by omega) (ev_some _)
  · intro b i hil hb r hr
    refine ev_shift ?_;simp only[impl_Garbage.l0]
    rw[wrap_up (by omega) (show(i:Int)<(l.length:Int) by omega) (by omega)]
    refine ev_pos (by omega) (ev_pos (by omega) (ev_pos (by omega) (ev_bind (contains_int_ev ids hi _) ?_)))
    unfold garb1 idN at hr
    by_cases hm:(rd_T64 l (i:Int)).f0∈ids
    · rw [if_pos hm] at hr
      exact ev_pos (decide_eq_true hm) hr
    · rw [if_neg hm] at hr
      exact ev_neg (fun h=>hm (of_decide_eq_true h)) (ev_pos (by omega) hr)
theorem garb_fine {l:List S64} (gl:Fine l) (ids:List Int):Fine (garbL l ids):=by
  have h:=fold_inv (garb1 l ids) (fun b i=>b.length≤i∧∀x,x∈b→Fine x) l.length (fun b i hi hb=>by
    refine⟨by have:=garb1_len l ids b i;omega,fun x hx=>?_⟩
    unfold garb1 at hx
    split at hx
    · exact hb.2 x hx
    · rcases List.mem_append.1 hx with hx | hx
      · exact hb.2 x hx
      · rw [List.mem_singleton] at hx
        subst hx
        unfold idN
        rw[rd_ob l i hi]
        have f:Fine (l[i]).f0∧Fine (l[i]).f1∧Fine (l[i]).f2∧Fine (l[i]).f3∧Fine (l[i]).f4∧Fine (l[i]).f5∧Fine (l[i]).f6:=gl.mem (List.getElem_mem hi)
        exact f.1) [] ⟨Nat.le_refl _,fun x hx=>by cases hx⟩
  exact Fine.list (by have:=gl.len;have:=h.1;unfold garbL;omega) h.2
theorem core:laws_FnExactGarbage.Core:=by
  intro n l rs _ gl gr
  have hm:=small_of gl
  have hs:=spec_l08Valid_ev n l gl.len hm rs gr.len
  have hi:=impl_ValidRoots_ev n l gl.len hm rs gr.len
  simp only[spec_Garbage.f,impl_Garbage.f,Option.bind_some]
  cases hv:(heapV n l&&fitL l rs)with
  |false=>
    rw[hv]at hs hi
    exact⟨[],ev_bind hs (ev_neg Bool.false_ne_true (ev_some _)),ev_bind hi (ev_neg Bool.false_ne_true (ev_some _)),Fine.list (by simp) (fun x hx=>by cases hx)⟩
  |true=>
    rw[hv]at hs hi
    simp only[Bool.and_eq_true]at hv
    have hI:=trace_inv hv.1 hv.2
    have hil:=inv_len hI
    have h40:=forty hv.1
    have ts:=trace_s_ev gl.len hm hv.1 gr.len hv.2
    have ti:=trace_i_ev gl.len hm hv.1 gr.len hv.2
    exact⟨garbL l (traceL l rs),ev_bind hs (ev_pos rfl (ev_bind ts (garb_s_ev n l gl.len _ (by omega)))),ev_bind hi (ev_pos rfl (ev_bind ti (garb_i_ev l gl.len _ (by omega)))),garb_fine gl _⟩
theorem FnExactGarbage:laws_FnExactGarbage.Pure:=close core
end Go.Proofs.Ytpdljgieaaicpaa.Pure
