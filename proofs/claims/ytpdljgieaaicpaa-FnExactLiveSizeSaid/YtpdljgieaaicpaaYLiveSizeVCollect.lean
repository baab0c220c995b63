/- What the collecting of a heap comes to: both functions give the same objects with the same numbers. No condition. -/
import Derived.Test.YtpdljgieaaicpaaYLiveSizeVReach
import Derived.Test.YtpdljgieaaicpaaYLsP0
import Derived.Test.YtpdljgieaaicpaaYLsP15
import Derived.Test.YtpdljgieaaicpaaYLsP16
import Derived.Test.YtpdljgieaaicpaaYLsP28
import Derived.Test.YtpdljgieaaicpaaYLsP29
namespace Go.Proofs.Ytpdljgieaaicpaa.PureFnExactLiveSize
open Go.RowKit Go.Proofs.YtpdljgieaaicpaaG Go.Proofs.Ytpdljgieaaicpaa.PFnExactLiveSize Go.Proofs.YtpdljgieaaicpaaW.PrintWords Go.Proofs.YtpdljgieaaicpaaW.PrintLast Go.Proofs.YtpdljgieaaicpaaW.PrintMore
set_option linter.unusedSimpArgs false
set_option linter.unusedVariables false
theorem new_ev (l:List Int) (hl:l.length≤1048576) (x:Int):Ev (fun k=>spec_l08New.f k l x) (idxI l x+1):=by
  simp only[spec_l08New.f]
  obtain⟨v,hv,hp⟩:=idx_find (g:=fun k i=>(spec_l08New.l0 k l x i).map (· - 1)) l.length (fun i=>decide (rd l (i:Int)=x)) (by
    refine ev_shift ?_;simp only[spec_l08New.l0]
    exact Ev.congr (fun k=>by rw[if_neg (by omega)];rfl) (ev_some _)) (by
    intro i hi hp r hr
    refine ev_shift ?_;simp only[spec_l08New.l0]
    rw[wrap_up (by omega) (show(i:Int)<(l.length:Int) by omega) (by omega)]
    exact Ev.congr (fun k=>by rw[if_pos (by omega),if_pos (by omega),if_neg (of_decide_eq_false hp)]) hr) (by
    intro i hi hp
    refine ev_shift ?_;simp only[spec_l08New.l0]
    rw[wrap_up (by omega) (show(i:Int)<(l.length:Int) by omega) (by omega)]
    exact Ev.congr (fun k=>by rw[if_pos (by omega),if_pos (by omega),if_pos (of_decide_eq_true hp)];simp) (ev_some _))
  rw[←idxI_of _ _ _ hp]
  obtain⟨K,hK⟩:=hv
  refine⟨K,fun k hk=>?_⟩
  have:=hK k hk
  dsimp only at this
  obtain⟨a,ha,hb⟩:=Option.map_eq_some_iff.1 this
  show spec_l08New.l0 k l x 0=some (v+1)
  rw[ha];congr 1;omega
def moveV (ids:List Int) (v:S62):S62:=if refB v=true then⟨v.f0,v.f1,v.f2,idxI ids v.f3+1⟩else v
theorem move_ev (ids:List Int) (hl:ids.length≤1048576) (v:S62):Ev (fun k=>spec_l08Move.f k ids v.f0 v.f1 v.f2 v.f3) ((moveV ids v).f0,(moveV ids v).f1,(moveV ids v).f2,(moveV ids v).f3):=by
  simp only[spec_l08Move.f]
  refine ev_bindc (spec_isRef_eq _ _ _ _) ?_
  by_cases h:refB v=true
  · refine ev_pos h (ev_bind (new_ev ids hl _) ?_)
    simp only[moveV,if_pos h]
    exact ev_some _
  · refine ev_neg h ?_
    simp only[moveV,if_neg h]
    exact ev_some _
theorem take_succ_map (m:S62→S62) (l:List S62) (i:Nat) (hi:i<l.length):(l.take (i+1)).map m=(l.take i).map m++[m (rd_T62 l (i:Int))]:=by
  rw[List.take_succ_eq_append_getElem hi,List.map_append,rd_va l i hi];rfl
theorem moveAll_ev (ids:List Int) (hl:ids.length≤1048576) (l:List S62) (h:l.length≤1048576):Ev (fun k=>spec_l08MoveAll.f k ids l) (l.map (moveV ids)):=by
  simp only[spec_l08MoveAll.f]
  suffices hs:∀d i:Nat,i+d=l.length→Ev (fun k=>spec_l08MoveAll.l0 k ids l ((l.take i).map (moveV ids)) (i:Int)) (l.map (moveV ids)) by
    have:=hs l.length 0 (by omega)
    simpa using this
  intro d
  induction d with
  |zero=>
    intro i hi
    have e:l.take i=l:=List.take_of_length_le (by omega)
    refine ev_shift ?_;simp only[spec_l08MoveAll.l0]
    rw[e]
    exact ev_neg (by omega) (ev_some _)
  |succ d ih=>
    intro i hi
    refine ev_shift ?_;simp only[spec_l08MoveAll.l0]
    have hlen:((l.take i).map (moveV ids)).length=i:=by rw[List.length_map,List.length_take];omega
    refine ev_pos (by omega) (ev_pos (by omega) (ev_bind (move_ev ids hl (rd_T62 l (i:Int))) (ev_pos (by omega) ?_)))
    rw[wrap_up (by omega) (show(i:Int)<(l.length:Int) by omega) (by omega)]
    have:=ih (i+1) (by omega)
    rw[take_succ_map _ l i (by omega)]at this
    simpa using this
theorem renumbered_ev (ids:List Int) (hl:ids.length≤1048576) (l:List S62) (h:l.length≤1048576):Ev (fun k=>impl_renumbered.f k l ids) (l.map (moveV ids)):=by
  simp only[impl_renumbered.f]
  have hc:impl_Value_105.f l=some l:=by
    unfold impl_Value_105.f
    rw[if_pos (by omega)]
  refine ev_bindc hc ?_
  suffices hs:∀d i:Nat,i+d=l.length→Ev (fun k=>impl_renumbered.l0 k ((l.take i).map (moveV ids)++l.drop i) ids (i:Int)) (l.map (moveV ids)) by
    have:=hs l.length 0 (by omega)
    simpa using this
  intro d
  induction d with
  |zero=>
    intro i hi
    have e:l.take i=l:=List.take_of_length_le (by omega)
    have e2:l.drop i=[]:=List.drop_eq_nil_of_le (by omega)
    refine ev_shift ?_;simp only[impl_renumbered.l0]
    rw[e,e2,List.append_nil]
    exact ev_neg (by rw[List.length_map];omega) (ev_some _)
  |succ d ih=>
    intro i hi
    have hil:i<l.length:=by omega
    have hlen:((l.take i).map (moveV ids)).length=i:=by rw[List.length_map,List.length_take];omega
    have hX:((l.take i).map (moveV ids)++l.drop i).length=l.length:=by rw[List.length_append,hlen,List.length_drop];omega
    have hrd:rd_T62 ((l.take i).map (moveV ids)++l.drop i) (i:Int)=l[i]:=by
      rw[rd_va _ i (by omega)]
      rw[List.getElem_append_right (by omega)]
      simp only[hlen,List.getElem_drop]
      congr 1;omega
    have hset:∀y,((l.take i).map (moveV ids)++l.drop i).set i y=(l.take i).map (moveV ids)++y::l.drop (i+1):=by
      intro y
      rw[List.set_append_right _ _ (by omega),hlen,Nat.sub_self,List.drop_eq_getElem_cons hil,List.set_cons_zero]
    have hnext:=ih (i+1) (by omega)
    rw[take_succ_map _ l i hil,rd_va l i hil]at hnext
    refine ev_shift ?_;simp only[impl_renumbered.l0]
    rw[hrd]
    refine ev_pos (by omega) (ev_pos (by omega) (ev_bindc (impl_refers_eq _) ?_))
    rw[wrap_up (by omega) (show(i:Int)<(l.length:Int) by omega) (by omega),Int.toNat_natCast]
    by_cases hr:refB l[i]=true
    · have hlt := idxI_lt ids (l[i]).f3
      have e:wrap64 (idxI ids (l[i]).f3+1)=idxI ids (l[i]).f3+1:=by unfold wrap64;omega
      refine ev_pos hr (ev_bind (index_int_ev ids hl _) ?_)
      rw[hset,e]
      have em:moveV ids l[i]=⟨(l[i]).f0,(l[i]).f1,(l[i]).f2,idxI ids (l[i]).f3+1⟩:=by unfold moveV;rw[if_pos hr]
      rw[em]at hnext
      simpa using hnext
    · refine ev_neg hr ?_
      have em:moveV ids l[i]=l[i]:=by unfold moveV;rw[if_neg hr]
      rw[em]at hnext
      have ed:l.drop i=l[i]::l.drop (i+1):=List.drop_eq_getElem_cons hil
      rw[ed]
      simpa using hnext
def colO (l:List S64) (ids:List Int) (k:Nat):S64:=
  let o:=rd_T64 l (findI l (rd ids (k:Int)))
  ⟨(k:Int)+1,o.f1,o.f2,o.f3,o.f4.map (moveV ids),o.f5.map (moveV ids),moveV ids o.f6⟩
def colL (l:List S64) (ids:List Int) (n:Nat):List S64:=(List.range n).map (colO l ids)
theorem colL_succ (l:List S64) (ids:List Int) (n:Nat):colL l ids (n+1)=colL l ids n++[colO l ids n]:=by
  unfold colL;rw[List.range_succ,List.map_append];rfl
theorem colL_len (l:List S64) (ids:List Int) (n:Nat):(colL l ids n).length=n:=by simp[colL]
theorem collect_s_ev {n:Int} {l:List S64} (hl:l.length≤1048576) (hm:smallO l) (hv:heapV n l=true) {roots:List S62} (hr:roots.length≤1048576) (hf:fitL l roots=true):
    Ev (fun k=>spec_l08Collect.f k [(⟨n,l⟩:S32)] roots) (((traceL l roots).length:Int),colL l (traceL l roots) (traceL l roots).length,roots.map (moveV (traceL l roots))):=by
  simp only[spec_l08Collect.f]
  refine ev_bind (trace_s_ev hl hm hv hr hf) ?_
  have hI:=trace_inv hv hf
  obtain⟨ids,hids⟩:∃ids,traceL l roots=ids:=⟨_,rfl⟩
  rw[hids]at hI ⊢
  have hil:=inv_len hI
  have h40:=forty hv
  suffices hs:∀d i:Nat,i+d=ids.length→Ev (fun k=>spec_l08Collect.l0 k [(⟨n,l⟩:S32)] roots ids (i:Int) (ids.length:Int) (colL l ids i)) ((ids.length:Int),colL l ids ids.length,roots.map (moveV ids)) by
    exact hs ids.length 0 (by omega)
  intro d
  induction d with
  |zero=>
    intro i hi
    have e:i=ids.length:=by omega
    subst e
    refine ev_shift ?_;simp only[spec_l08Collect.l0]
    exact ev_neg (by omega) (ev_bind (moveAll_ev ids (by omega) roots hr) (ev_some _))
  |succ d ih=>
    intro i hi
    obtain⟨j,hj,hjl⟩:=found hI i (by omega)
    have hfe:=spec_l07Find_ev ⟨n,l⟩ hl (rd ids (i:Int))
    dsimp only at hfe
    rw[hj]at hfe
    have hsm:=small_rd hm j hjl
    have hcl:=colL_len l ids i
    refine ev_shift ?_;simp only[spec_l08Collect.l0]
    refine ev_pos (by omega) (ev_pos (one_lt _) (ev_pos (by omega) (ev_bind hfe (ev_pos (by omega) (ev_pos (by rw[rd_heap];show(j:Int)<(l.length:Int);omega) ?_)))))
    rw[rd_heap]
    dsimp only
    refine ev_bind (moveAll_ev ids (by omega) _ hsm.1) (ev_bind (moveAll_ev ids (by omega) _ hsm.2) (ev_bind (move_ev ids (by omega) _) (ev_pos (by omega) ?_)))
    rw[wrap_up (by omega) (show(i:Int)<(ids.length:Int) by omega) (by omega)]
    have:=ih (i+1) (by omega)
    rw[colL_succ]at this
    simp only[colO,hj]at this
    simpa using this
theorem collect_i_ev {n:Int} {l:List S64} (hl:l.length≤1048576) (hm:smallO l) (hv:heapV n l=true) {roots:List S62} (hr:roots.length≤1048576) (hf:fitL l roots=true):
    Ev (fun k=>impl_Heap_collect.f k n l roots) (((traceL l roots).length:Int),colL l (traceL l roots) (traceL l roots).length,roots.map (moveV (traceL l roots))):=by
  simp only[impl_Heap_collect.f]
  refine ev_bind (trace_i_ev hl hm hv hr hf) ?_
  have hI:=trace_inv hv hf
  obtain⟨ids,hids⟩:∃ids,traceL l roots=ids:=⟨_,rfl⟩
  rw[hids]at hI ⊢
  have hil:=inv_len hI
  have h40:=forty hv
  suffices hs:∀d i:Nat,i+d=ids.length→Ev (fun k=>impl_Heap_collect.l0 k roots ids ids (ids.length:Int) (i:Int) n l (ids.length:Int) (colL l ids i)) ((ids.length:Int),colL l ids ids.length,roots.map (moveV ids)) by
    exact hs ids.length 0 (by omega)
  intro d
  induction d with
  |zero=>
    intro i hi
    have e:i=ids.length:=by omega
    subst e
    refine ev_shift ?_;simp only[impl_Heap_collect.l0]
    exact ev_neg (by omega) (ev_bind (renumbered_ev ids (by omega) roots hr) (ev_some _))
  |succ d ih=>
    intro i hi
    obtain⟨j,hj,hjl⟩:=found hI i (by omega)
    have hfe:=impl_find_ev n l hl (rise_heap hv) (rd ids (i:Int))
    rw[hj]at hfe
    have hsm:=small_rd hm j hjl
    have hcl:=colL_len l ids i
    refine ev_shift ?_;simp only[impl_Heap_collect.l0]
    refine ev_pos (by omega) (ev_pos (by omega) (ev_pos (by omega) (ev_bind hfe (ev_pos (by omega) (ev_pos (by omega) ?_)))))
    refine ev_bind (renumbered_ev ids (by omega) _ hsm.1) (ev_bind (renumbered_ev ids (by omega) _ hsm.2) (ev_bind (renumbered_ev ids (by omega) _ (by simp)) (ev_pos (by simp) (ev_pos (by omega) ?_))))
    rw[wrap_up (by omega) (show(i:Int)<(ids.length:Int) by omega) (by omega)]
    have:=ih (i+1) (by omega)
    rw[colL_succ]at this
    simp only[colO,hj]at this
    exact this
theorem col_small {l:List S64} (hm:smallO l) {ids:List Int} (hI:InvT l ids):smallO (colL l ids ids.length):=by
  intro o ho
  unfold colL at ho
  obtain⟨k,hk,rfl⟩:=List.mem_map.1 ho
  have hk:=List.mem_range.1 hk
  obtain⟨j,hj,hjl⟩:=found hI k hk
  have:=small_rd hm j hjl
  simp only[colO,hj,List.length_map]
  exact this
end Go.Proofs.Ytpdljgieaaicpaa.PureFnExactLiveSize
