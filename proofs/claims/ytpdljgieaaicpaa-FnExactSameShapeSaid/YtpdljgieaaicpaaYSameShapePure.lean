/- SameShape: both functions collect both heaps and compare them. No condition. -/
import Derived.Test.YtpdljgieaaicpaaYSameShapeA
import Derived.Test.YtpdljgieaaicpaaYSameShapeVCollect
namespace Go.Proofs.Ytpdljgieaaicpaa.Pure
open Go.Proofs.Ytpdljgieaaicpaa.PureFnExactSameShape Go.RowKit Go.Proofs.YtpdljgieaaicpaaG Go.Proofs.Ytpdljgieaaicpaa.PFnExactLiveSize Go.Proofs.YtpdljgieaaicpaaW.PrintWords Go.Proofs.YtpdljgieaaicpaaW.PrintLast Go.Proofs.YtpdljgieaaicpaaW.PrintMore
def difV4 (x y:S62):Bool:= !(x.f0==y.f0)||(!(x.f1==y.f1)||(!(x.f2.toList==y.f2.toList)|| !(x.f3==y.f3)))
def sameVs (l m:List S62):Bool:=decide (l.length=m.length)&&allN l.length (fun i=> !difV4 (rd_T62 l (i:Int)) (rd_T62 m (i:Int)))
theorem vals1 (l m:List S62) (hl:l.length≤1048576):Ev (fun k=>spec_l07SameValues.f k l m) (sameVs l m):=by
  simp only[spec_l07SameValues.f,sameVs]
  by_cases h:l.length=m.length
  · refine ev_pos (by omega) ?_
    rw[decide_eq_true h,Bool.true_and]
    refine idx_all (g:=fun k i=>spec_l07SameValues.l0 k l m i) l.length (fun i=> !difV4 (rd_T62 l (i:Int)) (rd_T62 m (i:Int))) ?_ ?_ ?_
    · refine ev_shift ?_;simp only[spec_l07SameValues.l0];exact ev_neg (by omega) (ev_some _)
    · intro i hi hp r hr
      refine ev_shift ?_;simp only[spec_l07SameValues.l0]
      refine ev_pos (by omega) (ev_pos (by omega) (ev_pos (by omega) (ev_neg (not_tt hp) ?_)))
      rw[wrap_up (by omega) (show(i:Int)<(l.length:Int) by omega) (by omega)];exact hr
    · intro i hi hp
      refine ev_shift ?_;simp only[spec_l07SameValues.l0]
      exact ev_pos (by omega) (ev_pos (by omega) (ev_pos (by omega) (ev_pos (not_ff hp) (ev_some _))))
  · refine ev_neg (by omega) ?_
    rw[decide_eq_false h];exact ev_some _
theorem vals2 (l m:List S62) (hl:l.length≤1048576):Ev (fun k=>impl_Value_60.f k l m) (sameVs l m):=by
  simp only[impl_Value_60.f,sameVs]
  by_cases h:l.length=m.length
  · refine ev_pos (by omega) ?_
    rw[decide_eq_true h,Bool.true_and]
    refine idx_all (g:=fun k i=>impl_Value_60.l0 k l m (l.length:Int) i) l.length (fun i=> !difV4 (rd_T62 l (i:Int)) (rd_T62 m (i:Int))) ?_ ?_ ?_
    · refine ev_shift ?_;simp only[impl_Value_60.l0];exact ev_neg (by omega) (ev_some _)
    · intro i hi hp r hr
      refine ev_shift ?_;simp only[impl_Value_60.l0]
      refine ev_pos (by omega) (ev_pos (by omega) (ev_pos (by omega) (ev_pos (by omega) (ev_neg (not_tt hp) ?_))))
      rw[wrap_up (by omega) (show(i:Int)<(l.length:Int) by omega) (by omega)];exact hr
    · intro i hi hp
      refine ev_shift ?_;simp only[impl_Value_60.l0]
      exact ev_pos (by omega) (ev_pos (by omega) (ev_pos (by omega) (ev_pos (by omega) (ev_pos (not_ff hp) (ev_some _)))))
  · refine ev_neg (by omega) ?_
    rw[decide_eq_false h];exact ev_some _
def sameOb (x y:S64):Bool:=decide (x.f0=y.f0)&&(decide (x.f1=y.f1)&&(decide (x.f2.toList=y.f2.toList)&&(decide (x.f3=y.f3)&&(sameVs x.f4 y.f4&&(sameVs x.f5 y.f5&&(x.f6.f0==y.f6.f0&&(x.f6.f1==y.f6.f1&&(x.f6.f2.toList==y.f6.f2.toList&&x.f6.f3==y.f6.f3))))))))
theorem ob_ev (F:Nat→List S62→List S62→Option Bool) (hF:∀l m,l.length≤1048576→Ev (fun k=>F k l m) (sameVs l m)) (x y:S64) (h4:x.f4.length≤1048576) (h5:x.f5.length≤1048576):
    Ev (fun k=>if x.f0=y.f0 then(if x.f1=y.f1 then(if x.f2.toList=y.f2.toList then(if x.f3=y.f3 then((F k x.f4 y.f4).bind fun t=>if t=true then((F k x.f5 y.f5).bind fun t=>if t=true then some (x.f6.f0==y.f6.f0&&(x.f6.f1==y.f6.f1&&(x.f6.f2.toList==y.f6.f2.toList&&x.f6.f3==y.f6.f3)))else some false)else some false)else some false)else some false)else some false)else some false) (sameOb x y):=by
  unfold sameOb
  by_cases h0:x.f0=y.f0
  · refine ev_pos h0 ?_
    rw[decide_eq_true h0,Bool.true_and]
    by_cases h1:x.f1=y.f1
    · refine ev_pos h1 ?_
      rw[decide_eq_true h1,Bool.true_and]
      by_cases h2:x.f2.toList=y.f2.toList
      · refine ev_pos h2 ?_
        rw[decide_eq_true h2,Bool.true_and]
        by_cases h3:x.f3=y.f3
        · refine ev_pos h3 ?_
          rw[decide_eq_true h3,Bool.true_and]
          refine ev_bind (hF _ _ h4) ?_
          cases sameVs x.f4 y.f4 with
          |false=>exact ev_neg Bool.false_ne_true (ev_some _)
          |true=>
            refine ev_pos rfl (ev_bind (hF _ _ h5) ?_)
            cases sameVs x.f5 y.f5 with
            |false=>exact ev_neg Bool.false_ne_true (ev_some _)
            |true=>exact ev_pos rfl (ev_some _)
        · rw[decide_eq_false h3];exact ev_neg h3 (ev_some _)
      · rw[decide_eq_false h2];exact ev_neg h2 (ev_some _)
    · rw[decide_eq_false h1];exact ev_neg h1 (ev_some _)
  · rw[decide_eq_false h0];exact ev_neg h0 (ev_some _)
theorem ob1 (x y:S64) (h4:x.f4.length≤1048576) (h5:x.f5.length≤1048576):Ev (fun k=>spec_l07SameObject.f k x.f0 x.f1 x.f2 x.f3 x.f4 x.f5 x.f6.f0 x.f6.f1 x.f6.f2 x.f6.f3 y.f0 y.f1 y.f2 y.f3 y.f4 y.f5 y.f6.f0 y.f6.f1 y.f6.f2 y.f6.f3) (sameOb x y):=by
  simp only[spec_l07SameObject.f]
  exact ob_ev spec_l07SameValues.f vals1 x y h4 h5
theorem ob2 (x y:S64) (h4:x.f4.length≤1048576) (h5:x.f5.length≤1048576):Ev (fun k=>impl_sameObject.f k x.f0 x.f1 x.f2 x.f3 x.f4 x.f5 x.f6.f0 x.f6.f1 x.f6.f2 x.f6.f3 y.f0 y.f1 y.f2 y.f3 y.f4 y.f5 y.f6.f0 y.f6.f1 y.f6.f2 y.f6.f3) (sameOb x y):=by
  simp only[impl_sameObject.f]
  exact ob_ev impl_Value_60.f vals2 x y h4 h5
def sameObs (l m:List S64):Bool:=allN l.length (fun i=>sameOb (rd_T64 l (i:Int)) (rd_T64 m (i:Int)))
theorem rdH (h:S32):rd_T32 [h] 0=h:=rfl
theorem oneH {α:Type} (x:α):(0:Int)<(([x]:List α).length:Int):=by simp
def sameHp (n:Int) (l:List S64) (n':Int) (l':List S64):Bool:=decide (n=n')&&(decide (l.length=l'.length)&&sameObs l l')
theorem hp1 (n:Int) (l:List S64) (n':Int) (m:List S64) (hl:l.length≤1048576) (hm:smallO l):Ev (fun k=>spec_l07Same.f k [(⟨n,l⟩:S32)] [(⟨n',m⟩:S32)]) (sameHp n l n' m):=by
  simp only[spec_l07Same.f,sameHp]
  have bad:Ev (fun k=>spec_l07Same.j0 k [(⟨n,l⟩:S32)] [(⟨n',m⟩:S32)] true) false:=by
    refine ev_shift ?_
    simp only[spec_l07Same.j0]
    exact ev_pos trivial (ev_some _)
  refine ev_pos (oneH _) (ev_pos (oneH _) ?_)
  simp only[rdH]
  by_cases h0:n=n'
  · refine ev_pos h0 ?_
    rw[decide_eq_true h0,Bool.true_and]
    by_cases h:l.length=m.length
    · rw [decide_eq_true h, Bool.true_and]
      refine ev_shift ?_
      simp only[spec_l07Same.j0]
      refine ev_neg (by rw[h];exact bne_ff _) ?_
      refine idx_all (g:=fun k i=>spec_l07Same.l0 k [(⟨n,l⟩:S32)] [(⟨n',m⟩:S32)] i) l.length (fun i=>sameOb (rd_T64 l (i:Int)) (rd_T64 m (i:Int))) ?_ ?_ ?_
      · refine ev_shift ?_;simp only[spec_l07Same.l0,rdH];exact ev_pos (oneH _) (ev_neg (by omega) (ev_some _))
      · intro i hi hp r hr
        refine ev_shift ?_;simp only[spec_l07Same.l0,rdH]
        refine ev_pos (oneH _) (ev_pos (by omega) (ev_pos (by omega) (ev_pos (oneH _) (ev_pos (by omega) (ev_bind (ob1 _ _ (small_rd hm i hi).1 (small_rd hm i hi).2) (ev_pos hp ?_))))))
        rw[wrap_up (by omega) (show(i:Int)<(l.length:Int) by omega) (by omega)];exact hr
      · intro i hi hp
        refine ev_shift ?_;simp only[spec_l07Same.l0,rdH]
        exact ev_pos (oneH _) (ev_pos (by omega) (ev_pos (by omega) (ev_pos (oneH _) (ev_pos (by omega) (ev_bind (ob1 _ _ (small_rd hm i hi).1 (small_rd hm i hi).2) (ev_neg (by rw[hp];decide) (ev_some _)))))))
    · rw [decide_eq_false h, show ((l.length : Int) != (m.length : Int)) = true from bne_iff_ne.2 (by omega)]
      exact bad
  · rw [decide_eq_false h0]
    exact ev_neg h0 bad
theorem hp2a (l m:List S64) (hl:l.length≤1048576) (hm:smallO l):Ev (fun k=>impl_Object__impl_sameObject.f k l m) (decide (l.length=m.length)&&sameObs l m):=by
  simp only[impl_Object__impl_sameObject.f]
  by_cases h:l.length=m.length
  · refine ev_pos (by omega) ?_
    rw[decide_eq_true h,Bool.true_and]
    refine idx_all (g:=fun k i=>impl_Object__impl_sameObject.l0 k m l (l.length:Int) i) l.length (fun i=>sameOb (rd_T64 l (i:Int)) (rd_T64 m (i:Int))) ?_ ?_ ?_
    · refine ev_shift ?_;simp only[impl_Object__impl_sameObject.l0];exact ev_neg (by omega) (ev_some _)
    · intro i hi hp r hr
      refine ev_shift ?_;simp only[impl_Object__impl_sameObject.l0]
      refine ev_pos (by omega) (ev_pos (by omega) (ev_pos (by omega) (ev_pos (by omega) (ev_bind (ob2 _ _ (small_rd hm i hi).1 (small_rd hm i hi).2) (ev_pos hp ?_)))))
      rw[wrap_up (by omega) (show(i:Int)<(l.length:Int) by omega) (by omega)];exact hr
    · intro i hi hp
      refine ev_shift ?_;simp only[impl_Object__impl_sameObject.l0]
      exact ev_pos (by omega) (ev_pos (by omega) (ev_pos (by omega) (ev_pos (by omega) (ev_bind (ob2 _ _ (small_rd hm i hi).1 (small_rd hm i hi).2) (ev_neg (by rw[hp];decide) (ev_some _))))))
  · refine ev_neg (by omega) ?_
    rw[decide_eq_false h];exact ev_some _
theorem hp2 (n:Int) (l:List S64) (n':Int) (m:List S64) (hl:l.length≤1048576) (hm:smallO l):Ev (fun k=>impl_SameHeap.f k n l n' m) (sameHp n l n' m):=by
  simp only[impl_SameHeap.f,sameHp]
  by_cases h0:n=n'
  · refine ev_pos h0 (ev_bind (hp2a l m hl hm) ?_)
    rw[decide_eq_true h0,Bool.true_and];exact ev_some _
  · rw [decide_eq_false h0]
    exact ev_neg h0 (ev_some _)
theorem small_of {l:List S64} (h:Fine l):smallO l:=by
  intro o ho
  have f:Fine o.f0∧Fine o.f1∧Fine o.f2∧Fine o.f3∧Fine o.f4∧Fine o.f5∧Fine o.f6:=h.mem ho
  exact⟨f.2.2.2.2.1.len,f.2.2.2.2.2.1.len⟩
theorem core:laws_FnExactSameShape.Core:=by
  intro n l rs n' l' rs' _ gl gr _ gl' gr'
  have hm:=small_of gl
  have hm':=small_of gl'
  have hs:=spec_l08Valid_ev n l gl.len hm rs gr.len
  have hi:=impl_ValidRoots_ev n l gl.len hm rs gr.len
  have hs':=spec_l08Valid_ev n' l' gl'.len hm' rs' gr'.len
  have hi':=impl_ValidRoots_ev n' l' gl'.len hm' rs' gr'.len
  have bs:Ev (fun k=>spec_SameShape.j0 k rs rs' true n l n' l') false:=by
    refine ev_shift ?_;simp only[spec_SameShape.j0]
    exact ev_pos trivial (ev_some _)
  have bi:Ev (fun k=>impl_SameShape.j0 k rs rs' true n l n' l') false:=by
    refine ev_shift ?_;simp only[impl_SameShape.j0]
    exact ev_pos trivial (ev_some _)
  simp only[spec_SameShape.f,impl_SameShape.f]
  cases hv:(heapV n l&&fitL l rs)with
  |false=>
    rw[hv]at hs hi
    exact⟨false,ev_bind hs (ev_neg Bool.false_ne_true bs),ev_bind hi (ev_neg Bool.false_ne_true bi),Fine.bool _⟩
  |true=>
    rw[hv]at hs hi
    simp only[Bool.and_eq_true]at hv
    cases hv':(heapV n' l'&&fitL l' rs')with
    |false=>
      rw[hv']at hs' hi'
      exact⟨false,ev_bind hs (ev_pos rfl (ev_bind hs' bs)),ev_bind hi (ev_pos rfl (ev_bind hi' bi)),Fine.bool _⟩
    |true=>
      rw[hv']at hs' hi'
      simp only[Bool.and_eq_true]at hv'
      have hI:=trace_inv hv.1 hv.2
      have h40:=forty hv.1
      have hil:=inv_len hI
      have cs:=collect_s_ev gl.len hm hv.1 gr.len hv.2
      have ci:=collect_i_ev gl.len hm hv.1 gr.len hv.2
      have cs':=collect_s_ev gl'.len hm' hv'.1 gr'.len hv'.2
      have ci':=collect_i_ev gl'.len hm' hv'.1 gr'.len hv'.2
      have sm:=col_small hm hI
      have hcl:=colL_len l (traceL l rs) (traceL l rs).length
      have hrl:(rs.map (moveV (traceL l rs))).length≤1048576:=by rw[List.length_map];exact gr.len
      have p1:=hp1 ((traceL l rs).length:Int) (colL l (traceL l rs) (traceL l rs).length) ((traceL l' rs').length:Int) (colL l' (traceL l' rs') (traceL l' rs').length) (by omega) sm
      have p2:=hp2 ((traceL l rs).length:Int) (colL l (traceL l rs) (traceL l rs).length) ((traceL l' rs').length:Int) (colL l' (traceL l' rs') (traceL l' rs').length) (by omega) sm
      have v1:=vals1 (rs.map (moveV (traceL l rs))) (rs'.map (moveV (traceL l' rs'))) hrl
      have v2:=vals2 (rs.map (moveV (traceL l rs))) (rs'.map (moveV (traceL l' rs'))) hrl
      refine⟨sameHp ((traceL l rs).length:Int) (colL l (traceL l rs) (traceL l rs).length) ((traceL l' rs').length:Int) (colL l' (traceL l' rs') (traceL l' rs').length)&&sameVs (rs.map (moveV (traceL l rs))) (rs'.map (moveV (traceL l' rs'))),ev_bind hs (ev_pos rfl (ev_bind hs' (ev_shift ?_))),ev_bind hi (ev_pos rfl (ev_bind hi' (ev_shift ?_))),Fine.bool _⟩
      · simp only [spec_SameShape.j0]
        refine ev_neg (by decide) (ev_bind cs (ev_bind cs' (ev_bind p1 ?_)))
        cases sameHp ((traceL l rs).length:Int) (colL l (traceL l rs) (traceL l rs).length) ((traceL l' rs').length:Int) (colL l' (traceL l' rs') (traceL l' rs').length)with
        |false=>exact ev_neg Bool.false_ne_true (ev_some _)
        |true=>exact ev_pos rfl (ev_bind v1 (by simpa using ev_some _))
      · simp only [impl_SameShape.j0]
        refine ev_neg (by decide) (ev_bind ci (ev_bind ci' (ev_bind p2 ?_)))
        cases sameHp ((traceL l rs).length:Int) (colL l (traceL l rs) (traceL l rs).length) ((traceL l' rs').length:Int) (colL l' (traceL l' rs') (traceL l' rs').length)with
        |false=>exact ev_neg Bool.false_ne_true (ev_some _)
        |true=>exact ev_pos rfl (ev_bind v2 (by simpa using ev_some _))
theorem FnExactSameShape:laws_FnExactSameShape.Pure:=close core
end Go.Proofs.Ytpdljgieaaicpaa.Pure
