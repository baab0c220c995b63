/- The program's SameMemory returns what the reference's returns, for every two memories: both compare the heaps, the scopes and the consoles part by part; no condition. -/
import Derived.Test.YtnneadpahjkhgaaYSameMemoryA
import Derived.Test.YtnneadpahjkhgaaYSameMemoryVLists
namespace Go.Proofs.Ytnneadpahjkhgaa.Pure
open Go.Proofs.Ytnneadpahjkhgaa.PureFnExactSameMemory Go.RowKit Go.Proofs.YtnneadpahjkhgaaG Go.Proofs.Ytnneadpahjkhgaa.PFnExactSameMemory Go.Proofs.YtnneadpahjkhgaaW.PrintWords Go.Proofs.YtnneadpahjkhgaaW.PrintLast Go.Proofs.YtnneadpahjkhgaaW.PrintMore
set_option linter.unusedVariables false
set_option linter.unusedSimpArgs false
def difB (x y:S116):Bool:= !(x.f0.toList==y.f0.toList)||(!(x.f1.f0==y.f1.f0)||(!(x.f1.f1==y.f1.f1)||(!(x.f1.f2.toList==y.f1.f2.toList)|| !(x.f1.f3==y.f1.f3))))
def sameB (l m:List S116):Bool:=decide (l.length=m.length)&&allN l.length (fun i=> !difB (rd_T116 l (i:Int)) (rd_T116 m (i:Int)))
theorem bind1 (l m:List S116) (hl:l.length≤1048576):Ev (fun k=>spec_l18SameBindings.f k l m) (sameB l m):=by
  simp only[spec_l18SameBindings.f,sameB]
  by_cases h:l.length=m.length
  · refine ev_pos (by omega) ?_
    rw[decide_eq_true h,Bool.true_and]
    refine idx_all (g:=fun k i=>spec_l18SameBindings.l0 k l m i) l.length (fun i=> !difB (rd_T116 l (i:Int)) (rd_T116 m (i:Int))) ?_ ?_ ?_
    · refine ev_shift ?_;simp only[spec_l18SameBindings.l0];exact ev_neg (by omega) (ev_some _)
    · intro i hi hp r hr
      refine ev_shift ?_;simp only[spec_l18SameBindings.l0]
      refine ev_pos (by omega) (ev_pos (by omega) (ev_pos (by omega) (ev_neg (not_tt hp) ?_)))
      rw[wrap_up (by omega) (show(i:Int)<(l.length:Int) by omega) (by omega)];exact hr
    · intro i hi hp
      refine ev_shift ?_;simp only[spec_l18SameBindings.l0]
      exact ev_pos (by omega) (ev_pos (by omega) (ev_pos (by omega) (ev_pos (not_ff hp) (ev_some _))))
  · refine ev_neg (by omega) ?_
    rw[decide_eq_false h];exact ev_some _
theorem bind2 (l m:List S116) (hl:l.length≤1048576):Ev (fun k=>impl_Binding.f k l m) (sameB l m):=by
  simp only[impl_Binding.f,sameB]
  by_cases h:l.length=m.length
  · refine ev_pos (by omega) ?_
    rw[decide_eq_true h,Bool.true_and]
    refine idx_all (g:=fun k i=>impl_Binding.l0 k l m (l.length:Int) i) l.length (fun i=> !difB (rd_T116 l (i:Int)) (rd_T116 m (i:Int))) ?_ ?_ ?_
    · refine ev_shift ?_;simp only[impl_Binding.l0];exact ev_neg (by omega) (ev_some _)
    · intro i hi hp r hr
      refine ev_shift ?_;simp only[impl_Binding.l0]
      refine ev_pos (by omega) (ev_pos (by omega) (ev_pos (by omega) (ev_pos (by omega) (ev_neg (not_tt hp) ?_))))
      rw[wrap_up (by omega) (show(i:Int)<(l.length:Int) by omega) (by omega)];exact hr
    · intro i hi hp
      refine ev_shift ?_;simp only[impl_Binding.l0]
      exact ev_pos (by omega) (ev_pos (by omega) (ev_pos (by omega) (ev_pos (by omega) (ev_pos (not_ff hp) (ev_some _)))))
  · refine ev_neg (by omega) ?_
    rw[decide_eq_false h];exact ev_some _
def sameFn (x y:S107):Bool:=decide (x.f0.toList=y.f0.toList)&&(decide (x.f3.toList=y.f3.toList)&&(sameT x.f1 y.f1&&sameT x.f2 y.f2))
def sameTy (x y:S109):Bool:=decide (x.f0.toList=y.f0.toList)&&sameT x.f1 y.f1
def sameFns (l m:List S107):Bool:=allN l.length (fun i=>sameFn (rd_T107 l (i:Int)) (rd_T107 m (i:Int)))
def sameTys (l m:List S109):Bool:=allN l.length (fun i=>sameTy (rd_T109 l (i:Int)) (rd_T109 m (i:Int)))
theorem rdf (l:List S107) (g:Fine l) (i:Nat) (hi:i<l.length):(rd_T107 l (i:Int)).f1.length≤1048576∧(rd_T107 l (i:Int)).f2.length≤1048576:=by
  have e:rd_T107 l (i:Int)=l[i]:=getD_get _ l i hi
  rw[e]
  have h:Fine (l[i]).f0∧Fine (l[i]).f1∧Fine (l[i]).f2∧Fine (l[i]).f3:=g.mem (List.getElem_mem hi)
  exact⟨h.2.1.len,h.2.2.1.len⟩
theorem rdt (l:List S109) (g:Fine l) (i:Nat) (hi:i<l.length):(rd_T109 l (i:Int)).f1.length≤1048576:=by
  have e:rd_T109 l (i:Int)=l[i]:=getD_get _ l i hi
  rw[e]
  have h:Fine (l[i]).f0∧Fine (l[i]).f1:=g.mem (List.getElem_mem hi)
  exact h.2.len
section
variable (a a':List S116) (l m:List S107) (t u:List S109)
theorem j4t (i:Int):Ev (fun k=>spec_SameScope.j4 k i true a l t a' m u) false:=by
  refine ev_shift ?_
  simp only[spec_SameScope.j4]
  exact ev_pos trivial (ev_some _)
theorem j2t (i:Int):Ev (fun k=>spec_SameScope.j2 k i true a l t a' m u) false:=by
  refine ev_shift ?_
  simp only[spec_SameScope.j2]
  exact ev_pos trivial (ev_some _)
theorem loopT (gt:Fine t) (h:t.length=u.length):Ev (fun k=>spec_SameScope.l1 k 0 a l t a' m u) (sameTys t u):=by
  have ht:=gt.len
  refine idx_all (g:=fun k i=>spec_SameScope.l1 k i a l t a' m u) t.length (fun i=>sameTy (rd_T109 t (i:Int)) (rd_T109 u (i:Int))) ?_ ?_ ?_
  · refine ev_shift ?_;simp only[spec_SameScope.l1];exact ev_neg (by omega) (ev_some _)
  · intro i hi hp r hr
    simp only[sameTy,Bool.and_eq_true,decide_eq_true_eq]at hp
    refine ev_shift ?_;simp only[spec_SameScope.l1]
    refine ev_pos (by omega) (ev_pos (by omega) (ev_pos (by omega) (ev_pos hp.1 (ev_bind (spec_l18SameTexts_ev _ _ (rdt t gt i hi)) ?_))))
    rw[hp.2]
    refine ev_shift ?_;simp only[spec_SameScope.j4]
    refine ev_neg Bool.false_ne_true ?_
    rw[wrap_up (by omega) (show(i:Int)<(t.length:Int) by omega) (by omega)];exact hr
  · intro i hi hp
    refine ev_shift ?_;simp only[spec_SameScope.l1]
    refine ev_pos (by omega) (ev_pos (by omega) (ev_pos (by omega) ?_))
    by_cases h1:(rd_T109 t (i:Int)).f0.toList=(rd_T109 u (i:Int)).f0.toList
    · refine ev_pos h1 (ev_bind (spec_l18SameTexts_ev _ _ (rdt t gt i hi)) ?_)
      cases h2:sameT (rd_T109 t (i:Int)).f1 (rd_T109 u (i:Int)).f1 with
      |false=>exact j4t a a' l m t u _
      |true=>
        simp only[sameTy,h1,h2]at hp
        cases hp
    · exact ev_neg h1 (j4t a a' l m t u _)
theorem loopF (gl:Fine l) (gt:Fine t) (h:l.length=m.length) (h2:t.length=u.length):Ev (fun k=>spec_SameScope.l0 k 0 a l t a' m u) (sameFns l m&&sameTys t u):=by
  have hl:=gl.len
  refine idx_and (g:=fun k i=>spec_SameScope.l0 k i a l t a' m u) l.length (fun i=>sameFn (rd_T107 l (i:Int)) (rd_T107 m (i:Int))) _ ?_ ?_ ?_
  · refine ev_shift ?_; simp only [spec_SameScope.l0]
    exact ev_neg (by omega) (loopT a a' l m t u gt h2)
  · intro i hi hp r hr
    simp only[sameFn,Bool.and_eq_true,decide_eq_true_eq]at hp
    refine ev_shift ?_;simp only[spec_SameScope.l0]
    refine ev_pos (by omega) (ev_pos (by omega) (ev_pos (by omega) (ev_pos hp.1 (ev_pos hp.2.1 (ev_bind (spec_l18SameTexts_ev _ _ (rdf l gl i hi).1) (ev_pos hp.2.2.1 (ev_bind (spec_l18SameTexts_ev _ _ (rdf l gl i hi).2) ?_)))))))
    rw[hp.2.2.2]
    refine ev_shift ?_;simp only[spec_SameScope.j2]
    refine ev_neg Bool.false_ne_true ?_
    rw[wrap_up (by omega) (show(i:Int)<(l.length:Int) by omega) (by omega)];exact hr
  · intro i hi hp
    refine ev_shift ?_;simp only[spec_SameScope.l0]
    refine ev_pos (by omega) (ev_pos (by omega) (ev_pos (by omega) ?_))
    by_cases h1:(rd_T107 l (i:Int)).f0.toList=(rd_T107 m (i:Int)).f0.toList
    · refine ev_pos h1 ?_
      by_cases h3:(rd_T107 l (i:Int)).f3.toList=(rd_T107 m (i:Int)).f3.toList
      · refine ev_pos h3 (ev_bind (spec_l18SameTexts_ev _ _ (rdf l gl i hi).1) ?_)
        cases h4:sameT (rd_T107 l (i:Int)).f1 (rd_T107 m (i:Int)).f1 with
        |false=>exact ev_neg Bool.false_ne_true (j2t a a' l m t u _)
        |true=>
          refine ev_pos rfl (ev_bind (spec_l18SameTexts_ev _ _ (rdf l gl i hi).2) ?_)
          cases h5:sameT (rd_T107 l (i:Int)).f2 (rd_T107 m (i:Int)).f2 with
          |false=>exact j2t a a' l m t u _
          |true=>
            simp only[sameFn,h1,h3,h4,h5]at hp
            cases hp
      · exact ev_neg h3 (j2t a a' l m t u _)
    · exact ev_neg h1 (j2t a a' l m t u _)
theorem bad:Ev (fun k=>spec_SameScope.j0 k true a l t a' m u) false:=by
  refine ev_shift ?_
  simp only[spec_SameScope.j0]
  simpa using ev_some false
theorem spec_ev (ga:Fine a) (gl:Fine l) (gt:Fine t):Ev (fun k=>spec_SameScope.f k a l t a' m u) (sameB a a'&&((decide (l.length=m.length)&&sameFns l m)&&(decide (t.length=u.length)&&sameTys t u))):=by
  simp only[spec_SameScope.f]
  refine ev_bind (bind1 a a' ga.len) ?_
  cases sameB a a' with
  |false=>exact ev_neg Bool.false_ne_true (bad a a' l m t u)
  |true=>
    refine ev_pos rfl ?_
    by_cases h:l.length=m.length
    · refine ev_pos (by omega) ?_
      rw[decide_eq_true h]
      by_cases h2:t.length=u.length
      · refine ev_shift ?_; simp only [spec_SameScope.j0]
        refine ev_neg (by rw[h2];exact bne_ff _) ?_
        rw[decide_eq_true h2]
        simpa using loopF a a' l m t u gl gt h h2
      · rw [show ((t.length : Int) != (u.length : Int)) = true from bne_iff_ne.2 (by omega), decide_eq_false h2]
        simpa using bad a a' l m t u
    · refine ev_neg (by omega) ?_
      rw[decide_eq_false h]
      simpa using bad a a' l m t u
end
theorem fns2 (l m:List S107) (gl:Fine l):Ev (fun k=>impl_Function__impl_sameFunction.f k l m) (decide (l.length=m.length)&&sameFns l m):=by
  have hl:=gl.len
  have one:∀i,i<l.length→Ev (fun k=>impl_sameFunction.f k (rd_T107 l (i:Int)).f0 (rd_T107 l (i:Int)).f1 (rd_T107 l (i:Int)).f2 (rd_T107 l (i:Int)).f3 (rd_T107 m (i:Int)).f0 (rd_T107 m (i:Int)).f1 (rd_T107 m (i:Int)).f2 (rd_T107 m (i:Int)).f3) (sameFn (rd_T107 l (i:Int)) (rd_T107 m (i:Int))):=by
    intro i hi
    simp only[impl_sameFunction.f,sameFn]
    by_cases h1:(rd_T107 l (i:Int)).f0.toList=(rd_T107 m (i:Int)).f0.toList
    · refine ev_pos h1 ?_
      rw[decide_eq_true h1]
      by_cases h3:(rd_T107 l (i:Int)).f3.toList=(rd_T107 m (i:Int)).f3.toList
      · refine ev_pos h3 (ev_bind (slices_Equal_string_string_ev _ _ (rdf l gl i hi).1) ?_)
        rw[decide_eq_true h3]
        cases sameT (rd_T107 l (i:Int)).f1 (rd_T107 m (i:Int)).f1 with
        |false=>exact ev_neg Bool.false_ne_true (ev_some _)
        |true=>exact ev_pos rfl (ev_bind (slices_Equal_string_string_ev _ _ (rdf l gl i hi).2) (by simpa using ev_some _))
      · refine ev_neg h3 ?_
        rw[decide_eq_false h3];exact ev_some _
    · refine ev_neg h1 ?_
      rw[decide_eq_false h1];exact ev_some _
  simp only[impl_Function__impl_sameFunction.f]
  by_cases h:l.length=m.length
  · refine ev_pos (by omega) ?_
    rw[decide_eq_true h,Bool.true_and]
    refine idx_all (g:=fun k i=>impl_Function__impl_sameFunction.l0 k m l (l.length:Int) i) l.length (fun i=>sameFn (rd_T107 l (i:Int)) (rd_T107 m (i:Int))) ?_ ?_ ?_
    · refine ev_shift ?_;simp only[impl_Function__impl_sameFunction.l0];exact ev_neg (by omega) (ev_some _)
    · intro i hi hp r hr
      refine ev_shift ?_;simp only[impl_Function__impl_sameFunction.l0]
      refine ev_pos (by omega) (ev_pos (by omega) (ev_pos (by omega) (ev_pos (by omega) (ev_bind (one i hi) (ev_pos hp ?_)))))
      rw[wrap_up (by omega) (show(i:Int)<(l.length:Int) by omega) (by omega)];exact hr
    · intro i hi hp
      refine ev_shift ?_;simp only[impl_Function__impl_sameFunction.l0]
      exact ev_pos (by omega) (ev_pos (by omega) (ev_pos (by omega) (ev_pos (by omega) (ev_bind (one i hi) (ev_neg (by rw[hp];decide) (ev_some _))))))
  · refine ev_neg (by omega) ?_
    rw[decide_eq_false h];exact ev_some _
theorem tys2 (l m:List S109) (gl:Fine l):Ev (fun k=>impl_RecordType__impl_sameType.f k l m) (decide (l.length=m.length)&&sameTys l m):=by
  have hl:=gl.len
  have one:∀i,i<l.length→Ev (fun k=>impl_sameType.f k (rd_T109 l (i:Int)).f0 (rd_T109 l (i:Int)).f1 (rd_T109 m (i:Int)).f0 (rd_T109 m (i:Int)).f1) (sameTy (rd_T109 l (i:Int)) (rd_T109 m (i:Int))):=by
    intro i hi
    simp only[impl_sameType.f,sameTy]
    by_cases h1:(rd_T109 l (i:Int)).f0.toList=(rd_T109 m (i:Int)).f0.toList
    · refine ev_pos h1 (ev_bind (slices_Equal_string_string_ev _ _ (rdt l gl i hi)) ?_)
      rw[decide_eq_true h1,Bool.true_and];exact ev_some _
    · refine ev_neg h1 ?_
      rw[decide_eq_false h1];exact ev_some _
  simp only[impl_RecordType__impl_sameType.f]
  by_cases h:l.length=m.length
  · refine ev_pos (by omega) ?_
    rw[decide_eq_true h,Bool.true_and]
    refine idx_all (g:=fun k i=>impl_RecordType__impl_sameType.l0 k m l (l.length:Int) i) l.length (fun i=>sameTy (rd_T109 l (i:Int)) (rd_T109 m (i:Int))) ?_ ?_ ?_
    · refine ev_shift ?_;simp only[impl_RecordType__impl_sameType.l0];exact ev_neg (by omega) (ev_some _)
    · intro i hi hp r hr
      refine ev_shift ?_;simp only[impl_RecordType__impl_sameType.l0]
      refine ev_pos (by omega) (ev_pos (by omega) (ev_pos (by omega) (ev_pos (by omega) (ev_bind (one i hi) (ev_pos hp ?_)))))
      rw[wrap_up (by omega) (show(i:Int)<(l.length:Int) by omega) (by omega)];exact hr
    · intro i hi hp
      refine ev_shift ?_;simp only[impl_RecordType__impl_sameType.l0]
      exact ev_pos (by omega) (ev_pos (by omega) (ev_pos (by omega) (ev_pos (by omega) (ev_bind (one i hi) (ev_neg (by rw[hp];decide) (ev_some _))))))
  · refine ev_neg (by omega) ?_
    rw[decide_eq_false h];exact ev_some _
def sameF (x y:S87):Bool:=decide (x.f0.toList=y.f0.toList)&&(sameT x.f1 y.f1&&(decide (x.f2=y.f2)&&decide (x.f3=y.f3)))
theorem file1 (x y:S87) (hx:x.f1.length≤1048576):Ev (fun k=>spec_l21SameFile.f k x.f0 x.f1 x.f2 x.f3 y.f0 y.f1 y.f2 y.f3) (sameF x y):=by
  simp only[spec_l21SameFile.f,sameF]
  by_cases h:x.f0.toList=y.f0.toList
  · refine ev_pos h (ev_bind (spec_l21SameTexts_ev x.f1 y.f1 hx) ?_)
    rw[decide_eq_true h,Bool.true_and]
    cases sameT x.f1 y.f1 with
    |false=>exact ev_neg Bool.false_ne_true (ev_some _)
    |true=>
      refine ev_pos rfl ?_
      by_cases h2:x.f2=y.f2
      · refine ev_pos h2 (ev_of_eq ?_)
        by_cases h3:x.f3=y.f3<;>simp[h2,h3]
      · refine ev_neg h2 (ev_of_eq ?_);simp[h2]
  · refine ev_neg h (ev_of_eq ?_);simp[h]
theorem file2 (x y:S87) (hx:x.f1.length≤1048576):Ev (fun k=>impl_sameFile.f k x.f0 x.f1 x.f2 x.f3 y.f0 y.f1 y.f2 y.f3) (sameF x y):=by
  simp only[impl_sameFile.f,sameF]
  by_cases h:x.f0.toList=y.f0.toList
  · refine ev_pos h ?_
    by_cases h2:x.f2=y.f2
    · refine ev_pos h2 ?_
      by_cases h3:x.f3=y.f3
      · refine ev_pos h3 (ev_bind (slices_Equal_string_string_ev x.f1 y.f1 hx) (ev_of_eq ?_))
        simp[h,h2,h3]
      · refine ev_neg h3 (ev_of_eq ?_);simp[h3]
    · refine ev_neg h2 (ev_of_eq ?_);simp[h2]
  · refine ev_neg h (ev_of_eq ?_);simp[h]
def sameFs (l m:List S87):Bool:=allN l.length (fun i=>sameF (rd_T87 l (i:Int)) (rd_T87 m (i:Int)))
theorem rdF (l:List S87) (g:Fine l) (i:Nat) (hi:i<l.length):(rd_T87 l (i:Int)).f1.length≤1048576:=by
  have e:rd_T87 l (i:Int)=l[i]:=getD_get _ l i hi
  rw[e]
  exact Fine.len (show Fine (l[i]).f0∧Fine (l[i]).f1∧Fine (l[i]).f2∧Fine (l[i]).f3 from g.mem (List.getElem_mem hi)).2.1
theorem loopC (a0 a1:List ByteArray) (a2:Int) (l m:List S87) (a b a5 a6:List ByteArray) (a7:Int) (r0:Bool) (gl:Fine l) (h:l.length=m.length) (h0:Ev (fun k=>spec_l21SameTexts.f k a b) r0):
    Ev (fun k=>spec_SameConsole.l0 k 0 a0 a2 a1 l a a5 a7 a6 m b) (sameFs l m&&r0):=by
  have hl:=gl.len
  refine idx_and (g:=fun k i=>spec_SameConsole.l0 k i a0 a2 a1 l a a5 a7 a6 m b) l.length (fun i=>sameF (rd_T87 l (i:Int)) (rd_T87 m (i:Int))) r0 ?_ ?_ ?_
  · refine ev_shift ?_;simp only[spec_SameConsole.l0];exact ev_neg (by omega) (ev_bind h0 (ev_some _))
  · intro i hi hp r hr
    refine ev_shift ?_;simp only[spec_SameConsole.l0]
    refine ev_pos (by omega) (ev_pos (by omega) (ev_pos (by omega) (ev_bind (file1 _ _ (rdF l gl i hi)) (ev_pos hp ?_))))
    rw[wrap_up (by omega) (show(i:Int)<(l.length:Int) by omega) (by omega)];exact hr
  · intro i hi hp
    refine ev_shift ?_;simp only[spec_SameConsole.l0]
    exact ev_pos (by omega) (ev_pos (by omega) (ev_pos (by omega) (ev_bind (file1 _ _ (rdF l gl i hi)) (ev_neg (by rw[hp];decide) (ev_some _)))))
theorem files2 (l m:List S87) (gl:Fine l):Ev (fun k=>impl_File__impl_sameFile.f k l m) (decide (l.length=m.length)&&sameFs l m):=by
  have hl:=gl.len
  simp only[impl_File__impl_sameFile.f]
  by_cases h:l.length=m.length
  · refine ev_pos (by omega) ?_
    rw[decide_eq_true h,Bool.true_and]
    refine idx_all (g:=fun k i=>impl_File__impl_sameFile.l0 k m l (l.length:Int) i) l.length (fun i=>sameF (rd_T87 l (i:Int)) (rd_T87 m (i:Int))) ?_ ?_ ?_
    · refine ev_shift ?_;simp only[impl_File__impl_sameFile.l0];exact ev_neg (by omega) (ev_some _)
    · intro i hi hp r hr
      refine ev_shift ?_;simp only[impl_File__impl_sameFile.l0]
      refine ev_pos (by omega) (ev_pos (by omega) (ev_pos (by omega) (ev_pos (by omega) (ev_bind (file2 _ _ (rdF l gl i hi)) (ev_pos hp ?_)))))
      rw[wrap_up (by omega) (show(i:Int)<(l.length:Int) by omega) (by omega)];exact hr
    · intro i hi hp
      refine ev_shift ?_;simp only[impl_File__impl_sameFile.l0]
      exact ev_pos (by omega) (ev_pos (by omega) (ev_pos (by omega) (ev_pos (by omega) (ev_bind (file2 _ _ (rdF l gl i hi)) (ev_neg (by rw[hp];decide) (ev_some _))))))
  · refine ev_neg (by omega) ?_
    rw[decide_eq_false h];exact ev_some _
def difV4 (x y:S114):Bool:= !(x.f0==y.f0)||(!(x.f1==y.f1)||(!(x.f2.toList==y.f2.toList)|| !(x.f3==y.f3)))
def sameVs (l m:List S114):Bool:=decide (l.length=m.length)&&allN l.length (fun i=> !difV4 (rd_T114 l (i:Int)) (rd_T114 m (i:Int)))
theorem vals1 (l m:List S114) (hl:l.length≤1048576):Ev (fun k=>spec_l07SameValues.f k l m) (sameVs l m):=by
  simp only[spec_l07SameValues.f,sameVs]
  by_cases h:l.length=m.length
  · refine ev_pos (by omega) ?_
    rw[decide_eq_true h,Bool.true_and]
    refine idx_all (g:=fun k i=>spec_l07SameValues.l0 k l m i) l.length (fun i=> !difV4 (rd_T114 l (i:Int)) (rd_T114 m (i:Int))) ?_ ?_ ?_
    · refine ev_shift ?_;simp only[spec_l07SameValues.l0];exact ev_neg (by omega) (ev_some _)
    · intro i hi hp r hr
      refine ev_shift ?_;simp only[spec_l07SameValues.l0]
      refine ev_pos (by omega) (ev_pos (by omega) (ev_pos (by omega) (ev_neg (not_tt hp) ?_)))
      rw[wrap_up (by omega) (show(i:Int)<(l.length:Int) by omega) (by omega)];exact hr
    · intro i hi hp
      refine ev_shift ?_;simp only[spec_l07SameValues.l0]
      exact ev_pos (by omega) (ev_pos (by omega) (ev_pos (by omega) (ev_pos (not_ff hp) (ev_some _))))
  · refine ev_neg (by omega) ?_
    rw[decide_eq_false h];exact ev_some _
theorem vals2 (l m:List S114) (hl:l.length≤1048576):Ev (fun k=>impl_Value.f k l m) (sameVs l m):=by
  simp only[impl_Value.f,sameVs]
  by_cases h:l.length=m.length
  · refine ev_pos (by omega) ?_
    rw[decide_eq_true h,Bool.true_and]
    refine idx_all (g:=fun k i=>impl_Value.l0 k l m (l.length:Int) i) l.length (fun i=> !difV4 (rd_T114 l (i:Int)) (rd_T114 m (i:Int))) ?_ ?_ ?_
    · refine ev_shift ?_;simp only[impl_Value.l0];exact ev_neg (by omega) (ev_some _)
    · intro i hi hp r hr
      refine ev_shift ?_;simp only[impl_Value.l0]
      refine ev_pos (by omega) (ev_pos (by omega) (ev_pos (by omega) (ev_pos (by omega) (ev_neg (not_tt hp) ?_))))
      rw[wrap_up (by omega) (show(i:Int)<(l.length:Int) by omega) (by omega)];exact hr
    · intro i hi hp
      refine ev_shift ?_;simp only[impl_Value.l0]
      exact ev_pos (by omega) (ev_pos (by omega) (ev_pos (by omega) (ev_pos (by omega) (ev_pos (not_ff hp) (ev_some _)))))
  · refine ev_neg (by omega) ?_
    rw[decide_eq_false h];exact ev_some _
def sameOb (x y:S154):Bool:=decide (x.f0=y.f0)&&(decide (x.f1=y.f1)&&(decide (x.f2.toList=y.f2.toList)&&(decide (x.f3=y.f3)&&(sameVs x.f4 y.f4&&(sameVs x.f5 y.f5&&(x.f6.f0==y.f6.f0&&(x.f6.f1==y.f6.f1&&(x.f6.f2.toList==y.f6.f2.toList&&x.f6.f3==y.f6.f3))))))))
theorem ob_ev (F:Nat→List S114→List S114→Option Bool) (hF:∀l m,l.length≤1048576→Ev (fun k=>F k l m) (sameVs l m)) (x y:S154) (h4:x.f4.length≤1048576) (h5:x.f5.length≤1048576):
    Ev (fun k=>if x.f0=y.f0 then(if x.f1=y.f1 then(if x.f2.toList=y.f2.toList then(if x.f3=y.f3 then((F k x.f4 y.f4).bind fun t=>if t=true then((F k x.f5 y.f5).bind fun t=>if t=true then some (x.f6.f0==y.f6.f0&&(x.f6.f1==y.f6.f1&&(x.f6.f2.toList==y.f6.f2.toList&&x.f6.f3==y.f6.f3)))else some false)else some false)else some false)else some false)else some false)else some false) (sameOb x y):=by
  unfold sameOb
  by_cases h0:x.f0=y.f0
  · refine ev_pos h0 ?_
    rw[decide_eq_true h0,Bool.true_and]
    by_cases h1:x.f1=y.f1
    · refine ev_pos h1 ?_
      rw[decide_eq_true h1,Bool.true_and]
      by_cases h2:x.f2.toList=y.f2.toList
      · refine ev_pos h2 ?_
        rw[decide_eq_true h2,Bool.true_and]
        by_cases h3:x.f3=y.f3
        · refine ev_pos h3 ?_
          rw[decide_eq_true h3,Bool.true_and]
          refine ev_bind (hF _ _ h4) ?_
          cases sameVs x.f4 y.f4 with
          |false=>exact ev_neg Bool.false_ne_true (ev_some _)
          |true=>
            refine ev_pos rfl (ev_bind (hF _ _ h5) ?_)
            cases sameVs x.f5 y.f5 with
            |false=>exact ev_neg Bool.false_ne_true (ev_some _)
            |true=>exact ev_pos rfl (ev_some _)
        · rw[decide_eq_false h3];exact ev_neg h3 (ev_some _)
      · rw[decide_eq_false h2];exact ev_neg h2 (ev_some _)
    · rw[decide_eq_false h1];exact ev_neg h1 (ev_some _)
  · rw[decide_eq_false h0];exact ev_neg h0 (ev_some _)
theorem ob1 (x y:S154) (h4:x.f4.length≤1048576) (h5:x.f5.length≤1048576):Ev (fun k=>spec_l07SameObject.f k x.f0 x.f1 x.f2 x.f3 x.f4 x.f5 x.f6.f0 x.f6.f1 x.f6.f2 x.f6.f3 y.f0 y.f1 y.f2 y.f3 y.f4 y.f5 y.f6.f0 y.f6.f1 y.f6.f2 y.f6.f3) (sameOb x y):=by
  simp only[spec_l07SameObject.f]
  exact ob_ev spec_l07SameValues.f vals1 x y h4 h5
theorem ob2 (x y:S154) (h4:x.f4.length≤1048576) (h5:x.f5.length≤1048576):Ev (fun k=>impl_sameObject.f k x.f0 x.f1 x.f2 x.f3 x.f4 x.f5 x.f6.f0 x.f6.f1 x.f6.f2 x.f6.f3 y.f0 y.f1 y.f2 y.f3 y.f4 y.f5 y.f6.f0 y.f6.f1 y.f6.f2 y.f6.f3) (sameOb x y):=by
  simp only[impl_sameObject.f]
  exact ob_ev impl_Value.f vals2 x y h4 h5
def sameObs (l m:List S154):Bool:=allN l.length (fun i=>sameOb (rd_T154 l (i:Int)) (rd_T154 m (i:Int)))
theorem rdO (l:List S154) (g:Fine l) (i:Nat) (hi:i<l.length):(rd_T154 l (i:Int)).f4.length≤1048576∧(rd_T154 l (i:Int)).f5.length≤1048576:=by
  have e:rd_T154 l (i:Int)=l[i]:=getD_get _ l i hi
  rw[e]
  have h:Fine (l[i]).f0∧Fine (l[i]).f1∧Fine (l[i]).f2∧Fine (l[i]).f3∧Fine (l[i]).f4∧Fine (l[i]).f5∧Fine (l[i]).f6:=g.mem (List.getElem_mem hi)
  exact⟨h.2.2.2.2.1.len,h.2.2.2.2.2.1.len⟩
theorem rdH (h:S69):rd_T69 [h] 0=h:=rfl
theorem oneH {α:Type} (x:α):(0:Int)<(([x]:List α).length:Int):=by simp
def sameHp (n:Int) (l:List S154) (n':Int) (l':List S154):Bool:=decide (n=n')&&(decide (l.length=l'.length)&&sameObs l l')
theorem hp1 (n:Int) (l:List S154) (n':Int) (m:List S154) (gl:Fine l):Ev (fun k=>spec_SameHeap.f k n l n' m) (sameHp n l n' m):=by
  have hl:=gl.len
  simp only[spec_SameHeap.f,spec_l07Same.f,sameHp]
  have bad:Ev (fun k=>spec_l07Same.j0 k [(⟨n,l⟩:S69)] [(⟨n',m⟩:S69)] true) false:=by
    refine ev_shift ?_
    simp only[spec_l07Same.j0]
    exact ev_pos trivial (ev_some _)
  refine ev_bind (ev_pos (oneH _) (ev_pos (oneH _) ?_)) (ev_some _)
  simp only[rdH]
  by_cases h0:n=n'
  · refine ev_pos h0 ?_
    rw[decide_eq_true h0,Bool.true_and]
    by_cases h:l.length=m.length
    · rw [decide_eq_true h, Bool.true_and]
      refine ev_shift ?_
      simp only[spec_l07Same.j0]
      refine ev_neg (by rw[h];exact bne_ff _) ?_
      refine idx_all (g:=fun k i=>spec_l07Same.l0 k [(⟨n,l⟩:S69)] [(⟨n',m⟩:S69)] i) l.length (fun i=>sameOb (rd_T154 l (i:Int)) (rd_T154 m (i:Int))) ?_ ?_ ?_
      · refine ev_shift ?_;simp only[spec_l07Same.l0,rdH];exact ev_pos (oneH _) (ev_neg (by omega) (ev_some _))
      · intro i hi hp r hr
        refine ev_shift ?_;simp only[spec_l07Same.l0,rdH]
        refine ev_pos (oneH _) (ev_pos (by omega) (ev_pos (by omega) (ev_pos (oneH _) (ev_pos (by omega) (ev_bind (ob1 _ _ (rdO l gl i hi).1 (rdO l gl i hi).2) (ev_pos hp ?_))))))
        rw[wrap_up (by omega) (show(i:Int)<(l.length:Int) by omega) (by omega)];exact hr
      · intro i hi hp
        refine ev_shift ?_;simp only[spec_l07Same.l0,rdH]
        exact ev_pos (oneH _) (ev_pos (by omega) (ev_pos (by omega) (ev_pos (oneH _) (ev_pos (by omega) (ev_bind (ob1 _ _ (rdO l gl i hi).1 (rdO l gl i hi).2) (ev_neg (by rw[hp];decide) (ev_some _)))))))
    · rw [decide_eq_false h, show ((l.length : Int) != (m.length : Int)) = true from bne_iff_ne.2 (by omega)]
      exact bad
  · rw [decide_eq_false h0]
    exact ev_neg h0 bad
theorem hp2a (l m:List S154) (gl:Fine l):Ev (fun k=>impl_Object__impl_sameObject.f k l m) (decide (l.length=m.length)&&sameObs l m):=by
  have hl:=gl.len
  simp only[impl_Object__impl_sameObject.f]
  by_cases h:l.length=m.length
  · refine ev_pos (by omega) ?_
    rw[decide_eq_true h,Bool.true_and]
    refine idx_all (g:=fun k i=>impl_Object__impl_sameObject.l0 k m l (l.length:Int) i) l.length (fun i=>sameOb (rd_T154 l (i:Int)) (rd_T154 m (i:Int))) ?_ ?_ ?_
    · refine ev_shift ?_;simp only[impl_Object__impl_sameObject.l0];exact ev_neg (by omega) (ev_some _)
    · intro i hi hp r hr
      refine ev_shift ?_;simp only[impl_Object__impl_sameObject.l0]
      refine ev_pos (by omega) (ev_pos (by omega) (ev_pos (by omega) (ev_pos (by omega) (ev_bind (ob2 _ _ (rdO l gl i hi).1 (rdO l gl i hi).2) (ev_pos hp ?_)))))
      rw[wrap_up (by omega) (show(i:Int)<(l.length:Int) by omega) (by omega)];exact hr
    · intro i hi hp
      refine ev_shift ?_;simp only[impl_Object__impl_sameObject.l0]
      exact ev_pos (by omega) (ev_pos (by omega) (ev_pos (by omega) (ev_pos (by omega) (ev_bind (ob2 _ _ (rdO l gl i hi).1 (rdO l gl i hi).2) (ev_neg (by rw[hp];decide) (ev_some _))))))
  · refine ev_neg (by omega) ?_
    rw[decide_eq_false h];exact ev_some _
theorem hp2 (n:Int) (l:List S154) (n':Int) (m:List S154) (gl:Fine l):Ev (fun k=>impl_SameHeap.f k n l n' m) (sameHp n l n' m):=by
  simp only[impl_SameHeap.f,sameHp]
  by_cases h0:n=n'
  · refine ev_pos h0 (ev_bind (hp2a l m gl) ?_)
    rw[decide_eq_true h0,Bool.true_and];exact ev_some _
  · rw [decide_eq_false h0]
    exact ev_neg h0 (ev_some _)
def sameSc (a:List S116) (l:List S107) (t:List S109) (a':List S116) (m:List S107) (u:List S109):Bool:=sameB a a'&&((decide (l.length=m.length)&&sameFns l m)&&(decide (t.length=u.length)&&sameTys t u))
theorem sc2 (a a':List S116) (l m:List S107) (t u:List S109) (ga:Fine a) (gl:Fine l) (gt:Fine t):Ev (fun k=>impl_SameScope.f k a l t a' m u) (sameSc a l t a' m u):=by
  simp only[impl_SameScope.f,impl_sameDefinitions.f,sameSc]
  refine ev_bind (bind2 a a' ga.len) ?_
  cases sameB a a' with
  |false=>exact ev_neg Bool.false_ne_true (ev_some _)
  |true=>
    refine ev_pos rfl (ev_bind (ev_bind (fns2 l m gl) (r:=(decide (l.length=m.length)&&sameFns l m)&&(decide (t.length=u.length)&&sameTys t u)) ?_) (by simpa using ev_some _))
    cases decide (l.length=m.length)&&sameFns l m with
    |false=>exact ev_neg Bool.false_ne_true (ev_some _)
    |true=>exact ev_pos rfl (ev_bind (tys2 t u gt) (by simpa using ev_some _))
def sameCo (a:List ByteArray) (n:Int) (b:List ByteArray) (l:List S87) (c:List ByteArray) (a':List ByteArray) (n':Int) (b':List ByteArray) (m:List S87) (c':List ByteArray):Bool:=sameT a a'&&(decide (n=n')&&(sameT b b'&&(decide (l.length=m.length)&&(sameFs l m&&sameT c c'))))
theorem co1 (a:List ByteArray) (n:Int) (b:List ByteArray) (l:List S87) (c:List ByteArray) (a':List ByteArray) (n':Int) (b':List ByteArray) (m:List S87) (c':List ByteArray) (ga:Fine a) (gb:Fine b) (gl:Fine l) (gc:Fine c):Ev (fun k=>spec_SameConsole.f k a n b l c a' n' b' m c') (sameCo a n b l c a' n' b' m c'):=by
  unfold sameCo
  · have bad:∀r,r=false→Ev (fun k=>spec_SameConsole.j0 k true a n b l c a' n' b' m c') r:=fun r hr=>by
      refine ev_shift ?_
      simp only[spec_SameConsole.j0]
      rw[hr]
      simpa using ev_some false
    simp only[spec_SameConsole.f]
    refine ev_bind (spec_l21SameTexts_ev a a' ga.len) ?_
    cases sameT a a' with
    |false=>exact ev_neg Bool.false_ne_true (bad _ rfl)
    |true=>
      refine ev_pos rfl ?_
      by_cases h:n=n'
      · refine ev_pos h (ev_bind (spec_l21SameTexts_ev b b' gb.len) ?_)
        rw[decide_eq_true h]
        cases sameT b b' with
        |false=>exact ev_neg Bool.false_ne_true (bad _ rfl)
        |true=>
          refine ev_pos rfl ?_
          by_cases hl:l.length=m.length
          · refine ev_shift ?_
            simp only[spec_SameConsole.j0]
            refine ev_neg (by rw[hl];exact bne_ff _) ?_
            rw[decide_eq_true hl]
            simpa using loopC a b n l m c c' a' b' n' _ gl hl (spec_l21SameTexts_ev c c' gc.len)
          · rw [show ((l.length : Int) != (m.length : Int)) = true from bne_iff_ne.2 (by omega)]
            exact bad _ (by simp[hl])
      · exact ev_neg h (bad _ (by simp[h]))
theorem co2j (a:List ByteArray) (n:Int) (b:List ByteArray) (l:List S87) (c:List ByteArray) (a':List ByteArray) (n':Int) (b':List ByteArray) (m:List S87) (c':List ByteArray) (ga:Fine a) (gb:Fine b) (gl:Fine l) (gc:Fine c) (q:Bool):Ev (fun k=>impl_SameConsole.j0 k q a n b l c a' n' b' m c') (decide (n=n')&&(q&&(decide (l.length=m.length)&&sameFs l m))):=by
  refine ev_shift ?_
  simp only[impl_SameConsole.j0]
  by_cases h:n=n'
  · rw [decide_eq_true h, Bool.true_and]
    refine ev_pos h ?_
    cases q with
    |false=>exact ev_neg Bool.false_ne_true (ev_some _)
    |true=>exact ev_pos rfl (ev_bind (files2 l m gl) (by simpa using ev_some _))
  · rw [decide_eq_false h]
    exact ev_neg h (ev_some _)
theorem co2 (a:List ByteArray) (n:Int) (b:List ByteArray) (l:List S87) (c:List ByteArray) (a':List ByteArray) (n':Int) (b':List ByteArray) (m:List S87) (c':List ByteArray) (ga:Fine a) (gb:Fine b) (gl:Fine l) (gc:Fine c):Ev (fun k=>impl_SameConsole.f k a n b l c a' n' b' m c') (sameCo a n b l c a' n' b' m c'):=by
  simp only[impl_SameConsole.f,sameCo]
  have j:=co2j a n b l c a' n' b' m c' ga gb gl gc
  refine ev_bind (slices_Equal_string_string_ev a a' ga.len) ?_
  cases sameT a a' with
  |false=>exact ev_neg Bool.false_ne_true (by have:=j false;simpa using this)
  |true=>
    refine ev_pos rfl (ev_bind (slices_Equal_string_string_ev b b' gb.len) ?_)
    cases sameT b b' with
    |false=>exact ev_neg Bool.false_ne_true (by have:=j false;simpa using this)
    |true=>
      refine ev_pos rfl (ev_bind (slices_Equal_string_string_ev c c' gc.len) ?_)
      have e:(true&&(decide (n=n')&&(true&&(decide (l.length=m.length)&&(sameFs l m&&sameT c c')))))=(decide (n=n')&&(sameT c c'&&(decide (l.length=m.length)&&sameFs l m))):=by
        cases decide (n=n')<;>cases decide (l.length=m.length)<;>cases sameFs l m<;>cases sameT c c'<;>rfl
      rw[e]
      exact j _
theorem core:laws_FnExactSameMemory.Core:=by
  intro n l a f t c1 i1 c2 c3 c4 n' l' a' f' t' c1' i1' c2' c3' c4' gn gl ga gf gt gc1 gi1 gc2 gc3 gc4 _ _ _ _ _ _ _ _ _ _
  refine⟨sameHp n l n' l'&&(sameSc a f t a' f' t'&&sameCo c1 i1 c2 c3 c4 c1' i1' c2' c3' c4'),?_,?_,Fine.bool _⟩
  · simp only [spec_SameMemory.f]
    refine ev_bind (hp1 n l n' l' gl) ?_
    cases sameHp n l n' l' with
    |false=>exact ev_neg Bool.false_ne_true (ev_some _)
    |true=>
      refine ev_pos rfl (ev_bind (spec_ev a a' f f' t t' ga gf gt) ?_)
      show Ev _ (true&&(sameSc a f t a' f' t'&&_))
      unfold sameSc
      cases(sameB a a'&&((decide (f.length=f'.length)&&sameFns f f')&&(decide (t.length=t'.length)&&sameTys t t')))with
      |false=>exact ev_neg Bool.false_ne_true (ev_some _)
      |true=>exact ev_pos rfl (ev_bind (co1 c1 i1 c2 c3 c4 c1' i1' c2' c3' c4' gc1 gc2 gc3 gc4) (by simpa using ev_some _))
  · simp only [impl_SameMemory.f]
    refine ev_bind (hp2 n l n' l' gl) ?_
    cases sameHp n l n' l' with
    |false=>exact ev_neg Bool.false_ne_true (ev_some _)
    |true=>
      refine ev_pos rfl (ev_bind (sc2 a a' f f' t t' ga gf gt) ?_)
      cases sameSc a f t a' f' t' with
      |false=>exact ev_neg Bool.false_ne_true (ev_some _)
      |true=>exact ev_pos rfl (ev_bind (co2 c1 i1 c2 c3 c4 c1' i1' c2' c3' c4' gc1 gc2 gc3 gc4) (by simpa using ev_some _))
theorem FnExactSameMemory:laws_FnExactSameMemory.Pure:=close core
end Go.Proofs.Ytnneadpahjkhgaa.Pure
