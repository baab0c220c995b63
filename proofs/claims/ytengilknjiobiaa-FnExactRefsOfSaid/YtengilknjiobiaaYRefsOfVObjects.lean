/- What the functions on values and objects come to: valid lists, lists without repeats, field names, valid objects. No condition. -/
import Derived.Test.YtengilknjiobiaaYRefsOfVValues
import Derived.Test.YtengilknjiobiaaYRoW4
import Derived.Test.YtengilknjiobiaaYRoP0
import Derived.Test.YtengilknjiobiaaYRoP5
import Derived.Test.YtengilknjiobiaaYRoP6
import Derived.Test.YtengilknjiobiaaYRoP7
import Derived.Test.YtengilknjiobiaaYRoP11
import Derived.Test.YtengilknjiobiaaYRoP12
import Derived.Test.YtengilknjiobiaaYRoP13
import Derived.Test.YtengilknjiobiaaYRoP14
namespace Go.Proofs.Ytengilknjiobiaa.PureFnExactRefsOf
open Go.RowKit Go.Proofs.YtengilknjiobiaaG Go.Proofs.Ytengilknjiobiaa.PFnExactRefsOf Go.Proofs.YtengilknjiobiaaW.PrintWords Go.Proofs.YtengilknjiobiaaW.PrintLast Go.Proofs.YtengilknjiobiaaW.PrintMore
set_option linter.unusedSimpArgs false
set_option linter.unusedVariables false
def vV (x:S29):Bool:=validV x.f0 x.f1 x.f2 x.f3
def sameV (x y:S29):Bool:=x.f0==y.f0&&(x.f1==y.f1&&(x.f2.toList==y.f2.toList&&x.f3==y.f3))
def allV (l:List S29):Bool:=allN l.length (fun i=>vV (rd_T29 l (i:Int)))
def difV (l:List S29):Bool:=allN l.length (fun i=>allN i (fun j=> !sameV (rd_T29 l (i:Int)) (rd_T29 l (j:Int))))
theorem spec_l07ValidValues_ev (l:List S29) (n:Int) (hl:l.length≤1048576):Ev (fun k=>spec_l07ValidValues.f k l n) (decide ((l.length:Int)≤n)&&allV l):=by
  simp only[spec_l07ValidValues.f]
  by_cases h:(l.length:Int)>n
  · refine ev_pos h ?_
    rw[decide_eq_false (by omega)];exact ev_some _
  · refine ev_neg h ?_
    rw[decide_eq_true (by omega),Bool.true_and]
    refine idx_all (g:=fun k i=>spec_l07ValidValues.l0 k l i) l.length (fun i=>vV (rd_T29 l (i:Int))) ?_ ?_ ?_
    · refine ev_shift ?_;simp only[spec_l07ValidValues.l0];exact ev_neg (by omega) (ev_some _)
    · intro i hi hp r hr
      refine ev_shift ?_;simp only[spec_l07ValidValues.l0]
      refine ev_pos (by omega) (ev_pos (by omega) (ev_bind (spec_ValidValue_ev _ _ _ _) (ev_pos hp ?_)))
      rw[wrap_up (by omega) (show(i:Int)<(l.length:Int) by omega) (by omega)];exact hr
    · intro i hi hp
      refine ev_shift ?_;simp only[spec_l07ValidValues.l0]
      refine ev_pos (by omega) (ev_pos (by omega) (ev_bind (spec_ValidValue_ev _ _ _ _) (ev_neg (fun h=>?_) (ev_some _))))
      exact absurd (hp.symm.trans h) Bool.false_ne_true
theorem impl_allV_ev (l:List S29) (hl:l.length≤1048576):Ev (fun k=>impl_Value__impl_ValidValue.f k l) (allV l):=by
  simp only[impl_Value__impl_ValidValue.f]
  refine idx_all (g:=fun k i=>impl_Value__impl_ValidValue.l0 k l (l.length:Int) i) l.length (fun i=>vV (rd_T29 l (i:Int))) ?_ ?_ ?_
  · refine ev_shift ?_;simp only[impl_Value__impl_ValidValue.l0];exact ev_neg (by omega) (ev_some _)
  · intro i hi hp r hr
    refine ev_shift ?_;simp only[impl_Value__impl_ValidValue.l0]
    refine ev_pos (by omega) (ev_pos (by omega) (ev_pos (by omega) (ev_bind (impl_ValidValue_ev _ _ _ _) (ev_pos hp ?_))))
    rw[wrap_up (by omega) (show(i:Int)<(l.length:Int) by omega) (by omega)];exact hr
  · intro i hi hp
    refine ev_shift ?_;simp only[impl_Value__impl_ValidValue.l0]
    refine ev_pos (by omega) (ev_pos (by omega) (ev_pos (by omega) (ev_bind (impl_ValidValue_ev _ _ _ _) (ev_neg (fun h=>?_) (ev_some _)))))
    exact absurd (hp.symm.trans h) Bool.false_ne_true
theorem spec_l07Distinct_ev (l:List S29) (hl:l.length≤1048576):Ev (fun k=>spec_l07Distinct.f k l) (difV l):=by
  simp only[spec_l07Distinct.f]
  have inner:∀i,i<l.length→∀r,Ev (fun k=>spec_l07Distinct.l0 k l ((i:Int)+1)) r→Ev (fun k=>spec_l07Distinct.l0 k l (i:Int)) (allN i (fun j=> !sameV (rd_T29 l (i:Int)) (rd_T29 l (j:Int)))&&r):=by
    intro i hi r hr
    refine ev_shift ?_;simp only[spec_l07Distinct.l0]
    refine ev_pos (by omega) ?_
    refine idx_and (g:=fun k j=>spec_l07Distinct.l1 k l (i:Int) j) i (fun j=> !sameV (rd_T29 l (i:Int)) (rd_T29 l (j:Int))) r ?_ ?_ ?_
    · refine ev_shift ?_; simp only [spec_l07Distinct.l1]
      refine ev_neg (by omega) ?_
      rw[wrap_up (by omega) (show(i:Int)<(l.length:Int) by omega) (by omega)];exact hr
    · intro j hj hp r' hr'
      refine ev_shift ?_;simp only[spec_l07Distinct.l1,spec_SameValue.f]
      refine ev_pos (by omega) (ev_pos (by omega) (ev_pos (by omega) (ev_pos (by omega) (ev_pos (by omega) (ev_bindc rfl (ev_neg (not_tt hp) ?_))))))
      rw[wrap_up (by omega) (show(j:Int)<(i:Int) by omega) (by omega)];exact hr'
    · intro j hj hp
      refine ev_shift ?_;simp only[spec_l07Distinct.l1,spec_SameValue.f]
      exact ev_pos (by omega) (ev_pos (by omega) (ev_pos (by omega) (ev_pos (by omega) (ev_pos (by omega) (ev_bindc rfl (ev_pos (not_ff hp) (ev_some _)))))))
  refine idx_all (g:=fun k i=>spec_l07Distinct.l0 k l i) l.length _ ?_ ?_ ?_
  · refine ev_shift ?_;simp only[spec_l07Distinct.l0];exact ev_neg (by omega) (ev_some _)
  · intro i hi hp r hr
    have:=inner i hi r hr
    rw[hp]at this
    simpa using this
  · intro i hi hp
    suffices h:∃r,Ev (fun k=>spec_l07Distinct.l0 k l ((i:Int)+1)) r by
      obtain⟨r,hr⟩:=h
      have:=inner i hi r hr
      rw[hp]at this
      simpa using this
    suffices h:∀d i:Nat,i+d=l.length→∃r,Ev (fun k=>spec_l07Distinct.l0 k l (i:Int)) r by
      have:=h (l.length-(i+1)) (i+1) (by omega)
      simpa using this
    intro d
    induction d with
    |zero=>intro i hi;exact⟨true,by refine ev_shift ?_;simp only[spec_l07Distinct.l0];exact ev_neg (by omega) (ev_some _)⟩
    |succ d ih=>
      intro i hi
      obtain⟨r,hr⟩:=ih (i+1) (by omega)
      exact⟨_,inner i (by omega) r (by simpa using hr)⟩
theorem take_rd (l:List S29) (i j:Nat) (hj:j<i) (hi:i≤l.length):rd_T29 (l.take i) (j:Int)=rd_T29 l (j:Int):=by
  have e1:rd_T29 (l.take i) (j:Int)=(l.take i)[j]'(by rw[List.length_take];omega):=getD_get _ _ j (by rw[List.length_take];omega)
  have e2:rd_T29 l (j:Int)=l[j]:=getD_get _ _ j (by omega)
  rw[e1,e2,List.getElem_take]
theorem impl_index_ev (l:List S29) (hl:l.length≤1048576) (x:S29):
    ∃v,Ev (fun k=>impl_Value.f k l x.f0 x.f1 x.f2 x.f3) v∧((v= -1∧∀i,i<l.length→sameV x (rd_T29 l (i:Int))=false)∨∃i:Nat,v=i∧i<l.length∧sameV x (rd_T29 l (i:Int))=true∧∀j,j<i→sameV x (rd_T29 l (j:Int))=false):=by
  simp only[impl_Value.f]
  refine idx_find (g:=fun k i=>impl_Value.l0 k l (l.length:Int) i x.f0 x.f1 x.f2 x.f3) l.length (fun i=>sameV x (rd_T29 l (i:Int))) ?_ ?_ ?_
  · refine ev_shift ?_;simp only[impl_Value.l0];exact ev_neg (by omega) (ev_some _)
  · intro i hi hp r hr
    refine ev_shift ?_;simp only[impl_Value.l0]
    refine ev_pos (by omega) (ev_pos (by omega) (ev_pos (by omega) (ev_neg (fun h=>absurd (hp.symm.trans h) Bool.false_ne_true) ?_)))
    rw[wrap_up (by omega) (show(i:Int)<(l.length:Int) by omega) (by omega)];exact hr
  · intro i hi hp
    refine ev_shift ?_;simp only[impl_Value.l0]
    exact ev_pos (by omega) (ev_pos (by omega) (ev_pos (by omega) (ev_pos hp (ev_some _))))
theorem impl_contains_ev (l:List S29) (hl:l.length≤1048576) (x:S29):
    Ev (fun k=>impl_Value_113.f k l x.f0 x.f1 x.f2 x.f3) (!allN l.length (fun i=> !sameV x (rd_T29 l (i:Int)))):=by
  obtain⟨v,hv,h⟩:=impl_index_ev l hl x
  simp only[impl_Value_113.f]
  refine ev_bind hv (ev_of_eq ?_)
  rcases h with⟨rfl,h⟩|⟨i,rfl,hi,hp,_⟩
  · rw[(allN_iff _ _).2 (fun i hi=>by rw[h i hi];rfl)];rfl
  · have:allN l.length (fun i=> !sameV x (rd_T29 l (i:Int)))=false:=by
      cases hA:allN l.length (fun i=> !sameV x (rd_T29 l (i:Int)))with
      |false=>rfl
      |true=>have:=(allN_iff _ _).1 hA i hi;rw[hp]at this;cases this
    rw[this,decide_eq_true (show(i:Int)≥0 by omega)];rfl
theorem impl_areDifferent_ev (l:List S29) (hl:l.length≤1048576):Ev (fun k=>impl_areDifferent.f k l) (difV l):=by
  simp only[impl_areDifferent.f]
  have inner:∀i,i<l.length→Ev (fun k=>impl_Value_113.f k (l.take (i:Int).toNat) (rd_T29 l (i:Int)).f0 (rd_T29 l (i:Int)).f1 (rd_T29 l (i:Int)).f2 (rd_T29 l (i:Int)).f3) (!allN i (fun j=> !sameV (rd_T29 l (i:Int)) (rd_T29 l (j:Int)))):=by
    intro i hi
    have hlt:(l.take (i:Int).toNat).length=i:=by rw[List.length_take];omega
    have:=impl_contains_ev (l.take (i:Int).toNat) (by omega) (rd_T29 l (i:Int))
    rw[hlt]at this
    rw[allN_congr (Q:=fun j=> !sameV (rd_T29 l (i:Int)) (rd_T29 l (j:Int))) (fun j hj=>by rw[Int.toNat_natCast,take_rd l i j hj (by omega)])]at this
    exact this
  refine idx_all (g:=fun k i=>impl_areDifferent.l0 k l l (l.length:Int) i) l.length _ ?_ ?_ ?_
  · refine ev_shift ?_;simp only[impl_areDifferent.l0];exact ev_neg (by omega) (ev_some _)
  · intro i hi hp r hr
    refine ev_shift ?_;simp only[impl_areDifferent.l0]
    refine ev_pos (by omega) (ev_pos (by omega) (ev_pos (by omega) (ev_pos (by omega) (ev_bind (inner i hi) (ev_neg (by rw[hp];decide) ?_)))))
    rw[wrap_up (by omega) (show(i:Int)<(l.length:Int) by omega) (by omega)];exact hr
  · intro i hi hp
    refine ev_shift ?_;simp only[impl_areDifferent.l0]
    exact ev_pos (by omega) (ev_pos (by omega) (ev_pos (by omega) (ev_pos (by omega) (ev_bind (inner i hi) (ev_pos (by rw[hp];rfl) (ev_some _))))))
def nameV (x:S29):Bool:=decide (x.f0=1)&&isNameS x.f2
def fieldV (x:S29):Bool:=nameV x&&vV x
def allF (l:List S29):Bool:=allN l.length (fun i=>fieldV (rd_T29 l (i:Int)))
def fieldsV (l:List S29):Bool:=decide (1≤l.length)&&(decide (l.length≤6)&&(allF l&&difV l))
theorem spec_l07FieldNames_ev (l:List S29) (hl:l.length≤1048576):Ev (fun k=>spec_l07FieldNames.f k l) (fieldsV l):=by
  simp only[spec_l07FieldNames.f]
  have e:fieldsV l=(allN l.length (fun i=>nameV (rd_T29 l (i:Int)))&&(decide (1≤l.length)&&((decide ((l.length:Int)≤6)&&allV l)&&difV l))):=by
    have:decide ((l.length:Int)≤6)=decide (l.length≤6):=decide_eq_decide.2 (by omega)
    simp only[fieldsV,allF,allV,fieldV,allN_and,this]
    cases allN l.length (fun i=>nameV (rd_T29 l (i:Int)))<;>cases decide (1≤l.length)<;>cases decide (l.length≤6)<;>cases difV l<;>simp
  rw[e]
  refine idx_and (g:=fun k i=>spec_l07FieldNames.l0 k l i) l.length _ _ ?_ ?_ ?_
  · refine ev_shift ?_; simp only [spec_l07FieldNames.l0]
    refine ev_neg (by omega) ?_
    by_cases h:(l.length:Int)≥1
    · refine ev_pos h (ev_bind (spec_l07ValidValues_ev l 6 hl) ?_)
      rw[decide_eq_true (show 1≤l.length by omega),Bool.true_and]
      cases decide ((l.length:Int)≤6)&&allV l with
      |false=>exact ev_neg Bool.false_ne_true (ev_some _)
      |true=>exact ev_pos rfl (ev_bind (spec_l07Distinct_ev l hl) (ev_some _))
    · refine ev_neg h ?_
      rw[decide_eq_false (show ¬1≤l.length by omega)];exact ev_some _
  · intro i hi hp r hr
    refine ev_shift ?_;simp only[spec_l07FieldNames.l0]
    have hp':=hp
    simp only[nameV,Bool.and_eq_true,decide_eq_true_eq]at hp'
    refine ev_pos (by omega) (ev_pos (by omega) (ev_pos hp'.1 (ev_bind (spec_IsName_ev _) (ev_pos hp'.2 ?_))))
    rw[wrap_up (by omega) (show(i:Int)<(l.length:Int) by omega) (by omega)];exact hr
  · intro i hi hp
    refine ev_shift ?_;simp only[spec_l07FieldNames.l0]
    refine ev_pos (by omega) (ev_pos (by omega) ?_)
    by_cases h:(rd_T29 l (i:Int)).f0=1
    · refine ev_pos h (ev_bind (spec_IsName_ev _) (ev_neg (fun h2 => ?_) (ev_some _)))
      simp only[nameV,h,h2]at hp
      cases hp
    · exact ev_neg h (ev_some _)
theorem name_val (x:S29):fieldV x=((x.f0==1&&(x.f1==0&&(x.f2.toList==x.f2.toList&&x.f3==0)))&&isNameS x.f2):=by
  by_cases h:x.f0=1
  · cases hn : isNameS x.f2 with
    |false=>simp[fieldV,nameV,hn]
    |true=>
      have hs:x.f2.size≤200:=by
        simp only[isNameS,Bool.and_eq_true,decide_eq_true_eq]at hn
        omega
      by_cases h1:x.f1=0<;>by_cases h3:x.f3=0<;>simp[fieldV,nameV,vV,validV,h,hn,h1,h3,hs]
  · simp[fieldV,nameV,h]
theorem impl_isField_ev (x:S29):Ev (fun k=>impl_isField.f k x.f0 x.f1 x.f2 x.f3) (fieldV x):=by
  rw[name_val]
  simp only[impl_isField.f,impl_textOf.f]
  refine ev_bindc rfl ?_
  cases h:(x.f0==1&&(x.f1==0&&(x.f2.toList==x.f2.toList&&x.f3==0)))with
  |false=>exact ev_neg Bool.false_ne_true (ev_some _)
  |true=>exact ev_pos rfl (ev_bind (impl_IsName_ev _) (ev_some _))
theorem impl_allF_ev (l:List S29) (hl:l.length≤1048576):Ev (fun k=>impl_Value__impl_isField.f k l) (allF l):=by
  simp only[impl_Value__impl_isField.f]
  refine idx_all (g:=fun k i=>impl_Value__impl_isField.l0 k l (l.length:Int) i) l.length (fun i=>fieldV (rd_T29 l (i:Int))) ?_ ?_ ?_
  · refine ev_shift ?_;simp only[impl_Value__impl_isField.l0];exact ev_neg (by omega) (ev_some _)
  · intro i hi hp r hr
    refine ev_shift ?_;simp only[impl_Value__impl_isField.l0]
    refine ev_pos (by omega) (ev_pos (by omega) (ev_pos (by omega) (ev_bind (impl_isField_ev _) (ev_pos hp ?_))))
    rw[wrap_up (by omega) (show(i:Int)<(l.length:Int) by omega) (by omega)];exact hr
  · intro i hi hp
    refine ev_shift ?_;simp only[impl_Value__impl_isField.l0]
    refine ev_pos (by omega) (ev_pos (by omega) (ev_pos (by omega) (ev_bind (impl_isField_ev _) (ev_neg (fun h=>?_) (ev_some _)))))
    exact absurd (hp.symm.trans h) Bool.false_ne_true
def zeroB (a b:Int) (t:ByteArray) (c:Int):Bool:=a==0&&(b==0&&(t.toList.isEmpty&&c==0))
def kindV (f1:Int) (f2:ByteArray) (f3:Int) (l4 l5:List S29) (v0 v1:Int) (v2:ByteArray) (v3:Int):Bool:=
  if f1=1 then f2.toList.isEmpty&&((decide (-1000≤f3)&&decide (f3≤1000))&&(decide (l4.length=0)&&zeroB v0 v1 v2 v3))
  else if f1=2 then f2.toList.isEmpty&&(decide (f3=0)&&(decide (l4.length=l5.length)&&(allV l4&&(difV l4&&validV v0 v1 v2 v3))))
  else if f1=3 then isNameS f2&&(decide (f3=0)&&(decide (l4.length=l5.length)&&(fieldsV l4&&zeroB v0 v1 v2 v3)))
  else false
def objV (f0 f1:Int) (f2:ByteArray) (f3:Int) (l4 l5:List S29) (v0 v1:Int) (v2:ByteArray) (v3:Int):Bool:=
  ((decide (1≤f0)&&decide (f0≤1000000))&&(decide (l5.length≤30)&&allV l5))&&kindV f1 f2 f3 l4 l5 v0 v1 v2 v3
theorem toL (t:ByteArray):(t.toList=[])=(t.toList.isEmpty=true):=by rw[List.isEmpty_iff]
theorem spec_obj_j0_ev (f0 f1:Int) (f2:ByteArray) (f3:Int) (l4 l5:List S29) (v0 v1:Int) (v2:ByteArray) (v3:Int) (h4:l4.length≤1048576) (h5:l5.length≤30):
    Ev (fun k=>spec_l07Object.j0 k false f0 f1 f2 f3 l4 l5 v0 v1 v2 v3) (kindV f1 f2 f3 l4 l5 v0 v1 v2 v3):=by
  refine ev_shift ?_
  simp only[spec_l07Object.j0,kindV,toL]
  refine ev_neg Bool.false_ne_true ?_
  by_cases c1:f1=1
  · refine ev_pos c1 ?_
    rw[if_pos c1]
    cases f2.toList.isEmpty with
    |false=>exact ev_neg Bool.false_ne_true (ev_some _)
    |true=>
      refine ev_pos rfl (ev_bindc (spec_l00In_eq _ _ _) ?_)
      cases decide (-1000≤f3)&&decide (f3≤1000)with
      |false=>exact ev_neg Bool.false_ne_true (ev_some _)
      |true=>
        refine ev_pos rfl ?_
        by_cases c:l4.length=0
        · refine ev_pos (by omega) (ev_of_eq ?_)
          rw[decide_eq_true c];rfl
        · refine ev_neg (by omega) (ev_of_eq ?_)
          rw[decide_eq_false c];rfl
  · refine ev_neg c1 ?_
    rw[if_neg c1]
    by_cases c2:f1=2
    · refine ev_pos c2 ?_
      rw[if_pos c2]
      cases f2.toList.isEmpty with
      |false=>exact ev_neg Bool.false_ne_true (ev_some _)
      |true=>
        refine ev_pos rfl ?_
        by_cases c:f3=0
        · refine ev_pos c ?_
          rw[decide_eq_true c]
          by_cases d:l4.length=l5.length
          · refine ev_pos (by omega) (ev_bind (spec_l07ValidValues_ev l4 30 h4) ?_)
            rw[decide_eq_true d,decide_eq_true (show(l4.length:Int)≤30 by omega)]
            simp only[Bool.true_and]
            cases allV l4 with
            |false=>exact ev_neg Bool.false_ne_true (ev_some _)
            |true=>
              refine ev_pos rfl (ev_bind (spec_l07Distinct_ev l4 h4) ?_)
              cases difV l4 with
              |false=>exact ev_neg Bool.false_ne_true (ev_some _)
              |true=>exact ev_pos rfl (ev_bind (spec_ValidValue_ev _ _ _ _) (ev_some _))
          · refine ev_neg (by omega) ?_
            rw[decide_eq_false d];exact ev_some _
        · refine ev_neg c ?_
          rw[decide_eq_false c];exact ev_some _
    · refine ev_neg c2 ?_
      rw[if_neg c2]
      by_cases c3:f1=3
      · refine ev_pos c3 (ev_bind (spec_IsName_ev _) ?_)
        rw[if_pos c3]
        cases isNameS f2 with
        |false=>exact ev_neg Bool.false_ne_true (ev_some _)
        |true=>
          refine ev_pos rfl ?_
          by_cases c:f3=0
          · refine ev_pos c ?_
            rw[decide_eq_true c]
            by_cases d:l4.length=l5.length
            · refine ev_pos (by omega) (ev_bind (spec_l07FieldNames_ev l4 h4) ?_)
              rw[decide_eq_true d]
              cases fieldsV l4 with
              |false=>exact ev_neg Bool.false_ne_true (ev_some _)
              |true=>exact ev_pos rfl (ev_some _)
            · refine ev_neg (by omega) ?_
              rw[decide_eq_false d];exact ev_some _
          · refine ev_neg c ?_
            rw[decide_eq_false c];exact ev_some _
      · refine ev_neg c3 ?_
        rw[if_neg c3];exact ev_some _
theorem spec_obj_bad (f0 f1:Int) (f2:ByteArray) (f3:Int) (l4 l5:List S29) (v0 v1:Int) (v2:ByteArray) (v3:Int):Ev (fun k=>spec_l07Object.j0 k true f0 f1 f2 f3 l4 l5 v0 v1 v2 v3) false:=by
  refine ev_shift ?_
  simp only[spec_l07Object.j0]
  simpa using ev_some false
theorem spec_ValidObject_ev (f0 f1:Int) (f2:ByteArray) (f3:Int) (l4 l5:List S29) (v0 v1:Int) (v2:ByteArray) (v3:Int) (h4:l4.length≤1048576) (h5:l5.length≤1048576):
    Ev (fun k=>spec_l07Object.f k f0 f1 f2 f3 l4 l5 v0 v1 v2 v3) (objV f0 f1 f2 f3 l4 l5 v0 v1 v2 v3):=by
  simp only[spec_l07Object.f,objV]
  refine ev_bindc (spec_l00In_eq _ _ _) ?_
  cases decide (1≤f0)&&decide (f0≤1000000)with
  |false=>exact ev_neg Bool.false_ne_true (by simpa using spec_obj_bad f0 f1 f2 f3 l4 l5 v0 v1 v2 v3)
  |true=>
    refine ev_pos rfl (ev_bind (spec_l07ValidValues_ev l5 30 h5) ?_)
    by_cases c:l5.length≤30
    · rw [decide_eq_true c, decide_eq_true (show (l5.length : Int) ≤ 30 by omega)]
      simp only[Bool.true_and]
      cases allV l5 with
      |false=>exact spec_obj_bad f0 f1 f2 f3 l4 l5 v0 v1 v2 v3
      |true=>simpa using spec_obj_j0_ev f0 f1 f2 f3 l4 l5 v0 v1 v2 v3 h4 c
    · rw [decide_eq_false c, decide_eq_false (show ¬ (l5.length : Int) ≤ 30 by omega)]
      simpa using spec_obj_bad f0 f1 f2 f3 l4 l5 v0 v1 v2 v3
theorem impl_obj_bad (f0 f1:Int) (f2:ByteArray) (f3:Int) (l4 l5:List S29) (v0 v1:Int) (v2:ByteArray) (v3:Int):Ev (fun k=>impl_ValidObject.j0 k true f0 f1 f2 f3 l4 l5 v0 v1 v2 v3) false:=by
  refine ev_shift ?_
  simp only[impl_ValidObject.j0]
  simpa using ev_some false
theorem impl_obj_j0 (f0 f1:Int) (f2:ByteArray) (f3:Int) (l4 l5:List S29) (v0 v1:Int) (v2:ByteArray) (v3:Int) (h4:l4.length≤1048576) (h5:l5.length≤30):
    Ev (fun k=>impl_ValidObject.j0 k false f0 f1 f2 f3 l4 l5 v0 v1 v2 v3) (kindV f1 f2 f3 l4 l5 v0 v1 v2 v3):=by
  refine ev_shift ?_
  simp only[impl_ValidObject.j0,kindV]
  refine ev_neg Bool.false_ne_true ?_
  by_cases c1:f1=1
  · refine ev_pos c1 (ev_bindc (impl_within_eq _ _ _) ?_)
    rw[if_pos c1]
    cases decide (-1000≤f3)&&decide (f3≤1000)with
    |false=>exact ev_neg Bool.false_ne_true (by simpa using ev_some false)
    |true=>
      refine ev_pos rfl ?_
      by_cases c:l4.length=0
      · refine ev_pos (by omega) ?_
        rw[decide_eq_true c]
        cases h:zeroB v0 v1 v2 v3 with
        |false=>exact ev_neg (fun h2=>absurd (h.symm.trans h2) Bool.false_ne_true) (by simpa using ev_some false)
        |true=>exact ev_pos h (by simpa using ev_some _)
      · refine ev_neg (by omega) ?_
        rw[decide_eq_false c];simpa using ev_some false
  · refine ev_neg c1 ?_
    rw[if_neg c1]
    by_cases c2:f1=2
    · refine ev_pos c2 ?_
      rw[if_pos c2]
      by_cases d:l4.length=l5.length
      · refine ev_pos (by omega) (ev_bind (impl_allV_ev l4 h4) ?_)
        rw[decide_eq_true d]
        cases allV l4 with
        |false=>exact ev_neg Bool.false_ne_true (by simpa using ev_some false)
        |true=>
          refine ev_pos rfl (ev_bind (impl_areDifferent_ev l4 h4) ?_)
          by_cases c:f3=0
          · refine ev_pos c ?_
            rw[decide_eq_true c]
            cases difV l4 with
            |false=>exact ev_neg Bool.false_ne_true (by simpa using ev_some false)
            |true=>
              refine ev_pos rfl (ev_bind (impl_ValidValue_ev _ _ _ _) ?_)
              cases validV v0 v1 v2 v3 with
              |false=>exact ev_neg Bool.false_ne_true (by simpa using ev_some false)
              |true=>exact ev_pos rfl (by simpa using ev_some _)
          · refine ev_neg c ?_
            rw[decide_eq_false c];simpa using ev_some false
      · refine ev_neg (by omega) ?_
        rw[decide_eq_false d];simpa using ev_some false
    · refine ev_neg c2 ?_
      rw[if_neg c2]
      by_cases c3:f1=3
      · refine ev_pos c3 ?_
        rw[if_pos c3]
        by_cases a1:1≤l4.length
        · refine ev_pos (by omega) ?_
          by_cases a2:l4.length≤6
          · refine ev_pos (by omega) ?_
            by_cases d:l4.length=l5.length
            · refine ev_pos (by omega) (ev_bind (impl_allF_ev l4 h4) ?_)
              simp only[fieldsV]
              rw[decide_eq_true d,decide_eq_true a1,decide_eq_true a2]
              cases allF l4 with
              |false=>exact ev_neg Bool.false_ne_true (by simpa using ev_some false)
              |true=>
                refine ev_pos rfl (ev_bind (impl_areDifferent_ev l4 h4) ?_)
                by_cases c:f3=0
                · refine ev_pos c ?_
                  rw[decide_eq_true c]
                  cases difV l4 with
                  |false=>exact ev_neg Bool.false_ne_true (by simpa using ev_some false)
                  |true=>
                    refine ev_pos rfl ?_
                    cases h:zeroB v0 v1 v2 v3 with
                    |false=>exact ev_neg (fun h2=>absurd (h.symm.trans h2) Bool.false_ne_true) (by simpa using ev_some false)
                    |true=>exact ev_pos h (ev_bind (impl_IsName_ev _) (by simpa using ev_some _))
                · refine ev_neg c ?_
                  rw[decide_eq_false c];simpa using ev_some false
            · refine ev_neg (by omega) ?_
              rw[decide_eq_false d];simpa using ev_some false
          · refine ev_neg (by omega) ?_
            simp only[fieldsV]
            rw[decide_eq_false a2];simpa using ev_some false
        · refine ev_neg (by omega) ?_
          simp only[fieldsV]
          rw[decide_eq_false a1];simpa using ev_some false
      · refine ev_neg c3 ?_
        rw[if_neg c3];exact ev_some _
theorem impl_ValidObject_ev (f0 f1:Int) (f2:ByteArray) (f3:Int) (l4 l5:List S29) (v0 v1:Int) (v2:ByteArray) (v3:Int) (h4:l4.length≤1048576) (h5:l5.length≤1048576):
    Ev (fun k=>impl_ValidObject.f k f0 f1 f2 f3 l4 l5 v0 v1 v2 v3) (objV f0 f1 f2 f3 l4 l5 v0 v1 v2 v3):=by
  simp only[impl_ValidObject.f,objV]
  refine ev_bindc (impl_isObjectId_eq _) ?_
  cases decide (1≤f0)&&decide (f0≤1000000)with
  |false=>exact ev_neg Bool.false_ne_true (by simpa using impl_obj_bad f0 f1 f2 f3 l4 l5 v0 v1 v2 v3)
  |true=>
    refine ev_pos rfl ?_
    by_cases c:l5.length≤30
    · refine ev_neg (by omega) (ev_bind (impl_allV_ev l5 h5) ?_)
      rw[decide_eq_true c]
      simp only[Bool.true_and]
      cases allV l5 with
      |false=>exact impl_obj_bad f0 f1 f2 f3 l4 l5 v0 v1 v2 v3
      |true=>simpa using impl_obj_j0 f0 f1 f2 f3 l4 l5 v0 v1 v2 v3 h4 c
    · refine ev_pos (by omega) ?_
      rw[decide_eq_false c]
      simpa using impl_obj_bad f0 f1 f2 f3 l4 l5 v0 v1 v2 v3
end Go.Proofs.Ytengilknjiobiaa.PureFnExactRefsOf
