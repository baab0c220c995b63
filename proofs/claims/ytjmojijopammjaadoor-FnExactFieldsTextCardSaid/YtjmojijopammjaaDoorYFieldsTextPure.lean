/- Both functions write the fields alike. -/
import Derived.Test.YtjmojijopammjaaDoorYFieldsTextA
import Derived.Test.YtjmojijopammjaaDoorYFieldsTextVValues
import Derived.Test.YtjmojijopammjaaDoorYFieldsTextVDigits
import Derived.Test.YtjmojijopammjaaDoorYFieldsTextVTexts
namespace Go.Proofs.YtjmojijopammjaaDoor.Pure
open Go.Proofs.YtjmojijopammjaaDoor.PureFnExactFieldsText Go.RowKit Go.Proofs.YtjmojijopammjaaDoorG Go.Proofs.YtjmojijopammjaaDoor.PFnExactCaptureText Go.Proofs.YtjmojijopammjaaDoorW.PrintWords Go.Proofs.YtjmojijopammjaaDoorW.PrintLast Go.Proofs.YtjmojijopammjaaDoorW.PrintMore
theorem rd_fl (xs:List S64) (i:Nat) (h:i<xs.length):rd_T64 xs (i:Int)=xs[i]:=getD_get _ xs i h
def fldB (x:S64):List UInt8:=if x.f0=true then(quoteQ x.f2).data.toList else Lib.itoa x.f1
def joinF (l : List S64) : Nat → List UInt8
  |0=>[]
  |n+1=>joinF l n++((if 0<n then[32]else[])++fldB (rd_T64 l (n:Int)))
theorem fldB_size (x:S64) (hx:Fine x):(fldB x).length≤2097160:=by
  have h2:x.f2.size≤1048576:=hx.2.2
  have h1: -9223372036854775808≤x.f1∧x.f1≤9223372036854775807:=hx.2.1
  unfold fldB
  split
  · have := quote_size x.f2
    rw[show(quoteQ x.f2).data.toList.length=(quoteQ x.f2).size by simp];omega
  · have := itoa_size x.f1 h1.1 h1.2
    rw[itoaB,size_bytes]at this;omega
theorem joinF_size (l:List S64) (hl:Fine l):∀n,n≤l.length→(joinF l n).length≤n*2097161:=by
  intro n
  induction n with
  |zero=>intro _;simp[joinF]
  |succ n ih=>
    intro hn
    have h1:=ih (by omega)
    have h2:=fldB_size (rd_T64 l (n:Int)) (by rw[rd_fl l n (by omega)];exact hl.mem (List.getElem_mem _))
    have h3:(if 0<n then([32]:List UInt8)else[]).length≤1:=by split<;>simp
    rw[joinF,List.length_append,List.length_append]
    omega
theorem bytesOf_mk (l:List UInt8):bytesOf ⟨l.toArray⟩=numsOf l:=by simp[bytesOf,numsOf]
theorem bytes_nums (t:ByteArray):bytesOf t=numsOf t.data.toList:=rfl
theorem mkd_ (t:ByteArray):(⟨t.data.toList.toArray⟩:ByteArray)=t:=by simp
theorem spec_text_loop (l:List S64) (hl:Fine l):∀d i:Nat,i+d=l.length→Ev (fun k=>spec_l26Text.l0 k l (numsOf (joinF l i)) (i:Int)) ⟨(joinF l l.length).toArray⟩:=by
  have hlen:l.length≤1048576:=hl.1
  intro d
  induction d with
  |zero=>
    intro i hi
    have e:i=l.length:=by omega
    subst e
    refine ev_shift ?_;simp only[spec_l26Text.l0]
    rw[str_nums]
    exact ev_neg (by omega) (ev_some _)
  |succ d ih=>
    intro i hi
    have hi2:i<l.length:=by omega
    have hx:Fine (rd_T64 l (i:Int)):=by rw[rd_fl l i hi2];exact hl.mem (List.getElem_mem _)
    have h2:(rd_T64 l (i:Int)).f2.size≤1048576:=hx.2.2
    have h1: -9223372036854775808≤(rd_T64 l (i:Int)).f1∧(rd_T64 l (i:Int)).f1≤9223372036854775807:=hx.2.1
    have hj:=joinF_size l hl i (by omega)
    have hf:=fldB_size _ hx
    have hw:=wrap_up (show(0:Int)≤(i:Int) by omega) (show(i:Int)<(l.length:Int) by omega) (by omega)
    have hk:=ih (i+1) (by omega)
    have J:∀sep:List UInt8,sep.length≤1→joinF l (i+1)=joinF l i++(sep++fldB (rd_T64 l (i:Int)))→Ev (fun k=>spec_l26Text.j1 k l (numsOf (joinF l i++sep)) (i:Int)) ⟨(joinF l l.length).toArray⟩:=by
      intro sep hs he
      rw[he]at hk
      refine ev_shift ?_;simp only[spec_l26Text.j1]
      refine ev_pos (by omega) (ev_pos (by omega) ?_)
      rw[hw]
      by_cases c:(rd_T64 l (i:Int)).f0=true
      · have e1 : fldB (rd_T64 l (i : Int)) = (quoteQ (rd_T64 l (i : Int)).f2).data.toList := by unfold fldB; rw [if_pos c]
        have hz:(quoteQ (rd_T64 l (i:Int)).f2).size=(fldB (rd_T64 l (i:Int))).length:=by rw[e1];simp
        refine ev_pos c (ev_bind (l11Literal_ev _ h2) (ev_pos (by rw[numsO_length,List.length_append,hz];omega) ?_))
        rw[bytes_nums, ←e1, ←numsO_append,List.append_assoc]
        exact hk
      · have e1 : fldB (rd_T64 l (i : Int)) = Lib.itoa (rd_T64 l (i : Int)).f1 := by unfold fldB; rw [if_neg c]
        have hz:(itoaB (rd_T64 l (i:Int)).f1).size=(fldB (rd_T64 l (i:Int))).length:=by rw[e1,itoaB,size_bytes]
        refine ev_neg c (ev_bind (spec_digits_ev _ h1.1 h1.2) (ev_pos (by rw[numsO_length,List.length_append,hz];omega) ?_))
        rw[itoaB,bytesOf_mk, ←e1, ←numsO_append,List.append_assoc]
        exact hk
    refine ev_shift ?_;simp only[spec_l26Text.l0]
    refine ev_pos (by omega) ?_
    by_cases c:0<i
    · refine ev_pos (by omega) (ev_pos (by rw [numsO_length]; omega) ?_)
      rw[show([32]:List Int)=numsOf [32] from rfl, ←numsO_append]
      exact J [32] (by simp) (by rw[joinF,if_pos c])
    · refine ev_neg (by omega) ?_
      have:=J [] (by simp) (by rw[joinF,if_neg c])
      rw[List.append_nil]at this
      exact this
theorem impl_field_eq (x:S64) (hx:Fine x):impl_Field_text.f x.f0 x.f1 x.f2=some ⟨(fldB x).toArray⟩:=by
  have h2:x.f2.size≤1048576:=hx.2.2
  have h1: -9223372036854775808≤x.f1∧x.f1≤9223372036854775807:=hx.2.1
  simp only[impl_Field_text.f,fldB]
  by_cases c:x.f0=true
  · rw[if_pos c,if_pos c,impl_Quote_eq _ h2,Option.bind_some,mkd_]
  · rw[if_neg c,if_neg c,impl_decimal_eq _ h1.1 h1.2,Option.bind_some];rfl
theorem impl_text_loop (l:List S64) (hl:Fine l):∀d i:Nat,i+d=l.length→Ev (fun k=>impl_FieldsText.l0 k l ⟨(joinF l i).toArray⟩ (i:Int)) ⟨(joinF l l.length).toArray⟩:=by
  have hlen:l.length≤1048576:=hl.1
  intro d
  induction d with
  |zero=>
    intro i hi
    have e:i=l.length:=by omega
    subst e
    refine ev_shift ?_;simp only[impl_FieldsText.l0]
    exact ev_neg (by omega) (ev_some _)
  |succ d ih=>
    intro i hi
    have hi2:i<l.length:=by omega
    have hx:Fine (rd_T64 l (i:Int)):=by rw[rd_fl l i hi2];exact hl.mem (List.getElem_mem _)
    have hj:=joinF_size l hl i (by omega)
    have hf:=fldB_size _ hx
    have hw:=wrap_up (show(0:Int)≤(i:Int) by omega) (show(i:Int)<(l.length:Int) by omega) (by omega)
    have hk:=ih (i+1) (by omega)
    refine ev_shift ?_;simp only[impl_FieldsText.l0]
    rw[hw]
    refine ev_pos (by omega) (ev_pos (by omega) (ev_bindc (impl_field_eq _ hx) ?_))
    by_cases c:0<i
    · refine ev_pos (by omega) (ev_pos (by rw [size_bytes, size_bytes]; omega) ?_)
      rw[show(⟨#[32]⟩:ByteArray)=⟨([32]:List UInt8).toArray⟩ from rfl,cat_bytes,cat_bytes,List.append_assoc]
      rw[joinF,if_pos c]at hk
      exact hk
    · refine ev_neg (by omega) (ev_pos (by rw [size_bytes, size_bytes]; omega) ?_)
      rw[cat_bytes]
      rw[joinF,if_neg c,List.nil_append]at hk
      exact hk
def okF (x:S64):Bool:=if x.f0=true then x.f1==0 else(decide (-1000000000000000≤x.f1)&&decide (x.f1≤1000000000000000))&&x.f2.toList.isEmpty
theorem spec_valid_eq (x:S64):spec_l26Valid.f x.f0 x.f1 x.f2=some (okF x):=by
  simp only[spec_l26Valid.f,okF]
  by_cases c:x.f0=true
  · rw[if_pos c,if_pos c]
  · rw [if_neg c, if_neg c, spec_l00In_eq, Option.bind_some]
    by_cases e:x.f2.toList=[]
    · rw[if_pos e,e];simp
    · rw[if_neg e];simp[e]
theorem impl_valid_eq (x:S64):impl_Field_isValid.f x.f0 x.f1 x.f2=some (okF x):=by
  simp only[impl_Field_isValid.f,okF]
  by_cases c:x.f0=true
  · rw[if_pos c,if_pos c]
  · rw [if_neg c, if_neg c, impl_within_eq, Option.bind_some]
    cases(decide (-1000000000000000≤x.f1)&&decide (x.f1≤1000000000000000))<;>simp
theorem spec_all_loop (l:List S64) (hl:Fine l):∀d i:Nat,i+d=l.length→Ev (fun k=>spec_FieldsText.l0 k l (i:Int)) (if(l.drop i).all okF=true then⟨(joinF l l.length).toArray⟩else⟨#[]⟩):=by
  have hlen:l.length≤1048576:=hl.1
  intro d
  induction d with
  |zero=>
    intro i hi
    refine ev_shift ?_;simp only[spec_FieldsText.l0]
    rw[List.drop_of_length_le (by omega)]
    refine ev_neg (by omega) ?_
    have:=spec_text_loop l hl l.length 0 (by omega)
    refine ev_bind (a:=⟨(joinF l l.length).toArray⟩) ?_ (ev_some _)
    simp only[spec_l26Text.f]
    exact this
  |succ d ih=>
    intro i hi
    have hi2:i<l.length:=by omega
    have hw:=wrap_up (show(0:Int)≤(i:Int) by omega) (show(i:Int)<(l.length:Int) by omega) (by omega)
    refine ev_shift ?_;simp only[spec_FieldsText.l0]
    rw[hw]
    refine ev_pos (by omega) (ev_pos (by omega) (ev_bindc (spec_valid_eq _) ?_))
    rw[List.drop_eq_getElem_cons hi2,List.all_cons,rd_fl l i hi2]
    cases c:okF l[i]with
    |true=>exact ev_pos rfl (by simpa using ih (i+1) (by omega))
    |false=>exact ev_neg Bool.false_ne_true (ev_some _)
theorem core2 (l:List S64) (hl:Fine l):∃x,Ev (fun j=>spec_FieldsText.f j l) x∧Ev (fun j=>impl_FieldsText.f j l) x:=by
  have hlen:l.length≤1048576:=hl.1
  simp only[spec_FieldsText.f,impl_FieldsText.f]
  by_cases c:(l.length:Int)>20000
  · exact⟨⟨#[]⟩,ev_pos c (ev_some _),ev_pos (by omega) (ev_pos c (ev_some _))⟩
  · have hs := spec_all_loop l hl l.length 0 (by omega)
    rw[List.drop_zero]at hs
    have ha:Ev (fun k=>impl_Field__impl_Field_isValid.f k l) (l.all okF):=by
      simp only[impl_Field__impl_Field_isValid.f]
      exact areAll_loop impl_Field__impl_Field_isValid.l0 rd_T64 (fun _ x=>impl_Field_isValid.f x.f0 x.f1 x.f2) okF (fun k xs n i=>by simp only[impl_Field__impl_Field_isValid.l0]) rd_fl l (by omega) (fun x _=>ev_of_eq (impl_valid_eq x))
    refine⟨_,ev_neg c hs,ev_pos (by omega) (ev_neg c (ev_bind ha ?_))⟩
    cases e:l.all okF with
    |true=>exact ev_pos rfl (by simpa[joinF]using impl_text_loop l hl l.length 0 (by omega))
    |false=>exact ev_neg Bool.false_ne_true (ev_some _)
theorem FnExactFieldsText:laws_FnExactFieldsText.Pure:=by
  intro x0 w_x0
  suffices hh:Ev (fun k=>laws_FnExactFieldsText.f k x0) true by
    obtain⟨K,hK⟩:=hh
    exact⟨K,hK K (Nat.le_refl _)⟩
  simp only[laws_FnExactFieldsText.f]
  obtain⟨v1,e1,b1,q1⟩:=laws_szFieldS_sz x0 1048576 (w_x0) (by omega) (by omega)
  refine ev_bind e1 (ev_skip fun c1=>?_)
  obtain g1_0:=q1 (by omega)
  obtain⟨v2,e2,g2⟩:=laws_toFieldS_to x0 g1_0
  refine ev_bind e2 ?_
  obtain⟨r,es,ei⟩:=core2 v2 g2
  refine ev_bind es (ev_bind e2 (ev_bind ei (ev_pos rfl (ev_bind e2 (ev_bind (laws_eqFieldS_rf _ g2) (ev_pos rfl (ev_some _)))))))
end Go.Proofs.YtjmojijopammjaaDoor.Pure
