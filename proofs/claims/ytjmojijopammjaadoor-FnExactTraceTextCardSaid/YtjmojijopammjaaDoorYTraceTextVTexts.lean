/- What the functions that quote texts and write values come to: quoteQ, and both write a value alike. No condition. -/
import Derived.Test.YtjmojijopammjaaDoorYTraceTextVValues
import Derived.Test.YtjmojijopammjaaDoorYTraceTextVDigits
import Derived.Test.YtjmojijopammjaaDoorYCtW3
import Derived.Test.YtjmojijopammjaaDoorYCtP0
import Derived.Test.YtjmojijopammjaaDoorYCtP5
import Derived.Test.YtjmojijopammjaaDoorYCtP10
import Derived.Test.YtjmojijopammjaaDoorYCtP14
namespace Go.Proofs.YtjmojijopammjaaDoor.PureFnExactTraceText
open Go.RowKit Go.Proofs.YtjmojijopammjaaDoorG Go.Proofs.YtjmojijopammjaaDoor.PFnExactCaptureText Go.Proofs.YtjmojijopammjaaDoorW.PrintWords Go.Proofs.YtjmojijopammjaaDoorW.PrintLast Go.Proofs.YtjmojijopammjaaDoorW.PrintMore
set_option linter.unusedSimpArgs false
set_option linter.unusedVariables false
def dblB (l:List UInt8):List UInt8:=l.flatMap (fun c=>if c=34 then[34,34]else[c])
theorem index_ne (b c:UInt8) (l:List UInt8) (h:b≠c):Lib.index (b::l) [c]=if Lib.index l [c]== -1 then-1 else Lib.index l [c]+1:=by
  have hp:([c]:List UInt8).isPrefixOf (b::l)=false:=by simp[List.isPrefixOf,Ne.symm h]
  rw[Lib.index,hp];rfl
theorem index_eq (c:UInt8) (l:List UInt8):Lib.index (c::l) [c]=0:=by
  have hp:([c]:List UInt8).isPrefixOf (c::l)=true:=by simp[List.isPrefixOf]
  rw[Lib.index,hp];rfl
theorem repK_ne (b c:UInt8) (new:List UInt8) (k:Nat) (l:List UInt8) (h:b≠c):Lib.replaceK [c] new k (b::l)=b::Lib.replaceK [c] new k l:=by
  cases k with
  |zero=>rfl
  |succ k=>
    have hi:=index_ne b c l h
    by_cases e:Lib.index l [c]= -1
    · rw [e] at hi
      rw[Lib.replaceK,Lib.replaceK,e,hi]
      rfl
    · have hge := Lib.index_ge l [c]
      have h1:Lib.index l [c]=((Lib.index l [c]).toNat:Int):=by omega
      have h2:Lib.index (b::l) [c]=(((Lib.index l [c]).toNat+1:Nat):Int):=by
        rw[hi,if_neg (by simpa using e)];omega
      rw[Lib.replaceK_hit _ _ _ _ _ h1,Lib.replaceK_hit _ _ _ _ _ h2,Nat.add_right_comm]
      rfl
theorem repK_eq (c:UInt8) (new:List UInt8) (k:Nat) (l:List UInt8):Lib.replaceK [c] new (k+1) (c::l)=new++Lib.replaceK [c] new k l:=by
  rw[Lib.replaceK_hit [c] new k (c::l) 0 (index_eq c l)]
  rfl
theorem rep_dbl : ∀ s : List UInt8, Lib.replaceK [34] [34, 34] (Lib.count s [34]) s = dblB s
  |[]=>by rfl
  |b::l=>by
    by_cases h:b=34
    · subst h
      rw[Lib.count_hit (i:=0) (by simp) (index_eq 34 l),Nat.add_comm 1]
      rw[repK_eq]
      rw[show(List.drop (0+[(34:UInt8)].length) (34::l))=l from rfl,rep_dbl l]
      rfl
    · rw [Lib.count_cons_ne b 34 l h, repK_ne b 34 _ _ _ h, rep_dbl l]
      simp[dblB,h]
theorem replaceAll_dbl (s:List UInt8):Lib.replaceAll s [34] [34,34]=dblB s:=by
  unfold Lib.replaceAll Lib.replace Lib.replaceNum
  rw[if_neg (by decide),if_pos (Or.inl (by decide))]
  exact rep_dbl s
theorem dbl_length (s:List UInt8):(dblB s).length≤2*s.length:=by
  induction s with
  |nil=>decide
  |cons b l ih=>
    unfold dblB at *
    rw[List.flatMap_cons,List.length_append]
    have:(if b=34 then[(34:UInt8),34]else[b]).length≤2:=by split<;>simp
    simp only[List.length_cons]
    omega
def quoteQ (t:ByteArray):ByteArray:=⟨(34::(dblB t.data.toList++[34])).toArray⟩
theorem dbl_append (a b:List UInt8):dblB (a++b)=dblB a++dblB b:=by simp[dblB]
theorem impl_Quote_eq (t:ByteArray) (ht:t.size≤1048576):impl_QuoteText.f t=some (quoteQ t):=by
  have hc:Lib.countB t (⟨#[34]⟩:ByteArray)≤t.size+1:=by
    have:=Lib.count_le t.data.toList [34]
    have e:t.data.toList.length=t.size:=by simp
    unfold Lib.countB
    first|omega|(simpa using this)
  have hd:=dbl_length t.data.toList
  have e:t.data.toList.length=t.size:=by simp
  have e1:(⟨#[34]⟩:ByteArray).size=1:=rfl
  have e2:(⟨#[34,34]⟩:ByteArray).size=2:=rfl
  have hr:strings_ReplaceAll.f t (⟨#[34]⟩:ByteArray) (⟨#[34,34]⟩:ByteArray)=some ⟨(dblB t.data.toList).toArray⟩:=by
    unfold strings_ReplaceAll.f
    rw[if_pos (by omega),if_pos (by omega),if_pos (by rw[e2];omega)]
    rw[←replaceAll_dbl]
  simp only[impl_QuoteText.f]
  rw[hr,Option.bind_some,if_pos (by rw[size_bytes];omega),if_pos (by rw[size_bytes];omega)]
  rw[show(⟨#[34]⟩:ByteArray)=⟨([34]:List UInt8).toArray⟩ from rfl,cat_bytes,cat_bytes]
  rfl
theorem one_byte (t:ByteArray) (i:Nat) (h:i<t.data.toList.length):t.extract i (i+1)=⟨([t.data.toList[i]]:List UInt8).toArray⟩:=by
  apply ByteArray.ext
  apply Array.toList_inj.1
  simp only[ByteArray.data_extract,Array.toList_extract,List.extract]
  rw[show i+1-i=1 by omega]
  have:=List.drop_eq_getElem_cons h
  rw[this]
  rfl
theorem spec_Quote_loop (t:ByteArray) (ht:t.size≤1048576):∀d i:Nat,i+d=t.size→Ev (fun k=>spec_QuoteText.l0 k t ⟨(34::dblB (t.data.toList.take i)).toArray⟩ (i:Int)) (quoteQ t):=by
  have e:t.data.toList.length=t.size:=by simp
  have e1:(⟨#[34]⟩:ByteArray).size=1:=rfl
  intro d
  induction d with
  |zero=>
    intro i hi
    have hd:=dbl_length (t.data.toList.take i)
    have hl:=List.length_take_le i t.data.toList
    refine ev_shift ?_;simp only[spec_QuoteText.l0]
    refine ev_neg (by omega) (ev_pos (by rw[size_bytes,List.length_cons];omega) ?_)
    rw[show(⟨#[34]⟩:ByteArray)=⟨([34]:List UInt8).toArray⟩ from rfl,cat_bytes,List.take_of_length_le (by omega)]
    exact ev_some _
  |succ d ih=>
    intro i hi
    have hi2:i<t.data.toList.length:=by omega
    have hd:=dbl_length (t.data.toList.take i)
    have hl:=List.length_take_le i t.data.toList
    have hw:=wrap_up (show(0:Int)≤(i:Int) by omega) (show(i:Int)<(t.size:Int) by omega) (by omega)
    have hx:=one_byte t i hi2
    have hk:=ih (i+1) (by omega)
    rw[List.take_succ_eq_append_getElem hi2,dbl_append]at hk
    have hb:bt t (i:Int)=(t.data.toList[i].toNat:Int):=by
      rw[bt_get t i (by omega)];simp[bytesOf]
    refine ev_shift ?_;simp only[spec_QuoteText.l0]
    rw[hw,Int.toNat_natCast,show((i:Int)+1).toNat=i+1 by omega,hx]
    refine ev_pos (by omega) (ev_pos (by omega) ?_)
    by_cases c:t.data.toList[i]=34
    · rw [show dblB [t.data.toList[i]] = [34, 34] by rw [c]; rfl] at hk
      rw[c]
      refine ev_pos (by rw[hb,c];rfl) (ev_pos (by rw[size_bytes,List.length_cons];omega) (ev_pos (by omega) (ev_pos (by omega) (ev_pos (by rw[size_bytes,size_bytes,List.length_cons];simp;omega) ?_))))
      rw[show(⟨#[34]⟩:ByteArray)=⟨([34]:List UInt8).toArray⟩ from rfl,cat_bytes,cat_bytes]
      simpa using hk
    · rw [show dblB [t.data.toList[i]] = [t.data.toList[i]] by show (if t.data.toList[i] = 34 then [34, 34] else [t.data.toList[i]]) ++ [] = [t.data.toList[i]]; rw [if_neg c]; rfl] at hk
      refine ev_neg (by rw[hb];intro h;exact c (UInt8.toNat_inj.1 (by show t.data.toList[i].toNat=34;omega))) (ev_pos (by omega) (ev_pos (by omega) (ev_pos (by rw[size_bytes,size_bytes,List.length_cons];simp;omega) ?_)))
      rw[cat_bytes]
      simpa using hk
theorem spec_Quote_ev (t:ByteArray) (ht:t.size≤1048576):Ev (fun k=>spec_QuoteText.f k t) (quoteQ t):=by
  simp only[spec_QuoteText.f]
  simpa[dblB]using spec_Quote_loop t ht t.size 0 (by omega)
theorem valid_kind {k n:Int} {t:ByteArray} {r:Int} (h:validV k n t r=true):1≤k∧k≤8:=by
  refine Classical.byContradiction fun c=>?_
  have h1:k≠1:=by omega
  have h2:k≠2:=by omega
  have h3:k≠3:=by omega
  have h4:k≠4:=by omega
  have h5:k≠5:=by omega
  have h6:k≠6:=by omega
  have h7:k≠7:=by omega
  have h8:k≠8:=by omega
  simp[validV,h1,h2,h3,h4,h5,h6,h7,h8]at h
theorem quote_size (t:ByteArray):(quoteQ t).size≤2*t.size+2:=by
  have hd:=dbl_length t.data.toList
  have e:t.data.toList.length=t.size:=by simp
  rw[quoteQ,size_bytes,List.length_cons,List.length_append]
  simp only[List.length_cons,List.length_nil]
  omega
theorem text_two (k n:Int) (t:ByteArray) (r:Int) (hv:validV k n t r=true) (hn': -9223372036854775808≤n∧n≤9223372036854775807) (ht':t.size≤1048576) (hr': -9223372036854775808≤r∧r≤9223372036854775807):
    ∃x:ByteArray,x.size≤4194304∧Ev (fun j=>spec_ValueText.f j k n t r) x∧impl_Value_text.f k n t r=some x:=by
  have hs:=spec_ValidValue_ev k n t r
  have hk:=valid_kind hv
  have hq:=quote_size t
  rw[hv]at hs
  have o1:(⟨#[60]⟩:ByteArray).size=1:=rfl
  have o2:(⟨#[62]⟩:ByteArray).size=1:=rfl
  have o3:(⟨#[46]⟩:ByteArray).size=1:=rfl
  have o4:(⟨#[42]⟩:ByteArray).size=1:=rfl
  have o5:(⟨#[35]⟩:ByteArray).size=1:=rfl
  simp only[spec_ValueText.f]
  by_cases k1:k=1
  · exact⟨quoteQ t,by omega,ev_bind hs (ev_pos rfl (ev_pos k1 (ev_bind (spec_Quote_ev t ht') (ev_some _)))),by simp only[impl_Value_text.f];rw[if_pos k1,impl_Quote_eq t ht',Option.bind_some]⟩
  by_cases k2:k=2
  · exact⟨itoaB n,by have:=itoa_size n hn'.1 hn'.2;omega,ev_bind hs (ev_pos rfl (ev_neg k1 (ev_pos k2 (ev_bind (spec_digits_ev n hn'.1 hn'.2) (ev_some _))))),by simp only[impl_Value_text.f];rw[if_neg k1,if_pos k2,impl_decimal_eq n hn'.1 hn'.2,Option.bind_some]⟩
  by_cases k3:k=3
  · exact⟨_,by rw[ByteArray.size_append,ByteArray.size_append];omega,ev_bind hs (ev_pos rfl (ev_neg k1 (ev_neg k2 (ev_pos k3 (ev_pos (by omega) (ev_pos (by omega) (ev_some (((⟨#[60]⟩:ByteArray)++t)++(⟨#[62]⟩:ByteArray))))))))),by simp only[impl_Value_text.f];rw[if_neg k1,if_neg k2,if_pos k3,if_pos (by omega),if_pos (by omega)]⟩
  by_cases k7:k=7
  · exact⟨_,by rw[ByteArray.size_append];omega,ev_bind hs (ev_pos rfl (ev_neg k1 (ev_neg k2 (ev_neg k3 (ev_pos k7 (ev_pos (by omega) (ev_some ((⟨#[46]⟩:ByteArray)++t)))))))),by simp only[impl_Value_text.f];rw[if_neg k1,if_neg k2,if_neg k3,if_pos k7,if_pos (by omega)]⟩
  by_cases k8:k=8
  · exact⟨_,by rw[ByteArray.size_append];omega,ev_bind hs (ev_pos rfl (ev_neg k1 (ev_neg k2 (ev_neg k3 (ev_neg k7 (ev_pos k8 (ev_pos (by omega) (ev_some ((⟨#[42]⟩:ByteArray)++t))))))))),by simp only[impl_Value_text.f];rw[if_neg k1,if_neg k2,if_neg k3,if_neg k7,if_pos k8,if_pos (by omega)]⟩
  have hd:=itoa_size r hr'.1 hr'.2
  have hT:Ev (fun j=>spec_DataType.f j k n t r) (rdOf ByteArray.empty impl_typeName.names k):=by
    simp only[spec_DataType.f]
    have hw:wrap64 (k- 1)=k- 1:=by unfold wrap64;omega
    rw[hw]
    refine ev_bind hs (ev_pos rfl (ev_bind (ev_some _) ?_))
    have:k=4∨k=5∨k=6:=by omega
    rcases this with rfl|rfl|rfl<;>exact ev_pos (by decide) (ev_pos (by decide) (ev_some _))
  have hz:(rdOf ByteArray.empty impl_typeName.names k).size≤100:=by
    have:k=4∨k=5∨k=6:=by omega
    rcases this with rfl|rfl|rfl<;>decide
  exact⟨(rdOf ByteArray.empty impl_typeName.names k++(⟨#[35]⟩:ByteArray))++itoaB r,by rw[ByteArray.size_append,ByteArray.size_append];omega,ev_bind hs (ev_pos rfl (ev_neg k1 (ev_neg k2 (ev_neg k3 (ev_neg k7 (ev_neg k8 (ev_bind hT (ev_pos (by omega) (ev_bind (spec_digits_ev r hr'.1 hr'.2) (ev_pos (by omega) (ev_some _))))))))))),by simp only[impl_Value_text.f,impl_typeName.f];rw[if_neg k1,if_neg k2,if_neg k3,if_neg k7,if_neg k8,if_pos (by omega),if_pos (by omega),Option.bind_some,if_pos (by omega),impl_decimal_eq r hr'.1 hr'.2,Option.bind_some,if_pos (by omega)]⟩
end Go.Proofs.YtjmojijopammjaaDoor.PureFnExactTraceText
