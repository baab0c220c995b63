/- Both functions give the same statements. -/
import Derived.Lib.TrimByte
import Derived.Lib.SplitLaws
import Derived.Test.YtjmojijopammjaaDoorYLogicalLinesA
import Derived.Test.YtjmojijopammjaaDoorYLogicalLinesVValues
import Derived.Test.YtjmojijopammjaaDoorYLogicalLinesVDigits
import Derived.Test.YtjmojijopammjaaDoorYLogicalLinesVTexts
import Derived.Test.YtjmojijopammjaaDoorYLogicalLinesVQuotes
namespace Go.Proofs.YtjmojijopammjaaDoor.Pure
open Go.Proofs.YtjmojijopammjaaDoor.PureFnExactLogicalLines Go.RowKit Go.Proofs.YtjmojijopammjaaDoorG Go.Proofs.YtjmojijopammjaaDoor.PFnExactLogicalLines Go.Proofs.YtjmojijopammjaaDoorW.PrintWords Go.Proofs.YtjmojijopammjaaDoorW.PrintLast Go.Proofs.YtjmojijopammjaaDoorW.PrintMore
set_option linter.unusedSimpArgs false
set_option linter.unusedVariables false
def appH (p : List UInt8) : List (List UInt8) → List (List UInt8)
  |[]=>[p]
  |x::xs=>(p++x)::xs
def splitL : List UInt8 → List (List UInt8)
  |[]=>[[]]
  |c::l=>if c=10 then[]::splitL l else appH [c] (splitL l)
theorem appH_ne (p:List UInt8) (X:List (List UInt8)):appH p X≠[]:=by cases X<;>simp[appH]
theorem splitL_ne : ∀ l, splitL l ≠ []
  |[]=>by simp[splitL]
  |c::l=>by
    rw[splitL];split
    · simp
    · exact appH_ne _ _
theorem appH_app (p q:List UInt8) (X:List (List UInt8)):appH p (appH q X)=appH (p++q) X:=by cases X<;>simp[appH]
theorem appH_nil (X:List (List UInt8)) (h:X≠[]):appH [] X=X:=by
  cases X with
  |nil=>exact absurd rfl h
  |cons x xs=>simp[appH]
theorem appH_snoc (p:List UInt8) (X:List (List UInt8)) (y:List UInt8) (h:X≠[]):appH p (X++[y])=appH p X++[y]:=by
  cases X with
  |nil=>exact absurd rfl h
  |cons x xs=>simp[appH]
theorem splitL_snoc : ∀ M, splitL (M ++ [10]) = splitL M ++ [[]]
  |[]=>by simp[splitL]
  |c::M=>by
    rw[List.cons_append,splitL,splitL]
    split
    · rw[splitL_snoc M];rfl
    · rw[splitL_snoc M,appH_snoc _ _ _ (splitL_ne M)]
theorem splitL_last (c : UInt8) (hc : c ≠ 10) : ∀ M, ∃ A x, splitL (M ++ [c]) = A ++ [x ++ [c]]
  |[]=>⟨[],[],by simp[splitL,hc,appH]⟩
  |b::M=>by
    obtain⟨A,x,h⟩:=splitL_last c hc M
    rw[List.cons_append,splitL,h]
    split
    · exact⟨[]::A,x,rfl⟩
    · cases A with
      |nil=>exact⟨[],b::x,by simp[appH]⟩
      |cons a A=>exact⟨(b::a)::A,x,by simp[appH]⟩
theorem idx_split : ∀ l : List UInt8, (Lib.index l [10] = -1 ∧ splitL l = [l] ∧ Lib.count l [10] = 0) ∨ (∃ i : Nat, Lib.index l [10] = (i : Int) ∧ splitL l = l.take i :: splitL (l.drop (i + 1)) ∧ Lib.count l [10] = 1 + Lib.count (l.drop (i + 1)) [10])
  |[]=> .inl ⟨by decide,rfl,by decide⟩
  |b::l=>by
    by_cases h:b=10
    · subst h
      refine .inr ⟨0,index_eq 10 l,?_,Lib.count_cons_eq 10 l⟩
      rw[splitL,if_pos rfl];rfl
    · have hi := index_ne b 10 l h
      rcases idx_split l with⟨h1,h2,h3⟩|⟨i,h1,h2,h3⟩
      · refine .inl ⟨by rw [hi, h1]; rfl, ?_, by rw [Lib.count_cons_ne b 10 l h]; exact h3⟩
        rw[splitL,if_neg h,h2];rfl
      · refine .inr ⟨i + 1, ?_, ?_, by rw [Lib.count_cons_ne b 10 l h]; exact h3⟩
        · rw[hi,h1,if_neg (by simp)];omega
        · rw[splitL,if_neg h,h2];rfl
theorem splitK_eq:∀(n:Nat) (l:List UInt8) (k:Nat),l.length≤n→Lib.count l [10]≤k→Lib.splitK [10] 0 k l=splitL l:=by
  intro n
  induction n with
  |zero=>
    intro l k hl _
    obtain rfl:=List.eq_nil_of_length_eq_zero (by omega:l.length=0)
    cases k with
    |zero=>rfl
    |succ k=>rw[Lib.splitK,show Lib.index [] [10]= -1 by decide];rfl
  |succ n ih=>
    intro l k hl hk
    rcases idx_split l with⟨h1,h2,_⟩|⟨i,h1,h2,h3⟩
    · cases k with
      |zero=>rw[Lib.splitK,h2]
      |succ k=>rw[Lib.splitK,h1,h2];rfl
    · cases k with
      |zero=>omega
      |succ k=>
        rw[Lib.splitK,h1,if_neg (by simp),h2,Int.toNat_natCast]
        have hd:(l.drop (i+1)).length≤n:=by
          rw[List.length_drop];omega
        rw[Nat.add_zero,show i+[(10:UInt8)].length=i+1 from rfl,ih (l.drop (i+1)) k hd (by omega)]
theorem ext_list (s:ByteArray) (x y:Nat):(s.extract x y).data.toList=(s.data.toList.drop x).take (y-x):=by
  rw[ByteArray.data_extract,Array.toList_extract]
theorem data_inj {a b:ByteArray} (h:a.data.toList=b.data.toList):a=b:=ByteArray.ext (Array.toList_inj.1 h)
theorem map_data_inj : ∀ {xs ys : List ByteArray}, xs.map (·.data.toList) = ys.map (·.data.toList) → xs = ys
  |[],[],_=>rfl
  |[],_::_,h=>by cases h
  |_::_,[],h=>by cases h
  |x::xs,y::ys,h=>by
    rw[List.map_cons,List.map_cons]at h
    injection h with h1 h2
    rw[data_inj h1,map_data_inj h2]
theorem size_data (s:ByteArray):s.data.toList.length=s.size:=by simp
theorem bt_nat (s:ByteArray) (i:Nat) (h:i<s.data.toList.length):bt s (i:Int)=(s.data.toList[i].toNat:Int):=by
  have e:=size_data s
  rw[bt_get s i (by omega)];simp[bytesOf]
theorem cut_loop (s:ByteArray) (hs:s.size≤1048576):∀(d i frm:Nat) (acc:List ByteArray),i+d=s.size→frm≤i→acc.length≤i→
    ∃ys:List ByteArray,Ev (fun k=>spec_l01Cut.l0 k s 10 acc (frm:Int) (i:Int)) (acc++ys)∧ys.map (·.data.toList)=appH ((s.data.toList.drop frm).take (i-frm)) (splitL (s.data.toList.drop i)):=by
  have e:=size_data s
  intro d
  induction d with
  |zero=>
    intro i frm acc hi hf ha
    have e2:i=s.size:=by omega
    subst e2
    refine⟨[s.extract frm s.size],?_,?_⟩
    · refine ev_shift ?_; simp only [spec_l01Cut.l0]
      rw[Int.toNat_natCast]
      exact ev_neg (by omega) (ev_pos (by omega) (ev_pos (by omega) (ev_pos (by omega) (ev_some _))))
    · rw [List.drop_of_length_le (by omega : s.data.toList.length ≤ s.size)]
      simp[splitL,appH,ext_list]
  |succ d ih=>
    intro i frm acc hi hf ha
    have hi2:i<s.data.toList.length:=by omega
    have hw:=wrap_up (show(0:Int)≤(i:Int) by omega) (show(i:Int)<(s.size:Int) by omega) (by omega)
    have hb:=bt_nat s i hi2
    by_cases c:s.data.toList[i]=10
    · obtain ⟨ys, h1, h2⟩ := ih (i + 1) (i + 1) (acc ++ [s.extract frm i]) (by omega) (by omega) (by rw [List.length_append]; simp; omega)
      refine⟨s.extract frm i::ys,?_,?_⟩
      · refine ev_shift ?_; simp only [spec_l01Cut.l0]
        rw[hw,Int.toNat_natCast,Int.toNat_natCast]
        refine ev_pos (by omega) (ev_pos (by omega) (ev_pos (by rw[hb,c];rfl) (ev_pos (by omega) (ev_pos (by omega) (ev_pos (by omega) (ev_pos (by omega) ?_))))))
        simpa using h1
      · rw [List.map_cons, h2, Nat.sub_self, List.take_zero, appH_nil _ (splitL_ne _), List.drop_eq_getElem_cons hi2, splitL, if_pos c, ext_list]
        simp[appH]
    · obtain ⟨ys, h1, h2⟩ := ih (i + 1) frm acc (by omega) (by omega) (by omega)
      refine⟨ys,?_,?_⟩
      · refine ev_shift ?_; simp only [spec_l01Cut.l0]
        rw[hw]
        exact ev_pos (by omega) (ev_pos (by omega) (ev_neg (fun h=>c (UInt8.toNat_inj.1 (by show s.data.toList[i].toNat=10;omega))) h1))
      · rw [h2, List.drop_eq_getElem_cons hi2, splitL, if_neg c, appH_app]
        congr 1
        rw[show i+1-frm=(i-frm)+1 by omega,List.take_succ_eq_append_getElem (by rw[List.length_drop];omega)]
        congr 2
        rw[List.getElem_drop]
        congr 1;omega
theorem split_map (t:ByteArray):(Lib.splitB (⟨#[10]⟩:ByteArray) 0 (Lib.countB t (⟨#[10]⟩:ByteArray)) t).map (·.data.toList)=splitL t.data.toList:=by
  rw[Lib.splitB_data]
  exact splitK_eq t.data.toList.length t.data.toList _ (Nat.le_refl _) (Nat.le_refl _)
theorem sizes_splitL : ∀ l : List UInt8, ((splitL l).map List.length).sum ≤ l.length ∧ (splitL l).length ≤ l.length + 1
  |[]=>by simp[splitL]
  |c::l=>by
    have h:=sizes_splitL l
    rw[splitL]
    split
    · simp only[List.map_cons,List.sum_cons,List.length_nil,List.length_cons];omega
    · cases e : splitL l with
      |nil=>exact absurd e (splitL_ne l)
      |cons x xs=>
        rw[e]at h
        simp only[appH,List.map_cons,List.sum_cons,List.length_cons,List.length_append,List.length_nil]at h ⊢
        omega
theorem lines_two (a:ByteArray) (hs:a.size≤1048576):∃ls:List ByteArray,Ev (fun k=>spec_SplitLines.f k a) ls∧impl_SplitLines.f a=some ls∧(ls.map ByteArray.size).sum≤a.size∧ls.length≤a.size+1:=by
  have e:=size_data a
  obtain⟨ys,h1,h2⟩:=cut_loop a hs a.size 0 0 [] (by omega) (by omega) (by simp)
  rw[List.nil_append]at h1
  rw[Nat.sub_zero,List.take_zero,List.drop_zero,appH_nil _ (splitL_ne _)]at h2
  have hne:ys≠[]:=by
    intro h;rw[h]at h2;exact splitL_ne _ h2.symm
  have hyl:ys.length=(splitL a.data.toList).length:=by rw[←h2,List.length_map]
  have hz:=sizes_splitL a.data.toList
  have hsum:(ys.map ByteArray.size).sum=((splitL a.data.toList).map List.length).sum:=by
    rw[←h2,List.map_map];congr 1
  obtain⟨zs,z,rfl⟩:∃zs z,ys=zs++[z]:=⟨ys.dropLast,ys.getLast hne,(List.dropLast_concat_getLast hne).symm⟩
  have hlen:(zs++[z]).length=zs.length+1:=by simp
  have hw:wrap64 (((zs++[z]).length:Int)- 1)=(zs.length:Int):=by unfold wrap64;omega
  have hl:rdOf ByteArray.empty (zs++[z]) (zs.length:Int)=z:=by
    rw[rdOf_get _ _ zs.length (by omega)];simp
  have hspec:∀r,r=(if z.toList=[]then zs else zs++[z])→Ev (fun k=>spec_SplitLines.f k a) r:=by
    intro r hr
    simp only[spec_SplitLines.f]
    refine ev_bind (a:=zs++[z]) ?_ ?_
    · simp only[spec_l01Cut.f];exact h1
    · rw [hw, hl]
      refine ev_pos (by omega) (ev_pos (by omega) ?_)
      by_cases c:z.toList=[]
      · refine ev_pos c (ev_pos (by omega) ?_)
        rw[Int.toNat_natCast,hr,if_pos c,List.take_left]
        exact ev_some _
      · have hr2 : r = zs ++ [z] := by rw [hr, if_neg c]
        rw[hr2]
        exact ev_neg c (ev_some _)
  have hzs:(zs.map ByteArray.size).sum≤((zs++[z]).map ByteArray.size).sum:=by simp
  rcases List.eq_nil_or_concat a.data.toList with h0|⟨M,c,h0⟩
  · rw [h0] at h2
    have h3:zs=[]∧z.data.toList=[]:=by
      cases zs with
      |nil=>exact⟨rfl,by simpa[splitL]using h2⟩
      |cons x xs=>simp[splitL]at h2
    have hzl:z.toList=[]:=by rw[Go.ByteArray.toList_eq];exact h3.2
    refine⟨[],hspec [] (by rw[if_pos hzl,h3.1]),?_,by simp,by simp⟩
    simp only[impl_SplitLines.f]
    rw[if_pos (by rw[Go.ByteArray.toList_eq];exact h0)]
  · rw [List.concat_eq_append] at h0
    have hM:M.length+1=a.size:=by rw[←e,h0];simp
    have hnil:¬a.toList=([]:List UInt8):=by rw[Go.ByteArray.toList_eq,h0];simp
    have o1:(⟨#[10]⟩:ByteArray).size=1:=rfl
    have hw1:wrap64 ((a.size:Int)-((⟨#[10]⟩:ByteArray).size:Int))=(M.length:Int):=by rw[o1];unfold wrap64;omega
    have hex:(a.extract M.length a.size).toList=[c]:=by
      rw[Go.ByteArray.toList_eq,ext_list,h0,List.drop_left, ←hM];simp
    have o2:(⟨#[10]⟩:ByteArray).toList=[10]:=by rw[Go.ByteArray.toList_eq]
    have hsfx:stringslite_HasSuffix.f a (⟨#[10]⟩:ByteArray)=some (c==10):=by
      simp only[stringslite_HasSuffix.f]
      rw[hw1,if_pos (by omega),if_pos (by omega),if_pos (by omega),Int.toNat_natCast,hex,o2]
      cases h:c==10<;>simp_all
    have himpl:∀t:ByteArray,(if c=10 then a.extract 0 M.length else a)=t→impl_SplitLines.f a=some (Lib.splitB (⟨#[10]⟩:ByteArray) 0 (Lib.countB t (⟨#[10]⟩:ByteArray)) t):=by
      intro t ht
      have htz:t.size≤a.size:=by
        rw[←ht];split
        · rw[ByteArray.size_extract];omega
        · exact Nat.le_refl _
      simp only[impl_SplitLines.f,strings_TrimSuffix.f,stringslite_TrimSuffix.f,strings_Split.f]
      rw[if_neg hnil,hsfx,Option.bind_some,hw1,Int.toNat_natCast]
      by_cases hc:c=10
      · rw [if_pos hc] at ht
        rw[if_pos (beq_iff_eq.2 hc),if_pos (by omega),if_pos (by omega),Option.bind_some,Option.bind_some,ht,if_pos (by omega),if_pos (by omega),Option.bind_some]
      · rw [if_neg hc] at ht
        rw[if_neg (fun h=>hc (beq_iff_eq.1 h)),Option.bind_some,Option.bind_some,ht,if_pos (by omega),if_pos (by omega),Option.bind_some]
    by_cases hc:c=10
    · have hM2 : (a.extract 0 M.length).data.toList = M := by rw [ext_list, h0]; simp
      have h3:zs.map (·.data.toList)=splitL M∧z.data.toList=[]:=by
        rw[h0,hc,splitL_snoc,List.map_append]at h2
        have h4:=List.append_inj_left' h2 (by simp)
        have h5:=List.append_inj_right' h2 (by simp)
        exact⟨h4,by simpa using h5⟩
      have hzl:z.toList=[]:=by rw[Go.ByteArray.toList_eq];exact h3.2
      refine⟨zs,hspec zs (by rw[if_pos hzl]),?_,by omega,by omega⟩
      rw[himpl (a.extract 0 M.length) (if_pos hc)]
      congr 1
      apply map_data_inj
      rw[split_map,hM2,h3.1]
    · have hzl:¬z.toList=[]:=by
        rw[Go.ByteArray.toList_eq]
        intro hz0
        obtain⟨A,x,hA⟩:=splitL_last c hc M
        rw[h0,hA,List.map_append]at h2
        have h5:=List.append_inj_right' h2 (by simp)
        have h6:z.data.toList=x++[c]:=by simpa using h5
        rw[hz0]at h6
        simp at h6
      refine⟨zs++[z],hspec _ (by rw[if_neg hzl]),?_,by omega,by omega⟩
      rw[himpl a (if_neg hc)]
      congr 1
      apply map_data_inj
      rw[split_map,h2]
theorem rep_none : ∀ s : List UInt8, Lib.replaceK [10] [] (Lib.count s [10]) s = s.filter (· != 10)
  |[]=>by rfl
  |b::l=>by
    by_cases h:b=10
    · subst h
      rw[Lib.count_cons_eq,Nat.add_comm 1,repK_eq,rep_none l];simp
    · rw [Lib.count_cons_ne b 10 l h, repK_ne b 10 _ _ _ h, rep_none l]
      simp[h]
theorem replaceAll_none (s:List UInt8):Lib.replaceAll s [10] []=s.filter (· !=10):=by
  unfold Lib.replaceAll Lib.replace Lib.replaceNum
  rw[if_neg (by decide),if_pos (Or.inl (by decide))]
  exact rep_none s
theorem allN_all (s:ByteArray) (P:Int→Bool):allN s.size (fun i=>P (bt s (i:Int)))=s.data.toList.all (fun b=>P (b.toNat:Int)):=by
  have e:=size_data s
  rw[Bool.eq_iff_iff,allN_iff,List.all_eq_true]
  constructor
  · intro h x hx
    obtain⟨i,hi,rfl⟩:=List.mem_iff_getElem.1 hx
    rw[←bt_nat s i hi]
    exact h i (by omega)
  · intro h i hi
    rw[bt_nat s i (by omega)]
    exact h _ (List.getElem_mem _)
theorem valid_two (a:ByteArray) (hs:a.size≤1048576):∃b:Bool,Ev (fun k=>spec_ValidSource.f k a) b∧Ev (fun k=>impl_ValidSource.f k a) b∧(b=true→a.size≤4000):=by
  simp only[spec_ValidSource.f,impl_ValidSource.f]
  by_cases c:(a.size:Int)≤4000
  · obtain ⟨ls, l1, l2, _, _⟩ := lines_two a hs
    have hp:=spec_printable_ev a (by omega) true
    rw[allN_all a (prB true)]at hp
    have hr:strings_ReplaceAll.f a (⟨#[10]⟩:ByteArray) (⟨#[]⟩:ByteArray)=some ⟨(a.data.toList.filter (· !=10)).toArray⟩:=by
      simp only[strings_ReplaceAll.f]
      have o1:(⟨#[10]⟩:ByteArray).size=1:=rfl
      have o2:(⟨#[]⟩:ByteArray).size=0:=rfl
      rw[if_pos (by omega),if_pos (by omega),if_pos (by rw[o2,Nat.mul_zero];omega)]
      congr 2
      exact congrArg List.toArray (replaceAll_none _)
    have hfl:=List.length_filter_le (· !=(10:UInt8)) a.data.toList
    have hfs:(⟨(a.data.toList.filter (· !=10)).toArray⟩:ByteArray).size=(a.data.toList.filter (· !=10)).length:=by show(List.toArray _).size=_;simp
    have e:=size_data a
    have hq:Ev (fun k=>impl_isPlainText.f k ⟨(a.data.toList.filter (· !=10)).toArray⟩) (a.data.toList.all (fun b=>prB true (b.toNat:Int))):=by
      simp only[impl_isPlainText.f]
      refine ev_bindc (conv_eq _ (by omega)) (ev_bind (impl_plains_ev _ (by omega)) ?_)
      have hh:plainS ⟨(a.data.toList.filter (· !=10)).toArray⟩=a.data.toList.all (fun b=>prB true (b.toNat:Int)):=by
        unfold plainS
        rw[allN_all _ isPl]
        show(List.filter (· !=10) a.data.toList).toArray.toList.all _=_
        rw[Bool.eq_iff_iff,List.all_eq_true,List.all_eq_true]
        constructor
        · intro h x hx
          by_cases hx10:x=10
          · subst hx10;rfl
          · have := h x (by simp [hx, hx10])
            simp[prB,this]
        · intro h x hx
          simp at hx
          have:=h x (by simpa using hx.1)
          simp only[prB,Bool.true_and,Bool.or_eq_true,decide_eq_true_eq]at this
          rcases this with h1|h1
          · exact h1
          · exact absurd (UInt8.toNat_inj.1 (by show x.toNat=10;omega)) hx.2
      rw[hh]
      exact ev_some _
    cases hb:a.data.toList.all (fun b=>prB true (b.toNat:Int))with
    |true=>
      rw[hb]at hp hq
      exact⟨decide ((ls.length:Int)≤120),ev_pos c (ev_bind hp (ev_pos rfl (ev_bind l1 (ev_some _)))),ev_pos c (ev_bindc hr (ev_bind hq (ev_pos rfl (ev_bindc l2 (ev_some _))))),fun _=>by omega⟩
    |false=>
      rw[hb]at hp hq
      exact⟨false,ev_pos c (ev_bind hp (ev_neg Bool.false_ne_true (ev_some _))),ev_pos c (ev_bindc hr (ev_bind hq (ev_neg Bool.false_ne_true (ev_some _)))),fun _=>by omega⟩
  · exact⟨false,ev_neg c (ev_some _),ev_neg c (ev_some _),fun h=>absurd h Bool.false_ne_true⟩
theorem drop_idem (p : UInt8 → Bool) : ∀ l : List UInt8, (l.dropWhile p).dropWhile p = l.dropWhile p
  |[]=>rfl
  |b::l=>by
    cases h:p b with
    |true=>simp only[List.dropWhile_cons,h,if_true];exact drop_idem p l
    |false=>simp[h]
theorem drop_all (p : UInt8 → Bool) : ∀ l : List UInt8, l.dropWhile p = [] ↔ ∀ x, x ∈ l → p x = true
  |[]=>by simp
  |b::l=>by
    cases h:p b with
    |true=>simp[h,drop_all p l]
    |false=>simp[h]
theorem trim_nil (l:List UInt8) (c:UInt8):(Lib.trimB l c).isEmpty=l.all (fun b=>b==c):=by
  rw[Bool.eq_iff_iff,List.isEmpty_iff,List.all_eq_true]
  unfold Lib.trimB Lib.trimLeftB Lib.trimRightB
  constructor
  · intro h
    have h1:=(drop_all (· ==c) _).1 h
    have h2:(l.reverse.dropWhile (· ==c))=[]:=by
      rw[←drop_idem]
      exact(drop_all (· ==c) _).2 (fun x hx=>h1 x (List.mem_reverse.2 hx))
    intro x hx
    exact(drop_all (· ==c) _).1 h2 x (List.mem_reverse.2 hx)
  · intro h
    have h2:(l.reverse.dropWhile (· ==c))=[]:=(drop_all (· ==c) _).2 (fun x hx=>h x (List.mem_reverse.1 hx))
    rw[h2];rfl
def blankB (s:ByteArray):Bool:=s.data.toList.all (fun b=>b==32)
theorem spec_blank_ev (s:ByteArray) (hs:s.size≤1048576):Ev (fun k=>spec_IsBlankLine.f k s) (blankB s):=by
  have h:Ev (fun k=>spec_IsBlankLine.f k s) (allN s.size (fun i=>decide (bt s (i:Int)=32))):=by
    simp only[spec_IsBlankLine.f]
    refine idx_all (g:=fun k i=>spec_IsBlankLine.l0 k s i) s.size _ ?_ ?_ ?_
    · refine ev_shift ?_;simp only[spec_IsBlankLine.l0];exact ev_neg (by omega) (ev_some _)
    · intro i hi hp r hr
      refine ev_shift ?_;simp only[spec_IsBlankLine.l0]
      rw[wrap_up (by omega) (show(i:Int)<(s.size:Int) by omega) (by omega)]
      exact ev_pos (by omega) (ev_pos (by omega) (ev_pos (of_decide_eq_true hp) hr))
    · intro i hi hp
      refine ev_shift ?_;simp only[spec_IsBlankLine.l0]
      exact ev_pos (by omega) (ev_pos (by omega) (ev_neg (of_decide_eq_false hp) (ev_some _)))
  rw[allN_all s (fun x=>decide (x=32))]at h
  have e:blankB s=s.data.toList.all (fun b=>decide ((b.toNat:Int)=32)):=by
    unfold blankB
    congr 1;funext b
    rw[Bool.eq_iff_iff,beq_iff_eq,decide_eq_true_eq]
    constructor
    · intro h;rw[h];rfl
    · intro h;exact UInt8.toNat_inj.1 (by show b.toNat=32;omega)
  rw[e];exact h
theorem impl_blank_eq (s:ByteArray) (hs:s.size≤1048576):impl_IsBlankLine.f s=some (blankB s):=by
  simp only[impl_IsBlankLine.f,strings_Trim.f]
  rw[if_pos (by rw[Go.ByteArray.toList_eq]),if_pos (by omega),Option.bind_some,Go.ByteArray.toList_eq]
  show some (Lib.trimB s.data.toList 32).toArray.toList.isEmpty=_
  rw[List.toList_toArray,trim_nil];rfl
def headB (s:ByteArray) (c:UInt8):Bool:=s.data.toList.head?==some c
theorem spec_head_eq (s:ByteArray) (c:UInt8):(if s.toList=([]:List UInt8)then some false else if 0<(s.size:Int)then some (bt s 0==(c.toNat:Int))else none)=some (headB s c):=by
  have e:=size_data s
  rw[Go.ByteArray.toList_eq]
  cases h:s.data.toList with
  |nil=>rw[if_pos rfl];unfold headB;rw[h];rfl
  |cons b l=>
    rw[h]at e
    have hb:=bt_nat s 0 (by rw[h];simp)
    rw [if_neg (by simp), if_pos (by have : (b :: l).length = l.length + 1 := rfl
                                     omega)]
    have hb2:bt s 0=(b.toNat:Int):=by rw[show(0:Int)=((0:Nat):Int) from rfl,hb];simp[h]
    rw[hb2];unfold headB;rw[h]
    congr 1
    rw[Bool.eq_iff_iff,beq_iff_eq,List.head?_cons,beq_iff_eq]
    constructor
    · intro h2;rw[UInt8.toNat_inj.1 (by omega:b.toNat=c.toNat)]
    · intro h2;injection h2 with h2;rw[h2]
theorem impl_head_eq (s:ByteArray) (hs:s.size≤1048576) (c:UInt8):strings_HasPrefix.f s (⟨#[c]⟩:ByteArray)=some (headB s c):=by
  have e:=size_data s
  have o1:(⟨#[c]⟩:ByteArray).size=1:=rfl
  simp only[strings_HasPrefix.f,stringslite_HasPrefix.f]
  rw[o1]
  by_cases h:(s.size:Int)≥((1:Nat):Int)
  · rw [if_pos h, if_pos (by omega), if_pos (by omega), Option.bind_some, Go.ByteArray.toList_eq, Go.ByteArray.toList_eq, ext_list]
    cases h2:s.data.toList with
    |nil=>rw[h2]at e;simp at e;omega
    |cons b l=>
      unfold headB
      rw[h2]
      show some (((b::l).drop 0).take 1==[c])=some (some b==some c)
      refine congrArg some ?_
      rw[Bool.eq_iff_iff,beq_iff_eq,beq_iff_eq];simp
  · rw [if_neg h, Option.bind_some]
    unfold headB
    rw[List.eq_nil_of_length_eq_zero (by omega:s.data.toList.length=0)]
    rfl
theorem spec_comment_eq (s:ByteArray):spec_IsComment.f s=some (headB s 42):=spec_head_eq s 42
theorem spec_cont_eq (s:ByteArray):spec_IsContinuation.f s=some (headB s 43):=spec_head_eq s 43
theorem impl_comment_eq (s:ByteArray) (hs:s.size≤1048576):impl_IsComment.f s=some (headB s 42):=by
  simp only[impl_IsComment.f];rw[impl_head_eq s hs 42,Option.bind_some]
theorem impl_cont_eq (s:ByteArray) (hs:s.size≤1048576):impl_IsContinuation.f s=some (headB s 43):=by
  simp only[impl_IsContinuation.f];rw[impl_head_eq s hs 43,Option.bind_some]
theorem head_pos (s:ByteArray) (c:UInt8) (h:headB s c=true):1≤s.size:=by
  have e:=size_data s
  unfold headB at h
  cases h2:s.data.toList with
  |nil=>rw[h2]at h;cases h
  |cons b l=>rw[h2]at e;simp at e;omega
theorem statements_loop (s:ByteArray) (hs:s.size≤1048576):∀(d i frm:Nat) (q:Int) (acc:List ByteArray),i+d=s.size→frm≤i→acc.length≤i→(∀y,y∈acc→y.size≤s.size)→
    ∃r:List ByteArray,Ev (fun k=>spec_SplitStatements.l0 k s acc (frm:Int) q (i:Int)) r∧Ev (fun k=>impl_SplitStatements.l0 k s acc (frm:Int) q (s.size:Int) (i:Int)) r∧r.length≤s.size+1∧∀y,y∈r→y.size≤s.size:=by
  have hx:∀(frm i:Nat) (acc:List ByteArray),(∀y,y∈acc→y.size≤s.size)→∀y,y∈acc++[s.extract frm i]→y.size≤s.size:=by
    intro frm i acc ha y hy
    rcases List.mem_append.1 hy with h|h
    · exact ha y h
    · obtain rfl := List.mem_singleton.1 h
      rw[ByteArray.size_extract];omega
  intro d
  induction d with
  |zero=>
    intro i frm q acc hi hf hl ha
    have e2:i=s.size:=by omega
    subst e2
    refine⟨acc++[s.extract frm s.size],?_,?_,by rw[List.length_append];simp;omega,hx _ _ _ ha⟩
    · refine ev_shift ?_; simp only [spec_SplitStatements.l0]
      rw[Int.toNat_natCast]
      exact ev_neg (by omega) (ev_pos (by omega) (ev_pos (by omega) (ev_pos (by omega) (ev_some _))))
    · refine ev_shift ?_; simp only [impl_SplitStatements.l0]
      rw[Int.toNat_natCast]
      exact ev_neg (by omega) (ev_pos (by omega) (ev_pos (by omega) (ev_pos (by omega) (ev_some _))))
  |succ d ih=>
    intro i frm q acc hi hf hl ha
    have hw:=wrap_up (show(0:Int)≤(i:Int) by omega) (show(i:Int)<(s.size:Int) by omega) (by omega)
    have hlt:(i:Int)<(s.size:Int):=by omega
    by_cases cq:q=0
    ·
      have J:∀b:Bool,(b=true→∃r,Ev (fun k=>spec_SplitStatements.l0 k s acc (frm:Int) (bt s (i:Int)) ((i:Int)+1)) r∧Ev (fun k=>impl_SplitStatements.l0 k s acc (frm:Int) (bt s (i:Int)) (s.size:Int) ((i:Int)+1)) r∧r.length≤s.size+1∧∀y,y∈r→y.size≤s.size)→
          ∃r,Ev (fun k=>spec_SplitStatements.j1 k s acc (frm:Int) q (i:Int) (bt s (i:Int)) b) r∧Ev (fun k=>impl_SplitStatements.j1 k s acc (frm:Int) q (i:Int) (bt s (i:Int)) (s.size:Int) (i:Int) b) r∧r.length≤s.size+1∧∀y,y∈r→y.size≤s.size:=by
        intro b hb
        cases b with
        |true=>
          obtain⟨r,h1,h2,h3⟩:=hb rfl
          refine⟨r,?_,?_,h3⟩
          · refine ev_shift ?_;simp only[spec_SplitStatements.j1];rw[hw];exact ev_pos (by trivial) h1
          · refine ev_shift ?_;simp only[impl_SplitStatements.j1];rw[hw];exact ev_pos (by trivial) h2
        |false=>
          by_cases c:bt s (i:Int)=59
          · obtain ⟨r, h1, h2, h3⟩ := ih (i + 1) (i + 1) q (acc ++ [s.extract frm i]) (by omega) (by omega) (by rw [List.length_append]; simp; omega) (hx _ _ _ ha)
            refine⟨r,?_,?_,h3⟩
            · refine ev_shift ?_; simp only [spec_SplitStatements.j1]; rw [hw, Int.toNat_natCast, Int.toNat_natCast]
              exact ev_neg Bool.false_ne_true (ev_pos c (ev_pos (by omega) (ev_pos (by omega) (ev_pos (by omega) (ev_pos (by omega) h1)))))
            · refine ev_shift ?_; simp only [impl_SplitStatements.j1]; rw [hw, Int.toNat_natCast, Int.toNat_natCast]
              exact ev_neg Bool.false_ne_true (ev_pos c (ev_pos (by omega) (ev_pos (by omega) (ev_pos (by omega) (ev_pos (by omega) h2)))))
          · obtain ⟨r, h1, h2, h3⟩ := ih (i + 1) frm q acc (by omega) (by omega) (by omega) ha
            refine⟨r,?_,?_,h3⟩
            · refine ev_shift ?_; simp only [spec_SplitStatements.j1]; rw [hw]
              exact ev_neg Bool.false_ne_true (ev_neg c h1)
            · refine ev_shift ?_; simp only [impl_SplitStatements.j1]; rw [hw]
              exact ev_neg Bool.false_ne_true (ev_neg c h2)
      have HQ:=ih (i+1) frm (bt s (i:Int)) acc (by omega) (by omega) (by omega) ha
      by_cases c39:bt s (i:Int)=39
      · obtain ⟨r, h1, h2, h3⟩ := J true (fun _ => HQ)
        refine⟨r,?_,?_,h3⟩
        · refine ev_shift ?_; simp only [spec_SplitStatements.l0]
          exact ev_pos hlt (ev_pos (by omega) (ev_pos cq (ev_pos c39 h1)))
        · refine ev_shift ?_; simp only [impl_SplitStatements.l0]
          exact ev_pos hlt (ev_pos (by omega) (ev_pos hlt (ev_pos cq (ev_pos c39 h2))))
      · obtain ⟨r, h1, h2, h3⟩ := J (bt s (i : Int) == 34) (fun _ => HQ)
        refine⟨r,?_,?_,h3⟩
        · refine ev_shift ?_; simp only [spec_SplitStatements.l0]
          exact ev_pos hlt (ev_pos (by omega) (ev_pos cq (ev_neg c39 h1)))
        · refine ev_shift ?_; simp only [impl_SplitStatements.l0]
          exact ev_pos hlt (ev_pos (by omega) (ev_pos hlt (ev_pos cq (ev_neg c39 h2))))
    · by_cases c : bt s (i : Int) = q
      · obtain ⟨r, h1, h2, h3⟩ := ih (i + 1) frm 0 acc (by omega) (by omega) (by omega) ha
        refine⟨r,?_,?_,h3⟩
        · refine ev_shift ?_; simp only [spec_SplitStatements.l0]; rw [hw]
          exact ev_pos hlt (ev_pos (by omega) (ev_neg cq (ev_pos c h1)))
        · refine ev_shift ?_; simp only [impl_SplitStatements.l0]; rw [hw]
          exact ev_pos hlt (ev_pos (by omega) (ev_pos hlt (ev_neg cq (ev_pos c h2))))
      · obtain ⟨r, h1, h2, h3⟩ := ih (i + 1) frm q acc (by omega) (by omega) (by omega) ha
        refine⟨r,?_,?_,h3⟩
        · refine ev_shift ?_; simp only [spec_SplitStatements.l0]; rw [hw]
          exact ev_pos hlt (ev_pos (by omega) (ev_neg cq (ev_neg c h1)))
        · refine ev_shift ?_; simp only [impl_SplitStatements.l0]; rw [hw]
          exact ev_pos hlt (ev_pos (by omega) (ev_pos hlt (ev_neg cq (ev_neg c h2))))
theorem statements_two (s:ByteArray) (hs:s.size≤1048576):∃r:List ByteArray,Ev (fun k=>spec_SplitStatements.f k s) r∧Ev (fun k=>impl_SplitStatements.f k s) r∧r.length≤s.size+1∧∀y,y∈r→y.size≤s.size:=by
  simp only[spec_SplitStatements.f,impl_SplitStatements.f]
  exact statements_loop s hs s.size 0 0 0 [] (by omega) (by omega) (by simp) (by simp)
theorem rd_ln (xs:List S88) (i:Nat) (h:i<xs.length):rd_T88 xs (i:Int)=xs[i]:=getD_get _ xs i h
def CAP:Nat:=4000000000000
theorem cap_lt:CAP<5864062014805:=by decide
theorem cap_ge:100000≤CAP:=by decide
def szS (l:List S88):Nat:=(l.map fun x=>x.f1.size+1).sum
def GoodS (l:List S88):Prop:=∀x,x∈l→0≤x.f0∧x.f0≤1048577∧x.f1.size≤4000
theorem good_snoc {l:List S88} (h:GoodS l) (x:S88) (hx:0≤x.f0∧x.f0≤1048577∧x.f1.size≤4000):GoodS (l++[x]):=by
  intro y hy
  rcases List.mem_append.1 hy with h1|h1
  · exact h y h1
  · obtain rfl:=List.mem_singleton.1 h1;exact hx
theorem szS_drop (l:List S88) (i:Nat) (h:i<l.length):szS (l.drop i)=(l[i].f1.size+1)+szS (l.drop (i+1)):=by
  unfold szS;rw[List.drop_eq_getElem_cons h,List.map_cons,List.sum_cons]
theorem inner_loop (J:List S88) (j:Nat) (hj:j<J.length) (hJ:J.length≤1048577) (hg:GoodS J) (ps:List ByteArray) (hp:ps.length≤4001) (hps:∀y,y∈ps→y.size≤4000):
    ∀(d i:Nat) (out:List S88),i+d=ps.length→GoodS out→out.length+d≤CAP→∃out':List S88,GoodS out'∧out'.length≤out.length+d∧
      (∀R,Ev (fun k=>spec_LogicalLines.l1 k J out' ((j:Int)+1)) R→Ev (fun k=>spec_LogicalLines.l2 k J out (j:Int) ps (i:Int)) R)∧
      (∀R,Ev (fun k=>impl_LogicalLines.l0 k out' J (J.length:Int) ((j:Int)+1)) R→Ev (fun k=>impl_LogicalLines.l1 k out J (J.length:Int) (j:Int) ps (ps.length:Int) (i:Int) ((rd_T88 J (j:Int)).f0) ((rd_T88 J (j:Int)).f1)) R):=by
  have hwj:=wrap_up (show(0:Int)≤(j:Int) by omega) (show(j:Int)<(J.length:Int) by omega) (by omega)
  have hjg:=hg J[j] (List.getElem_mem hj)
  have hrj:=rd_ln J j hj
  intro d
  induction d with
  |zero=>
    intro i out hi ho hl
    refine⟨out,ho,by omega,fun R h=>?_,fun R h=>?_⟩
    · refine ev_shift ?_;simp only[spec_LogicalLines.l2];rw[hwj];exact ev_neg (by omega) h
    · refine ev_shift ?_;simp only[impl_LogicalLines.l1];rw[hwj];exact ev_neg (by omega) h
  |succ d ih=>
    intro i out hi ho hl
    have hi2:i<ps.length:=by omega
    have hi3:(i:Int)<(ps.length:Int):=by omega
    have hi0:(0:Int)≤(i:Int):=by omega
    have hj3:(j:Int)<(J.length:Int):=by omega
    have hj0:(0:Int)≤(j:Int):=by omega
    have hol:out.length<5864062014805:=by have:=cap_lt;omega
    have hr:rdOf ByteArray.empty ps (i:Int)=ps[i]:=rdOf_get _ _ i hi2
    have hy:=hps ps[i] (List.getElem_mem hi2)
    have hw:=wrap_up (show(0:Int)≤(i:Int) by omega) (show(i:Int)<(ps.length:Int) by omega) (by omega)
    cases hb:blankB ps[i]with
    |true=>
      obtain⟨out',h1,h2,h3,h4⟩:=ih (i+1) out (by omega) ho (by omega)
      refine⟨out',h1,by omega,fun R h=>?_,fun R h=>?_⟩
      · refine ev_shift ?_; simp only [spec_LogicalLines.l2]; rw [hw, hr]
        have hbl:=spec_blank_ev ps[i] (by omega)
        rw[hb]at hbl
        exact ev_pos hi3 (ev_pos hi0 (ev_bind hbl (ev_pos rfl (h3 R h))))
      · refine ev_shift ?_; simp only [impl_LogicalLines.l1]; rw [hw, hr]
        have hbl:=impl_blank_eq ps[i] (by omega)
        rw[hb]at hbl
        exact ev_pos hi3 (ev_pos hi0 (ev_pos hi3 (ev_bindc hbl (ev_pos rfl (h4 R h)))))
    |false=>
      have hgo:=good_snoc ho ⟨(rd_T88 J (j:Int)).f0,ps[i]⟩ ⟨by rw[hrj];exact hjg.1,by rw[hrj];exact hjg.2.1,hy⟩
      have hlo:(out++[(⟨(rd_T88 J (j:Int)).f0,ps[i]⟩:S88)]).length=out.length+1:=by simp
      obtain⟨out',h1,h2,h3,h4⟩:=ih (i+1) _ (by omega) hgo (by omega)
      refine⟨out',h1,by omega,fun R h=>?_,fun R h=>?_⟩
      · refine ev_shift ?_; simp only [spec_LogicalLines.l2]; rw [hw, hr]
        have hbl:=spec_blank_ev ps[i] (by omega)
        rw[hb]at hbl
        exact ev_pos hi3 (ev_pos hi0 (ev_bind hbl (ev_neg Bool.false_ne_true (ev_pos hj0 (ev_pos hj3 (ev_pos hol (h3 R h)))))))
      · refine ev_shift ?_; simp only [impl_LogicalLines.l1]; rw [hw, hr]
        have hbl:=impl_blank_eq ps[i] (by omega)
        rw[hb]at hbl
        exact ev_pos hi3 (ev_pos hi0 (ev_pos hi3 (ev_bindc hbl (ev_neg Bool.false_ne_true (ev_pos hol (h4 R h))))))
theorem outer_loop (J:List S88) (hJ:J.length≤1048577) (hg:GoodS J):∀(d i:Nat) (out:List S88),i+d=J.length→GoodS out→out.length+szS (J.drop i)≤CAP→
    ∃R:List S88,GoodS R∧R.length≤out.length+szS (J.drop i)∧Ev (fun k=>spec_LogicalLines.l1 k J out (i:Int)) (R,0,0)∧Ev (fun k=>impl_LogicalLines.l0 k out J (J.length:Int) (i:Int)) (R,0,0):=by
  intro d
  induction d with
  |zero=>
    intro i out hi ho _
    refine⟨out,ho,by omega,?_,?_⟩
    · refine ev_shift ?_;simp only[spec_LogicalLines.l1];exact ev_neg (by omega) (ev_some _)
    · refine ev_shift ?_;simp only[impl_LogicalLines.l0];exact ev_neg (by omega) (ev_some _)
  |succ d ih=>
    intro i out hi ho hl
    have hi2:i<J.length:=by omega
    have hsz:=szS_drop J i hi2
    have hx:=hg J[i] (List.getElem_mem hi2)
    obtain⟨ps,s1,s2,s3,s4⟩:=statements_two J[i].f1 (by omega)
    obtain⟨out',h1,h2,h3,h4⟩:=inner_loop J i hi2 hJ hg ps (by omega) (fun y hy=>by have:=s4 y hy;omega) ps.length 0 out (by omega) ho (by omega)
    obtain⟨R,r1,r2,r3,r4⟩:=ih (i+1) out' (by omega) h1 (by omega)
    have hr:=rd_ln J i hi2
    refine⟨R,r1,by omega,?_,?_⟩
    · refine ev_shift ?_; simp only [spec_LogicalLines.l1]; rw [hr]
      exact ev_pos (by omega) (ev_pos (by omega) (ev_bind s1 (h3 _ r3)))
    · have h5 := h4 _ r4
      rw[hr]at h5
      refine ev_shift ?_;simp only[impl_LogicalLines.l0];rw[hr]
      exact ev_pos (by omega) (ev_pos (by omega) (ev_pos (by omega) (ev_bind s2 h5)))
def smS (l:List S88):Nat:=(l.map fun x=>x.f1.size).sum
def smB (l:List ByteArray):Nat:=(l.map ByteArray.size).sum
theorem smB_drop (l:List ByteArray) (i:Nat) (h:i<l.length):smB (l.drop i)=l[i].size+smB (l.drop (i+1)):=by
  unfold smB;rw[List.drop_eq_getElem_cons h,List.map_cons,List.sum_cons]
theorem smS_snoc (l:List S88) (x:S88):smS (l++[x])=smS l+x.f1.size:=by unfold smS;simp
theorem smS_mem : ∀ (l : List S88) (x : S88), x ∈ l → x.f1.size ≤ smS l
  |[],x,h=>by cases h
  |y::l,x,h=>by
    unfold smS;rw[List.map_cons,List.sum_cons]
    rcases List.mem_cons.1 h with rfl|h
    · omega
    · have:=smS_mem l x h;unfold smS at this;omega
def NumS (l:List S88):Prop:=∀x,x∈l→0≤x.f0∧x.f0≤1048577
theorem join_loop (ls:List ByteArray) (hls:ls.length≤1048576) (B:Nat) (hB:B≤1048576):∀(d i:Nat) (x:List S88),i+d=ls.length→NumS x→x.length≤i→smS x+smB (ls.drop i)≤B→
    (∃n:Int,(n>0∧n≤1048577)∧Ev (fun k=>spec_LogicalLines.l0 k x ls (i:Int)) (([]:List S88),n,2)∧Ev (fun k=>impl_combine.l0 k x ls (ls.length:Int) (i:Int)) (([]:List S88),n))∨
    (∃J:List S88,NumS J∧J.length≤ls.length∧smS J≤B∧(∀R,Ev (fun k=>spec_LogicalLines.l1 k J ([]:List S88) 0) R→Ev (fun k=>spec_LogicalLines.l0 k x ls (i:Int)) R)∧Ev (fun k=>impl_combine.l0 k x ls (ls.length:Int) (i:Int)) (J,0)):=by
  intro d
  induction d with
  |zero=>
    intro i x hi hn hl hs
    refine .inr ⟨x,hn,by omega,by omega,fun R h=>?_,?_⟩
    · refine ev_shift ?_;simp only[spec_LogicalLines.l0];exact ev_neg (by omega) h
    · refine ev_shift ?_;simp only[impl_combine.l0];exact ev_neg (by omega) (ev_some _)
  |succ d ih=>
    intro i x hi hn hl hs
    have hi2:i<ls.length:=by omega
    have hsd:=smB_drop ls i hi2
    have hr:rdOf ByteArray.empty ls (i:Int)=ls[i]:=rdOf_get _ _ i hi2
    have hw:=wrap_up (show(0:Int)≤(i:Int) by omega) (show(i:Int)<(ls.length:Int) by omega) (by omega)
    have J:∀b:Bool,(∃n:Int,(n>0∧n≤1048577)∧Ev (fun k=>spec_LogicalLines.j1 k x ls (i:Int) ls[i] b) (([]:List S88),n,2)∧Ev (fun k=>impl_combine.j1 k x ls[i] ((i:Int)+1) ls (ls.length:Int) (i:Int) b) (([]:List S88),n))∨
        (∃J:List S88,NumS J∧J.length≤ls.length∧smS J≤B∧(∀R,Ev (fun k=>spec_LogicalLines.l1 k J ([]:List S88) 0) R→Ev (fun k=>spec_LogicalLines.j1 k x ls (i:Int) ls[i] b) R)∧Ev (fun k=>impl_combine.j1 k x ls[i] ((i:Int)+1) ls (ls.length:Int) (i:Int) b) (J,0)):=by
      intro b
      cases b with
      |true=>
        rcases ih (i+1) x (by omega) hn (by omega) (by omega)with⟨n,h0,h1,h2⟩|⟨J,g1,g2,g3,h1,h2⟩
        · refine .inl ⟨n, h0, ?_, ?_⟩
          · refine ev_shift ?_;simp only[spec_LogicalLines.j1];rw[hw];exact ev_pos (by trivial) h1
          · refine ev_shift ?_;simp only[impl_combine.j1];rw[hw];exact ev_pos (by trivial) h2
        · refine .inr ⟨J, g1, g2, g3, fun R h => ?_, ?_⟩
          · refine ev_shift ?_;simp only[spec_LogicalLines.j1];rw[hw];exact ev_pos (by trivial) (h1 R h)
          · refine ev_shift ?_;simp only[impl_combine.j1];rw[hw];exact ev_pos (by trivial) h2
      |false=>
        have e1:=spec_cont_eq ls[i]
        have e2:=impl_cont_eq ls[i] (by omega)
        cases hc:headB ls[i] 43 with
        |false=>
          rw[hc]at e1 e2
          have hn2:NumS (x++[(⟨(i:Int)+1,ls[i]⟩:S88)]):=by
            intro y hy
            rcases List.mem_append.1 hy with h1|h1
            · exact hn y h1
            · obtain rfl := List.mem_singleton.1 h1
              exact⟨by show 0≤(i:Int)+1;omega,by show(i:Int)+1≤1048577;omega⟩
          rcases ih (i+1) (x++[(⟨(i:Int)+1,ls[i]⟩:S88)]) (by omega) hn2 (by rw[List.length_append];simp;omega) (by rw[smS_snoc];show smS x+ls[i].size+_≤B;omega)with⟨n,h0,h1,h2⟩|⟨J,g1,g2,g3,h1,h2⟩
          · refine .inl ⟨n, h0, ?_, ?_⟩
            · refine ev_shift ?_; simp only [spec_LogicalLines.j1]; rw [hw]
              exact ev_neg Bool.false_ne_true (ev_bindc e1 (ev_neg Bool.false_ne_true (ev_pos (by omega) h1)))
            · refine ev_shift ?_; simp only [impl_combine.j1]; rw [hw]
              exact ev_neg Bool.false_ne_true (ev_bindc e2 (ev_neg Bool.false_ne_true (ev_pos (by omega) h2)))
          · refine .inr ⟨J, g1, g2, g3, fun R h => ?_, ?_⟩
            · refine ev_shift ?_; simp only [spec_LogicalLines.j1]; rw [hw]
              exact ev_neg Bool.false_ne_true (ev_bindc e1 (ev_neg Bool.false_ne_true (ev_pos (by omega) (h1 R h))))
            · refine ev_shift ?_; simp only [impl_combine.j1]; rw [hw]
              exact ev_neg Bool.false_ne_true (ev_bindc e2 (ev_neg Bool.false_ne_true (ev_pos (by omega) h2)))
        |true=>
          rw[hc]at e1 e2
          have hpos:=head_pos _ _ hc
          by_cases hx:x=[]
          · subst hx
            refine .inl ⟨(i:Int)+1,⟨by omega,by omega⟩,?_,?_⟩
            · refine ev_shift ?_; simp only [spec_LogicalLines.j1]; rw [hw]
              exact ev_neg Bool.false_ne_true (ev_bindc e1 (ev_pos rfl (ev_pos (by trivial) (ev_some _))))
            · refine ev_shift ?_; simp only [impl_combine.j1]
              exact ev_neg Bool.false_ne_true (ev_bindc e2 (ev_pos rfl (ev_pos (by trivial) (ev_some _))))
          · obtain ⟨A, z, rfl⟩ : ∃ A z, x = A ++ [z] := ⟨x.dropLast, x.getLast hx, (List.dropLast_concat_getLast hx).symm⟩
            have hlen:(A++[z]).length=A.length+1:=by simp
            have hwl:wrap64 (((A++[z]).length:Int)- 1)=(A.length:Int):=by unfold wrap64;omega
            have hrl:rd_T88 (A++[z]) (A.length:Int)=z:=by rw[rd_ln _ A.length (by omega)];simp
            have hset:∀u:S88,(A++[z]).set ((A.length:Int)).toNat u=A++[u]:=by intro u;rw[Int.toNat_natCast];simp
            have hzm:z∈A++[z]:=by simp
            have hzs:=smS_mem _ z hzm
            have hexs:(ls[i].extract 1 ls[i].size).size=ls[i].size- 1:=by rw[ByteArray.size_extract];omega
            have o1:(⟨#[32]⟩:ByteArray).size=1:=rfl
            have hn2:NumS (A++[(⟨z.f0,z.f1++((⟨#[32]⟩:ByteArray)++(ls[i].extract 1 ls[i].size))⟩:S88)]):=by
              intro y hy
              rcases List.mem_append.1 hy with h1|h1
              · exact hn y (List.mem_append_left _ h1)
              · obtain rfl := List.mem_singleton.1 h1
                exact hn z hzm
            have hsm:smS (A++[(⟨z.f0,z.f1++((⟨#[32]⟩:ByteArray)++(ls[i].extract 1 ls[i].size))⟩:S88)])=smS (A++[z])+ls[i].size:=by
              rw[smS_snoc,smS_snoc]
              show smS A+(z.f1++((⟨#[32]⟩:ByteArray)++(ls[i].extract 1 ls[i].size))).size=_
              rw[ByteArray.size_append,ByteArray.size_append,hexs,o1];omega
            have hg1:¬(((A++[z]).length:Int)=0):=by omega
            have hg2:1+(ls[i].extract 1 ls[i].size).size≤9223372036854775807:=by omega
            have hg3:z.f1.size+(1+(ls[i].extract 1 ls[i].size).size)≤9223372036854775807:=by omega
            rcases ih (i+1) _ (by omega) hn2 (by simp at hl ⊢;omega) (by rw[hsm];omega)with⟨n,h0,h1,h2⟩|⟨J,g1,g2,g3,h1,h2⟩
            · refine .inl ⟨n, h0, ?_, ?_⟩
              · refine ev_shift ?_; simp only [spec_LogicalLines.j1]; rw [hw, hwl, hrl, hset]
                exact ev_neg Bool.false_ne_true (ev_bindc e1 (ev_pos rfl (ev_neg hg1 (ev_pos (by omega) (ev_pos (by omega) (ev_pos (by omega) (ev_pos hg2 (ev_pos hg3 h1))))))))
              · refine ev_shift ?_; simp only [impl_combine.j1]; rw [hw, hwl, hrl, hset]
                exact ev_neg Bool.false_ne_true (ev_bindc e2 (ev_pos rfl (ev_neg hg1 (ev_pos (by omega) (ev_pos (by omega) (ev_pos (by omega) (ev_pos hg2 (ev_pos hg3 h2))))))))
            · refine .inr ⟨J, g1, g2, g3, fun R h => ?_, ?_⟩
              · refine ev_shift ?_; simp only [spec_LogicalLines.j1]; rw [hw, hwl, hrl, hset]
                exact ev_neg Bool.false_ne_true (ev_bindc e1 (ev_pos rfl (ev_neg hg1 (ev_pos (by omega) (ev_pos (by omega) (ev_pos (by omega) (ev_pos hg2 (ev_pos hg3 (h1 R h)))))))))
              · refine ev_shift ?_; simp only [impl_combine.j1]; rw [hw, hwl, hrl, hset]
                exact ev_neg Bool.false_ne_true (ev_bindc e2 (ev_pos rfl (ev_neg hg1 (ev_pos (by omega) (ev_pos (by omega) (ev_pos (by omega) (ev_pos hg2 (ev_pos hg3 h2))))))))
    have lift:∀b:Bool,(∀r,Ev (fun k=>spec_LogicalLines.j1 k x ls (i:Int) ls[i] b) r→Ev (fun k=>spec_LogicalLines.l0 k x ls (i:Int)) r)→(∀r,Ev (fun k=>impl_combine.j1 k x ls[i] ((i:Int)+1) ls (ls.length:Int) (i:Int) b) r→Ev (fun k=>impl_combine.l0 k x ls (ls.length:Int) (i:Int)) r)→
        (∃n:Int,(n>0∧n≤1048577)∧Ev (fun k=>spec_LogicalLines.l0 k x ls (i:Int)) (([]:List S88),n,2)∧Ev (fun k=>impl_combine.l0 k x ls (ls.length:Int) (i:Int)) (([]:List S88),n))∨
        (∃J:List S88,NumS J∧J.length≤ls.length∧smS J≤B∧(∀R,Ev (fun k=>spec_LogicalLines.l1 k J ([]:List S88) 0) R→Ev (fun k=>spec_LogicalLines.l0 k x ls (i:Int)) R)∧Ev (fun k=>impl_combine.l0 k x ls (ls.length:Int) (i:Int)) (J,0)):=by
      intro b l1 l2
      rcases J b with⟨n,h0,h1,h2⟩|⟨J,g1,g2,g3,h1,h2⟩
      · exact .inl ⟨n,h0,l1 _ h1,l2 _ h2⟩
      · exact .inr ⟨J,g1,g2,g3,fun R h=>l1 _ (h1 R h),l2 _ h2⟩
    have b1:=spec_blank_ev ls[i] (by omega)
    have b2:=impl_blank_eq ls[i] (by omega)
    cases hb:blankB ls[i]with
    |true=>
      rw[hb]at b1 b2
      refine lift true (fun r h=>?_) (fun r h=>?_)
      · refine ev_shift ?_; simp only [spec_LogicalLines.l0]; rw [hr]
        exact ev_pos (by omega) (ev_pos (by omega) (ev_bind b1 (ev_pos rfl h)))
      · refine ev_shift ?_; simp only [impl_combine.l0]; rw [hr, hw]
        exact ev_pos (by omega) (ev_pos (by omega) (ev_pos (by omega) (ev_bindc b2 (ev_pos rfl h))))
    |false=>
      rw[hb]at b1 b2
      have c1:=spec_comment_eq ls[i]
      have c2:=impl_comment_eq ls[i] (by omega)
      refine lift (headB ls[i] 42) (fun r h=>?_) (fun r h=>?_)
      · refine ev_shift ?_; simp only [spec_LogicalLines.l0]; rw [hr]
        exact ev_pos (by omega) (ev_pos (by omega) (ev_bind b1 (ev_neg Bool.false_ne_true (ev_bindc c1 h))))
      · refine ev_shift ?_; simp only [impl_combine.l0]; rw [hr, hw]
        exact ev_pos (by omega) (ev_pos (by omega) (ev_pos (by omega) (ev_bindc b2 (ev_neg Bool.false_ne_true (ev_bindc c2 h)))))
theorem szS_smS : ∀ l : List S88, szS l = smS l + l.length
  |[]=>rfl
  |x::l=>by
    have:=szS_smS l
    unfold szS smS at this ⊢
    simp only[List.map_cons,List.sum_cons,List.length_cons];omega
theorem core:laws_FnExactLogicalLines.Core:=by
  intro a ha
  have ha':a.size≤1048576:=ha
  obtain⟨b,v1,v2,v3⟩:=valid_two a ha'
  have fin:∀R:List S88,GoodS R→R.length≤10000→∀n c:Int,(0≤n∧n≤1048577)→(0≤c∧c≤2)→Fine (R,n,c):=by
    intro R hg hl n c hn hc
    refine⟨⟨show R.length≤1048576 by omega,fun x hx=>?_⟩,?_,?_⟩
    · have := hg x hx
      exact⟨show-9223372036854775808≤x.f0∧x.f0≤9223372036854775807 by omega,show x.f1.size≤1048576 by omega⟩
    · show-9223372036854775808≤n∧n≤9223372036854775807;omega
    · show-9223372036854775808≤c∧c≤9223372036854775807;omega
  simp only[spec_LogicalLines.f,impl_LogicalLines.f]
  cases b with
  |false=>exact⟨_,ev_bind v1 (ev_neg Bool.false_ne_true (ev_some _)),ev_bind v2 (ev_neg Bool.false_ne_true (ev_some _)),fin [] (fun x hx=>by cases hx) (by simp) 0 1 (by omega) (by omega)⟩
  |true=>
    have h4:=v3 rfl
    obtain⟨ls,l1,l2,l3,l4⟩:=lines_two a ha'
    have hcomb:∀r,Ev (fun k=>impl_combine.l0 k ([]:List S88) ls (ls.length:Int) 0) r→Ev (fun k=>impl_combine.f k a) r:=by
      intro r h
      simp only[impl_combine.f]
      exact ev_bindc l2 h
    rcases join_loop ls (by omega) a.size (by omega) ls.length 0 [] (by omega) (fun x hx=>by cases hx) (by simp) (by show(0:Nat)+smB (ls.drop 0)≤a.size;rw[List.drop_zero];unfold smB;omega)with⟨n,h0,h1,h2⟩|⟨J,g1,g2,g3,h1,h2⟩
    · exact⟨_,ev_bind v1 (ev_pos rfl (ev_bind l1 h1)),ev_bind v2 (ev_pos rfl (ev_bind (hcomb _ h2) (ev_pos h0.1 (ev_some _)))),fin [] (fun x hx=>by cases hx) (by simp) n 2 (by omega) (by omega)⟩
    · have hgJ : GoodS J := fun x hx => ⟨(g1 x hx).1, (g1 x hx).2, by have := smS_mem J x hx; omega⟩
      have hz:=szS_smS J
      obtain⟨R,r1,r2,r3,r4⟩:=outer_loop J (by omega) hgJ J.length 0 [] (by omega) (fun x hx=>by cases hx) (by rw[List.drop_zero];have:=cap_ge;simp;omega)
      rw[List.drop_zero]at r2
      refine⟨(R,0,0),ev_bind v1 (ev_pos rfl (ev_bind l1 (h1 _ r3))),ev_bind v2 (ev_pos rfl (ev_bind (hcomb _ h2) (ev_neg (show ¬(0:Int)>0 by decide) r4))),fin R r1 (by simp at r2;omega) 0 0 (by omega) (by omega)⟩
theorem ev_succ {α:Type} {g:Nat→Option α} {r:α} (h:Ev g r):Ev (fun k=>g (k+1)) r:=by
  obtain⟨K,hK⟩:=h
  exact⟨K,fun n hn=>hK (n+1) (by omega)⟩
theorem FnExactLogicalLines:laws_FnExactLogicalLines.Pure:=by
  intro x0 w_x0
  suffices hh:Ev (fun k=>laws_FnExactLogicalLines.f k x0) true by
    obtain⟨K,hK⟩:=hh
    exact⟨K,hK K (Nat.le_refl _)⟩
  simp only[laws_FnExactLogicalLines.f]
  refine ev_skip fun c1=>?_
  have g_1:Fine x0:=(show x0.size≤1048576 by omega)
  obtain⟨⟨r,n,c⟩,es,ei,gr⟩:=core x0 g_1
  have gl:Fine r:=gr.fst
  have hl:r.length≤1048576:=gl.len
  have eq:=laws_eqLineS_rf r gl
  obtain⟨ys,em,hy,hH⟩:=laws_markLineS_mk r gl 1 (by omega) (by omega)
  have eh:=laws_heldLineS_hd ys (by omega) 1 (by omega) (by omega) hH
  rw[hy]at eh
  have J1:∀b:Bool,b=false→Ev (fun k=>laws_FnExactLogicalLines.j1 k ys (1+2*(r.length:Int)) b) true:=by
    intro b hb
    refine ev_shift ?_;simp only[laws_FnExactLogicalLines.j1]
    exact ev_neg (by rw[hb];exact Bool.false_ne_true) (ev_bind eh (ev_neg (by omega) (ev_pos (by trivial) (ev_some _))))
  have J0:∀b:Bool,b=false→Ev (fun k=>laws_FnExactLogicalLines.j0 k x0 r n c r b) true:=by
    intro b hb
    refine ev_shift ?_;simp only[laws_FnExactLogicalLines.j0]
    refine ev_neg (by rw[hb];exact Bool.false_ne_true) (ev_bind em (ev_bind eh (ev_neg (by omega) (ev_pos (by trivial) (ev_bind ei (ev_bind eq (ev_pos rfl (ev_pos (by trivial) (J1 _ ?_)))))))))
    exact bne_eq_false_iff_eq.2 rfl
  exact ev_bind es (ev_bind ei (ev_bind eq (ev_pos rfl (ev_pos rfl (J0 _ (bne_eq_false_iff_eq.2 rfl))))))
end Go.Proofs.YtjmojijopammjaaDoor.Pure
