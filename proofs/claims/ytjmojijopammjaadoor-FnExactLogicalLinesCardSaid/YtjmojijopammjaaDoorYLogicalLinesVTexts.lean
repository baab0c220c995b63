/- What the functions that quote texts and write values come to: quoteQ, and both write a value alike. No condition. -/
import Derived.Test.YtjmojijopammjaaDoorYLogicalLinesVValues
import Derived.Test.YtjmojijopammjaaDoorYLogicalLinesVDigits
import Derived.Test.YtjmojijopammjaaDoorYLlW3
import Derived.Test.YtjmojijopammjaaDoorYLlP0
namespace Go.Proofs.YtjmojijopammjaaDoor.PureFnExactLogicalLines
open Go.RowKit Go.Proofs.YtjmojijopammjaaDoorG Go.Proofs.YtjmojijopammjaaDoor.PFnExactLogicalLines Go.Proofs.YtjmojijopammjaaDoorW.PrintWords Go.Proofs.YtjmojijopammjaaDoorW.PrintLast Go.Proofs.YtjmojijopammjaaDoorW.PrintMore
set_option linter.unusedSimpArgs false
set_option linter.unusedVariables false
def dblB (l:List UInt8):List UInt8:=l.flatMap (fun c=>if c=34 then[34,34]else[c])
theorem index_ne (b c:UInt8) (l:List UInt8) (h:b≠c):Lib.index (b::l) [c]=if Lib.index l [c]== -1 then-1 else Lib.index l [c]+1:=by
  have hp:([c]:List UInt8).isPrefixOf (b::l)=false:=by simp[List.isPrefixOf,Ne.symm h]
  rw[Lib.index,hp];rfl
theorem index_eq (c:UInt8) (l:List UInt8):Lib.index (c::l) [c]=0:=by
  have hp:([c]:List UInt8).isPrefixOf (c::l)=true:=by simp[List.isPrefixOf]
  rw[Lib.index,hp];rfl
theorem repK_ne (b c:UInt8) (new:List UInt8) (k:Nat) (l:List UInt8) (h:b≠c):Lib.replaceK [c] new k (b::l)=b::Lib.replaceK [c] new k l:=by
  cases k with
  |zero=>rfl
  |succ k=>
    have hi:=index_ne b c l h
    by_cases e:Lib.index l [c]= -1
    · rw [e] at hi
      rw[Lib.replaceK,Lib.replaceK,e,hi]
      rfl
    · have hge := Lib.index_ge l [c]
      have h1:Lib.index l [c]=((Lib.index l [c]).toNat:Int):=by omega
      have h2:Lib.index (b::l) [c]=(((Lib.index l [c]).toNat+1:Nat):Int):=by
        rw[hi,if_neg (by simpa using e)];omega
      rw[Lib.replaceK_hit _ _ _ _ _ h1,Lib.replaceK_hit _ _ _ _ _ h2,Nat.add_right_comm]
      rfl
theorem repK_eq (c:UInt8) (new:List UInt8) (k:Nat) (l:List UInt8):Lib.replaceK [c] new (k+1) (c::l)=new++Lib.replaceK [c] new k l:=by
  rw[Lib.replaceK_hit [c] new k (c::l) 0 (index_eq c l)]
  rfl
theorem rep_dbl : ∀ s : List UInt8, Lib.replaceK [34] [34, 34] (Lib.count s [34]) s = dblB s
  |[]=>by rfl
  |b::l=>by
    by_cases h:b=34
    · subst h
      rw[Lib.count_hit (i:=0) (by simp) (index_eq 34 l),Nat.add_comm 1]
      rw[repK_eq]
      rw[show(List.drop (0+[(34:UInt8)].length) (34::l))=l from rfl,rep_dbl l]
      rfl
    · rw [Lib.count_cons_ne b 34 l h, repK_ne b 34 _ _ _ h, rep_dbl l]
      simp[dblB,h]
theorem replaceAll_dbl (s:List UInt8):Lib.replaceAll s [34] [34,34]=dblB s:=by
  unfold Lib.replaceAll Lib.replace Lib.replaceNum
  rw[if_neg (by decide),if_pos (Or.inl (by decide))]
  exact rep_dbl s
theorem dbl_length (s:List UInt8):(dblB s).length≤2*s.length:=by
  induction s with
  |nil=>decide
  |cons b l ih=>
    unfold dblB at *
    rw[List.flatMap_cons,List.length_append]
    have:(if b=34 then[(34:UInt8),34]else[b]).length≤2:=by split<;>simp
    simp only[List.length_cons]
    omega
def quoteQ (t:ByteArray):ByteArray:=⟨(34::(dblB t.data.toList++[34])).toArray⟩
theorem dbl_append (a b:List UInt8):dblB (a++b)=dblB a++dblB b:=by simp[dblB]
theorem one_byte (t:ByteArray) (i:Nat) (h:i<t.data.toList.length):t.extract i (i+1)=⟨([t.data.toList[i]]:List UInt8).toArray⟩:=by
  apply ByteArray.ext
  apply Array.toList_inj.1
  simp only[ByteArray.data_extract,Array.toList_extract,List.extract]
  rw[show i+1-i=1 by omega]
  have:=List.drop_eq_getElem_cons h
  rw[this]
  rfl
theorem valid_kind {k n:Int} {t:ByteArray} {r:Int} (h:validV k n t r=true):1≤k∧k≤8:=by
  refine Classical.byContradiction fun c=>?_
  have h1:k≠1:=by omega
  have h2:k≠2:=by omega
  have h3:k≠3:=by omega
  have h4:k≠4:=by omega
  have h5:k≠5:=by omega
  have h6:k≠6:=by omega
  have h7:k≠7:=by omega
  have h8:k≠8:=by omega
  simp[validV,h1,h2,h3,h4,h5,h6,h7,h8]at h
def numsOf (l:List UInt8):List Int:=l.map fun b=>(b.toNat:Int)
theorem str_nums (l:List UInt8):strOfNums (numsOf l)=⟨l.toArray⟩:=by
  have h:((fun n:Int=>UInt8.ofNat n.toNat)∘fun b:UInt8=>(b.toNat:Int))=id:=by funext b;simp
  simp[strOfNums,numsOf,h]
theorem numsO_append (a b:List UInt8):numsOf (a++b)=numsOf a++numsOf b:=by simp[numsOf]
theorem numsO_length (l:List UInt8):(numsOf l).length=l.length:=by simp[numsOf]
theorem quoteQ_size (t:ByteArray):(quoteQ t).size≤2*t.size+2:=by
  have hd:=dbl_length t.data.toList
  have e:t.data.toList.length=t.size:=by simp
  rw[quoteQ,size_bytes,List.length_cons,List.length_append]
  simp only[List.length_cons,List.length_nil]
  omega
end Go.Proofs.YtjmojijopammjaaDoor.PureFnExactLogicalLines
