/- Both functions list the references alike. -/
import Derived.Lib.SlicesCompact
import Derived.Test.YtengilknjiobiaaYRefsOfA
import Derived.Test.YtengilknjiobiaaYRefsOfVValues
import Derived.Test.YtengilknjiobiaaYRefsOfVObjects
import Derived.Test.YtengilknjiobiaaYRefsOfVConcat
namespace Go.Proofs.Ytengilknjiobiaa.Pure
open Go.Proofs.Ytengilknjiobiaa.PureFnExactRefsOf Go.RowKit Go.Proofs.YtengilknjiobiaaG Go.Proofs.Ytengilknjiobiaa.PFnExactRefsOf Go.Proofs.YtengilknjiobiaaW.PrintWords Go.Proofs.YtengilknjiobiaaW.PrintLast Go.Proofs.YtengilknjiobiaaW.PrintMore
set_option linter.unusedSimpArgs false
set_option linter.unusedVariables false
def Up (l:List Int):Prop:=l.Pairwise (· < ·)
theorem up_eq : ∀ {l m : List Int}, Up l → Up m → (∀ x, x ∈ l ↔ x ∈ m) → l = m
  |[],[],_,_,_=>rfl
  |[],b::m,_,_,h=>by have:=(h b).2 (List.mem_cons_self ..);cases this
  |a::l,[],_,_,h=>by have:=(h a).1 (List.mem_cons_self ..);cases this
  |a::l,b::m,hl,hm,h=>by
    obtain⟨h1,h2⟩:=List.pairwise_cons.1 hl
    obtain⟨h3,h4⟩:=List.pairwise_cons.1 hm
    have e:a=b:=by
      have ha:=(h a).1 (List.mem_cons_self ..)
      have hb:=(h b).2 (List.mem_cons_self ..)
      rcases List.mem_cons.1 ha with e|ha
      · exact e
      · rcases List.mem_cons.1 hb with e | hb
        · exact e.symm
        · have:=h3 a ha;have:=h1 b hb;omega
    subst e
    congr 1
    refine up_eq h2 h4 fun x=>⟨fun hx=>?_,fun hx=>?_⟩
    · rcases List.mem_cons.1 ((h x).1 (List.mem_cons_of_mem _ hx)) with e | h5
      · subst e;exact absurd (h1 x hx) (by omega)
      · exact h5
    · rcases List.mem_cons.1 ((h x).2 (List.mem_cons_of_mem _ hx)) with e | h5
      · subst e;exact absurd (h3 x hx) (by omega)
      · exact h5
def putL : List Int → Int → List Int
  |[],n=>[n]
  |a::l,n=>if a≥n then(if a>n then n::a::l else a::l)else a::putL l n
theorem putL_mem : ∀ (l : List Int) (n x : Int), x ∈ putL l n ↔ x ∈ l ∨ x = n
  |[],n,x=>by simp[putL]
  |a::l,n,x=>by
    rw[putL]
    split
    · split
      · simp only [List.mem_cons]
        constructor
        · rintro(h|h|h)<;>simp[h]
        · rintro((h|h)|h)<;>simp[h]
      · have : a = n := by omega
        subst this
        simp only[List.mem_cons]
        constructor
        · rintro(h|h)<;>simp[h]
        · rintro((h|h)|h)<;>simp[h]
    · simp only [List.mem_cons, putL_mem l n x]
      constructor
      · rintro(h|h|h)<;>simp[h]
      · rintro((h|h)|h)<;>simp[h]
theorem putL_up : ∀ (l : List Int) (n : Int), Up l → Up (putL l n)
  |[],n,_=>List.pairwise_singleton _ _
  |a::l,n,h=>by
    obtain⟨h1,h2⟩:=List.pairwise_cons.1 h
    rw[putL]
    split
    · split
      · refine List.pairwise_cons.2 ⟨fun x hx => ?_, h⟩
        rcases List.mem_cons.1 hx with rfl|hx
        · omega
        · have:=h1 x hx;omega
      · exact h
    · refine List.pairwise_cons.2 ⟨fun x hx => ?_, putL_up l n h2⟩
      rcases(putL_mem l n x).1 hx with hx|rfl
      · exact h1 x hx
      · omega
theorem putL_len : ∀ (l : List Int) (n : Int), (putL l n).length ≤ l.length + 1
  |[],n=>by simp[putL]
  |a::l,n=>by
    rw[putL]
    split
    · split<;>simp
    · have:=putL_len l n;simp;omega
theorem put_done (n:Int):∀(d:Nat) (l:List Int) (i:Nat) (acc:List Int),l.length≤1048600→i+d=l.length→acc.length≤1048700+i→Ev (fun k=>spec_l00Put.l0 k l n acc true (i:Int)) (acc++l.drop i):=by
  intro d
  induction d with
  |zero=>
    intro l i acc hl hi ha
    refine ev_shift ?_;simp only[spec_l00Put.l0]
    rw[List.drop_of_length_le (by omega),List.append_nil]
    exact ev_neg (by omega) (ev_pos (by trivial) (ev_some _))
  |succ d ih=>
    intro l i acc hl hi ha
    have hi2:i<l.length:=by omega
    have hw:=wrap_up (show(0:Int)≤(i:Int) by omega) (show(i:Int)<(l.length:Int) by omega) (by omega)
    have hk:=ih l (i+1) (acc++[l[i]]) hl (by omega) (by rw[List.length_append];simp;omega)
    refine ev_shift ?_;simp only[spec_l00Put.l0]
    refine ev_pos (by omega) (ev_pos (by trivial) ?_)
    refine ev_shift ?_;simp only[spec_l00Put.j1]
    rw[hw,rd_get l i hi2]
    refine ev_neg Bool.false_ne_true (ev_pos (by omega) (ev_pos (by omega) (ev_pos (by omega) ?_)))
    rw[List.drop_eq_getElem_cons hi2]
    simpa using hk
theorem put_loop (n:Int):∀(d:Nat) (l:List Int) (i:Nat) (acc:List Int),l.length≤1048600→i+d=l.length→acc.length≤1048600+i→Ev (fun k=>spec_l00Put.l0 k l n acc false (i:Int)) (acc++putL (l.drop i) n):=by
  intro d
  induction d with
  |zero=>
    intro l i acc hl hi ha
    refine ev_shift ?_;simp only[spec_l00Put.l0]
    rw[List.drop_of_length_le (by omega),putL]
    exact ev_neg (by omega) (ev_neg Bool.false_ne_true (ev_pos (by omega) (ev_some _)))
  |succ d ih=>
    intro l i acc hl hi ha
    have hi2:i<l.length:=by omega
    have hw:=wrap_up (show(0:Int)≤(i:Int) by omega) (show(i:Int)<(l.length:Int) by omega) (by omega)
    refine ev_shift ?_;simp only[spec_l00Put.l0]
    rw[rd_get l i hi2,List.drop_eq_getElem_cons hi2,putL]
    refine ev_pos (by omega) (ev_neg Bool.false_ne_true (ev_pos (by omega) ?_))
    by_cases c:l[i]≥n
    · rw [decide_eq_true c, if_pos c]
      refine ev_shift ?_;simp only[spec_l00Put.j1]
      rw[hw,rd_get l i hi2]
      refine ev_pos (by trivial) (ev_pos (by omega) (ev_pos (by omega) ?_))
      by_cases c2:l[i]>n
      · rw [if_pos c2]
        refine ev_pos c2 (ev_pos (by omega) (ev_bindc rfl (ev_pos (by rw[List.length_append];simp;omega) ?_)))
        have hk:=put_done n d l (i+1) (acc++[n]++[l[i]]) hl (by omega) (by simp;omega)
        simpa using hk
      · rw [if_neg c2]
        refine ev_neg c2 (ev_pos (by omega) ?_)
        have hk:=put_done n d l (i+1) (acc++[l[i]]) hl (by omega) (by simp;omega)
        simpa using hk
    · rw [decide_eq_false c, if_neg c]
      refine ev_shift ?_;simp only[spec_l00Put.j1]
      rw[hw,rd_get l i hi2]
      refine ev_neg Bool.false_ne_true (ev_pos (by omega) (ev_pos (by omega) (ev_pos (by omega) ?_)))
      have hk:=ih l (i+1) (acc++[l[i]]) hl (by omega) (by simp;omega)
      simpa using hk
theorem put_ev (l:List Int) (n:Int) (hl:l.length≤1048600):Ev (fun k=>spec_l00Put.f k l n) (putL l n):=by
  simp only[spec_l00Put.f]
  simpa using put_loop n l.length l 0 [] hl (by omega) (by simp)
theorem compact_mem (zs:List Int) (x:Int):x∈Lib.compact zs↔x∈zs:=by
  unfold Lib.compact Lib.compactUpTo
  rw[List.mem_map]
  constructor
  · rintro ⟨j, hj, rfl⟩
    have hj2:=List.mem_range.1 (List.mem_filter.1 hj).1
    rw[getElem!_pos _ _ (by simpa using hj2)]
    simp
  · intro hx
    obtain⟨j,hj,rfl⟩:=List.mem_iff_getElem.1 hx
    suffices h:∀j (hj:j<zs.length),∃a,a∈(List.range zs.length).filter (Lib.keeps zs.toArray)∧zs.toArray[a]! =zs[j] from h j hj
    intro j
    induction j with
    |zero=>
      intro hj
      exact⟨0,List.mem_filter.2 ⟨List.mem_range.2 hj,Lib.keeps_lt_one _ 0 (by omega)⟩,by rw[getElem!_pos _ _ (by simpa using hj)];simp⟩
    |succ j ih=>
      intro hj
      by_cases hk:Lib.keeps zs.toArray (j+1)=true
      · exact⟨j+1,List.mem_filter.2 ⟨List.mem_range.2 hj,hk⟩,by rw[getElem!_pos _ _ (by simpa using hj)];simp⟩
      · obtain ⟨a, ha, he⟩ := ih (by omega)
        refine⟨a,ha,?_⟩
        rw[he]
        have h1:zs.toArray[j+1]! =zs[j+1]:=by rw[getElem!_pos _ _ (by simpa using hj)];simp
        have h2:zs.toArray[j]! =zs[j]:=by rw[getElem!_pos _ _ (by simp;omega)];simp
        simp[Lib.keeps,h1,h2]at hk
        omega
theorem compact_up (zs:List Int) (h:zs.Pairwise (· ≤ ·)):Up (Lib.compact zs):=by
  unfold Lib.compact Lib.compactUpTo Up
  rw[List.pairwise_map]
  have hr:(List.range zs.length).Pairwise (· < ·):=List.pairwise_lt_range
  have hf:=hr.filter (Lib.keeps zs.toArray)
  refine List.Pairwise.imp_of_mem ?_ hf
  intro i j hi hj hij
  obtain⟨hj1,hj2⟩:=List.mem_filter.1 hj
  have hj3:=List.mem_range.1 hj1
  obtain⟨m,rfl⟩:∃m,j=m+1:=⟨j- 1,by omega⟩
  have h1:zs.toArray[m+1]! =zs[m+1]:=by rw[getElem!_pos _ _ (by simpa using hj3)];simp
  have h2:zs.toArray[m]! =zs[m]:=by rw[getElem!_pos _ _ (by simp;omega)];simp
  have h3:zs.toArray[i]! =zs[i]:=by rw[getElem!_pos _ _ (by simp;omega)];simp
  have hle:=List.pairwise_iff_getElem.1 h
  have a1:=hle m (m+1) (by omega) hj3 (by omega)
  have a2:zs[i]≤zs[m]:=by
    rcases Nat.lt_or_ge i m with h4|h4
    · exact hle i m (by omega) (by omega) h4
    · have : i = m := by omega
      subst this;exact Int.le_refl _
  simp[Lib.keeps,h1,h2]at hj2
  rw[h1,h3]
  omega
theorem sort_le (l:List Int):(l.mergeSort fun x y=>decide (x≤y)).Pairwise (· ≤ ·):=by
  have h:=List.pairwise_mergeSort (le:=fun x y:Int=>decide (x≤y)) (by intro a b c h1 h2;simp at h1 h2 ⊢;omega) (by intro a b;simp;omega) l
  exact h.imp (fun h=>by simpa using h)
theorem rd_vb (l:List S29) (i:Nat) (h:i<l.length):rd_T29 l (i:Int)=l[i]:=getD_get _ l i h
def refB (x:S29):Bool:=decide (4≤x.f0)&&decide (x.f0≤6)
def refL (l:List S29):List Int:=(l.filter refB).map (·.f3)
theorem refL_cons (x:S29) (l:List S29):refL (x::l)=if refB x=true then x.f3::refL l else refL l:=by
  unfold refL
  cases h:refB x<;>simp[h]
theorem refL_len (l:List S29):(refL l).length≤l.length:=by
  unfold refL;rw[List.length_map];exact List.length_filter_le _ _
theorem refL_drop (l:List S29) (i:Nat) (h:i<l.length):refL (l.drop i)=if refB l[i]=true then l[i].f3::refL (l.drop (i+1))else refL (l.drop (i+1)):=by
  rw[List.drop_eq_getElem_cons h,refL_cons]
theorem spec_refs_loop (l:List S29) (hl:l.length≤1000):∀(d i:Nat) (acc:List Int),i+d=l.length→acc.length≤i→Ev (fun k=>spec_RefsOf.l0 k acc l (i:Int)) ((refL (l.drop i)).foldl putL acc):=by
  intro d
  induction d with
  |zero=>
    intro i acc hi ha
    refine ev_shift ?_;simp only[spec_RefsOf.l0]
    rw[List.drop_of_length_le (by omega)]
    exact ev_neg (by omega) (ev_some _)
  |succ d ih=>
    intro i acc hi ha
    have hi2:i<l.length:=by omega
    have hw:=wrap_up (show(0:Int)≤(i:Int) by omega) (show(i:Int)<(l.length:Int) by omega) (by omega)
    refine ev_shift ?_;simp only[spec_RefsOf.l0]
    rw[hw,rd_vb l i hi2,refL_drop l i hi2]
    refine ev_pos (by omega) (ev_pos (by omega) (ev_bindc (a:=refB l[i]) ?_ ?_))
    · simp only[spec_l07IsRef.f];rw[spec_l00In_eq,Option.bind_some];rfl
    · have hp := putL_len acc l[i].f3
      cases hr:refB l[i]with
      |true=>
        refine ev_pos rfl (ev_bind (put_ev acc l[i].f3 (by omega)) ?_)
        rw[if_pos rfl,List.foldl_cons]
        exact ih (i+1) _ (by omega) (by omega)
      |false=>
        rw[if_neg Bool.false_ne_true]
        exact ev_neg Bool.false_ne_true (ih (i+1) acc (by omega) (by omega))
theorem impl_refs_loop (l:List S29) (hl:l.length≤1000):∀(d i:Nat) (acc:List Int),i+d=l.length→acc.length≤i→Ev (fun k=>impl_Object_refs.l0 k acc l (l.length:Int) (i:Int)) (Lib.compact ((acc++refL (l.drop i)).mergeSort fun x y=>decide (x≤y))):=by
  intro d
  induction d with
  |zero=>
    intro i acc hi ha
    refine ev_shift ?_;simp only[impl_Object_refs.l0]
    rw[List.drop_of_length_le (by omega),show refL []=[] from rfl,List.append_nil]
    have hm:(acc.mergeSort fun x y=>decide (x≤y)).length=acc.length:=List.length_mergeSort _
    refine ev_neg (by omega) (ev_bindc (a:=acc.mergeSort fun x y=>decide (x≤y)) ?_ (ev_bindc (a:=Lib.compact (acc.mergeSort fun x y=>decide (x≤y))) ?_ (ev_some _)))
    · simp only[slices_Sort_int64_int64.f];rw[if_pos (by omega)]
    · simp only[slices_Compact_int64_int64.f];rw[if_pos (by omega)]
  |succ d ih=>
    intro i acc hi ha
    have hi2:i<l.length:=by omega
    have hw:=wrap_up (show(0:Int)≤(i:Int) by omega) (show(i:Int)<(l.length:Int) by omega) (by omega)
    refine ev_shift ?_;simp only[impl_Object_refs.l0]
    rw[hw,rd_vb l i hi2,refL_drop l i hi2]
    refine ev_pos (by omega) (ev_pos (by omega) (ev_pos (by omega) (ev_bindc (a:=refB l[i]) ?_ ?_)))
    · simp only[impl_refers.f];rw[impl_within_eq,Option.bind_some];rfl
    · cases hr : refB l[i] with
      |true=>
        rw[if_pos rfl]
        refine ev_pos rfl (ev_pos (by omega) ?_)
        have hk:=ih (i+1) (acc++[l[i].f3]) (by omega) (by rw[List.length_append];simp;omega)
        simpa using hk
      |false=>
        rw[if_neg Bool.false_ne_true]
        exact ev_neg Bool.false_ne_true (ih (i+1) acc (by omega) (by omega))
theorem fold_mem : ∀ (R acc : List Int) (x : Int), x ∈ R.foldl putL acc ↔ x ∈ acc ∨ x ∈ R
  |[],acc,x=>by simp
  |n::R,acc,x=>by
    rw[List.foldl_cons,fold_mem R,putL_mem,List.mem_cons]
    constructor
    · rintro((h|h)|h)<;>simp[h]
    · rintro(h|h|h)<;>simp[h]
theorem fold_up : ∀ (R acc : List Int), Up acc → Up (R.foldl putL acc)
  |[],_,h=>h
  |n::R,acc,h=>fold_up R _ (putL_up acc n h)
theorem fold_len : ∀ (R acc : List Int), (R.foldl putL acc).length ≤ acc.length + R.length
  |[],acc=>by simp
  |n::R,acc=>by
    have h1:=fold_len R (putL acc n)
    have h2:=putL_len acc n
    rw[List.foldl_cons,List.length_cons];omega
theorem both_refs (R:List Int):Lib.compact (R.mergeSort fun x y=>decide (x≤y))=R.foldl putL []:=by
  refine up_eq (compact_up _ (sort_le R)) (fold_up R [] List.Pairwise.nil) fun x=>?_
  rw[compact_mem,fold_mem,List.mem_mergeSort]
  simp
theorem core:laws_FnExactRefsOf.Core:=by
  intro a0 a1 a2 a3 l4 l5 a6 a7 a8 a9 f0 f1 f2 f3 f4 f5 f6 f7 f8 f9
  have h4:l4.length≤1048576:=f4.len
  have h5:l5.length≤1048576:=f5.len
  have hs:=spec_ValidObject_ev a0 a1 a2 a3 l4 l5 a6 a7 a8 a9 h4 h5
  have hi:=impl_ValidObject_ev a0 a1 a2 a3 l4 l5 a6 a7 a8 a9 h4 h5
  simp only[spec_RefsOf.f,impl_RefsOf.f]
  cases hv:objV a0 a1 a2 a3 l4 l5 a6 a7 a8 a9 with
  |false=>
    rw[hv]at hs hi
    exact⟨[],ev_bindc rfl (ev_bind hs (ev_neg Bool.false_ne_true (ev_some _))),ev_bind hi (ev_neg Bool.false_ne_true (ev_some _)),Fine.list (by simp) (fun a h=>by cases h)⟩
  |true=>
    rw[hv]at hs hi
    have h5s:l5.length≤30:=by
      simp only[objV,Bool.and_eq_true,decide_eq_true_eq]at hv
      exact hv.1.2.1
    have h4s:l4.length≤30∧(a1≠2→a6=0):=by
      simp only[objV,Bool.and_eq_true]at hv
      have hk:=hv.2
      unfold kindV at hk
      by_cases c1:a1=1
      · rw [if_pos c1] at hk
        simp only[Bool.and_eq_true,decide_eq_true_eq,zeroB,beq_iff_eq]at hk
        exact⟨by omega,fun _=>hk.2.2.2.1⟩
      · rw [if_neg c1] at hk
        by_cases c2:a1=2
        · rw [if_pos c2] at hk
          simp only[Bool.and_eq_true,decide_eq_true_eq]at hk
          exact⟨by omega,fun h=>absurd c2 h⟩
        · rw [if_neg c2] at hk
          by_cases c3:a1=3
          · rw [if_pos c3] at hk
            simp only[Bool.and_eq_true,decide_eq_true_eq,zeroB,beq_iff_eq]at hk
            exact⟨by omega,fun _=>hk.2.2.2.2.1⟩
          · rw[if_neg c3]at hk;cases hk
    have hlen:((l4++l5)++[(⟨a6,a7,a8,a9⟩:S29)]).length=l4.length+l5.length+1:=by simp;omega
    have hspec:=spec_refs_loop ((l4++l5)++[(⟨a6,a7,a8,a9⟩:S29)]) (by omega) _ 0 [] (by rw[Nat.zero_add]) (by simp)
    rw[List.drop_zero]at hspec
    refine⟨(refL ((l4++l5)++[(⟨a6,a7,a8,a9⟩:S29)])).foldl putL [],ev_bindc rfl (ev_bind hs (ev_pos rfl (ev_bindc (a:=l4) ?_ (ev_pos (by omega) (ev_bindc rfl (ev_bindc rfl (ev_pos (by rw[List.length_append];simp;omega) hspec))))))),ev_bind hi (ev_pos rfl (ev_bind ?_ (ev_some _))),?_⟩
    · simp only [spec_l07OwnValues.f]
      rw[Option.bind_some,if_pos (by simp;omega)];rfl
    · simp only [impl_Object_refs.f, impl_Object_values.f]
      by_cases c2:a1=2
      · refine ev_bind (a := (l4 ++ l5) ++ [(⟨a6, a7, a8, a9⟩ : S29)]) (ev_bind (concat2_ev l4 l5 h4 h5) (ev_pos c2 (ev_pos (by rw [List.length_append]; omega) (ev_some _)))) ?_
        have h:=impl_refs_loop ((l4++l5)++[(⟨a6,a7,a8,a9⟩:S29)]) (by omega) _ 0 [] (by rw[Nat.zero_add]) (by simp)
        rw[List.drop_zero,List.nil_append,both_refs]at h
        exact h
      · refine ev_bind (a := l4 ++ l5) (ev_bind (concat2_ev l4 l5 h4 h5) (ev_neg c2 (ev_some _))) ?_
        have h:=impl_refs_loop (l4++l5) (by rw[List.length_append];omega) _ 0 [] (by rw[Nat.zero_add]) (by simp)
        rw[List.drop_zero,List.nil_append,both_refs]at h
        have he:refL ((l4++l5)++[(⟨a6,a7,a8,a9⟩:S29)])=refL (l4++l5):=by
          have h6:=h4s.2 c2
          unfold refL
          rw[List.filter_append]
          simp[refB,h6]
        rw[he]
        exact h
    · have hl := fold_len (refL ((l4 ++ l5) ++ [(⟨a6, a7, a8, a9⟩ : S29)])) []
      have hl2:=refL_len ((l4++l5)++[(⟨a6,a7,a8,a9⟩:S29)])
      rw[hlen]at hl2
      rw[List.length_nil]at hl
      refine Fine.list (by omega) (fun x hx=>?_)
      rcases(fold_mem _ _ _).1 hx with h|h
      · cases h
      · unfold refL at h
        obtain⟨y,hy,rfl⟩:=List.mem_map.1 h
        have hy2:=(List.mem_filter.1 hy).1
        rcases List.mem_append.1 hy2 with hy3|hy3
        · rcases List.mem_append.1 hy3 with hy4 | hy4
          · exact(f4.mem hy4).2.2.2
          · exact(f5.mem hy4).2.2.2
        · obtain rfl := List.mem_singleton.1 hy3
          exact f9
theorem FnExactRefsOf:laws_FnExactRefsOf.Pure:=close core
end Go.Proofs.Ytengilknjiobiaa.Pure
