/- Both functions list the pairs alike. -/
import Derived.Test.YtengilknjiobiaaYPairsOfA
import Derived.Test.YtengilknjiobiaaYPairsOfVHeaps
namespace Go.Proofs.Ytengilknjiobiaa.Pure
open Go.Proofs.Ytengilknjiobiaa.PureFnExactPairsOf Go.RowKit Go.Proofs.YtengilknjiobiaaG Go.Proofs.Ytengilknjiobiaa.PFnExactPairsOf Go.Proofs.YtengilknjiobiaaW.PrintWords Go.Proofs.YtengilknjiobiaaW.PrintLast Go.Proofs.YtengilknjiobiaaW.PrintMore
theorem idx_foldI {β : Type} {g : Nat → β → Int → Option β} (n : Nat) (f : β → Nat → β) (I : β → Nat → Prop) (hI : ∀ b i, i < n → I b i → I (f b i) (i + 1)) (h0 : ∀ b, I b n → Ev (fun k => g k b (n : Int)) b)
    (h1:∀b i,i<n→I b i→∀r,Ev (fun k=>g k (f b i) ((i:Int)+1)) r→Ev (fun k=>g k b (i:Int)) r) (b:β) (hb:I b 0):Ev (fun k=>g k b 0) ((List.range' 0 n).foldl f b):=by
  suffices h:∀d i:Nat,i+d=n→∀b,I b i→Ev (fun k=>g k b (i:Int)) ((List.range' i d).foldl f b) from h n 0 (Nat.zero_add _) b hb
  intro d
  induction d with
  |zero=>
    intro i hi b hb
    have e:i=n:=by omega
    subst e
    exact h0 b hb
  |succ d ih=>
    intro i hi b hb
    rw[List.range'_succ,List.foldl_cons]
    exact h1 b i (by omega) hb _ (by simpa using ih (i+1) (by omega) (f b i) (hI b i (by omega) hb))
theorem fold_inv {β:Type} (f:β→Nat→β) (I:β→Nat→Prop) (n:Nat) (hI:∀b i,i<n→I b i→I (f b i) (i+1)) (b:β) (hb:I b 0):I ((List.range' 0 n).foldl f b) n:=by
  suffices h:∀d i:Nat,i+d=n→∀b,I b i→I ((List.range' i d).foldl f b) n from h n 0 (Nat.zero_add _) b hb
  intro d
  induction d with
  |zero=>
    intro i hi b hb
    have e:i=n:=by omega
    subst e
    exact hb
  |succ d ih=>
    intro i hi b hb
    rw[List.range'_succ,List.foldl_cons]
    exact ih (i+1) (by omega) (f b i) (hI b i (by omega) hb)
theorem small_of {l:List S56} (h:Fine l):smallO l:=by
  intro o ho
  have f:Fine o.f0∧Fine o.f1∧Fine o.f2∧Fine o.f3∧Fine o.f4∧Fine o.f5∧Fine o.f6:=h.mem ho
  exact⟨f.2.2.2.2.1.len,f.2.2.2.2.2.1.len⟩
theorem heap_obP {n:Int} {l:List S56} (h:heapV n l=true) (i:Nat) (hi:i<l.length):obV (rd_T56 l (i:Int))=true:=by
  simp only[heapV,Bool.and_eq_true]at h
  have:=(allN_iff _ _).1 h.2.2.1 i hi
  simp only[okN,Bool.and_eq_true]at this
  exact this.1
theorem ob_lenP {o:S56} (h:obV o=true) (hk:¬o.f1=1):o.f4.length=o.f5.length:=by
  simp only[obV,objV,kindV,Bool.and_eq_true]at h
  have h2:=h.2
  rw[if_neg hk]at h2
  by_cases k2:o.f1=2
  · rw [if_pos k2] at h2
    simp only[Bool.and_eq_true,decide_eq_true_eq]at h2
    exact h2.2.2.1
  · rw [if_neg k2] at h2
    by_cases k3:o.f1=3
    · rw [if_pos k3] at h2
      simp only[Bool.and_eq_true,decide_eq_true_eq]at h2
      exact h2.2.2.1
    · rw[if_neg k3]at h2;cases h2
theorem ob_30 {o:S56} (h:obV o=true):o.f5.length≤30:=by
  simp only[obV,objV,Bool.and_eq_true,decide_eq_true_eq]at h
  exact h.1.2.1
def keyP (o:S56) (i:Nat):S29:=if o.f1=1 then⟨2,wrap64 (o.f3+(i:Int)),(⟨#[]⟩:ByteArray),0⟩else rd_T29 o.f4 (i:Int)
def pair1 (o:S56) (b:List S29) (i:Nat):List S29:=b++[keyP o i,rd_T29 o.f5 (i:Int)]
def pairsP (o:S56):List S29:=(List.range' 0 o.f5.length).foldl (pair1 o) []
theorem pair1_len (o:S56) (b:List S29) (i:Nat):(pair1 o b i).length=b.length+2:=by simp[pair1]
theorem pairs_s_ev (o:S56) (h5:o.f5.length≤30) (hl:¬o.f1=1→o.f4.length=o.f5.length):Ev (fun k=>spec_PairsOf.l0 k [] 0 o.f0 o.f1 o.f2 o.f3 o.f4 o.f5 o.f6.f0 o.f6.f1 o.f6.f2 o.f6.f3) (pairsP o):=by
  refine idx_foldI (g:=fun k b i=>spec_PairsOf.l0 k b i o.f0 o.f1 o.f2 o.f3 o.f4 o.f5 o.f6.f0 o.f6.f1 o.f6.f2 o.f6.f3) o.f5.length _ (fun b i=>b.length=2*i) ?_ ?_ ?_ [] rfl
  · intro b i hi hb
    rw[pair1_len];omega
  · intro b hb
    refine ev_shift ?_;simp only[spec_PairsOf.l0]
    exact ev_neg (by omega) (ev_some _)
  · intro b i hi hb r hr
    refine ev_shift ?_;simp only[spec_PairsOf.l0,Option.bind_some]
    rw[wrap_up (by omega) (show(i:Int)<(o.f5.length:Int) by omega) (by omega)]
    unfold pair1 keyP at hr
    refine ev_pos (by omega) ?_
    by_cases h1:o.f1=1
    · rw [if_pos h1] at hr
      exact ev_pos h1 (ev_pos (by omega) (ev_pos (by simp;omega) hr))
    · have := hl h1
      rw[if_neg h1]at hr
      exact ev_neg h1 (ev_pos (by omega) (ev_pos (by omega) (ev_pos (by simp;omega) hr)))
theorem pairs_i_ev (o:S56) (h5:o.f5.length≤30) (hl:¬o.f1=1→o.f4.length=o.f5.length):Ev (fun k=>impl_PairsOf.l0 k [] o.f5 (o.f5.length:Int) 0 o.f0 o.f1 o.f2 o.f3 o.f4 o.f5 o.f6.f0 o.f6.f1 o.f6.f2 o.f6.f3) (pairsP o):=by
  refine idx_foldI (g:=fun k b i=>impl_PairsOf.l0 k b o.f5 (o.f5.length:Int) i o.f0 o.f1 o.f2 o.f3 o.f4 o.f5 o.f6.f0 o.f6.f1 o.f6.f2 o.f6.f3) o.f5.length _ (fun b i=>b.length=2*i) ?_ ?_ ?_ [] rfl
  · intro b i hi hb
    rw[pair1_len];omega
  · intro b hb
    refine ev_shift ?_;simp only[impl_PairsOf.l0]
    exact ev_neg (by omega) (ev_some _)
  · intro b i hi hb r hr
    refine ev_shift ?_;simp only[impl_PairsOf.l0,impl_numberOf.f,Option.bind_some]
    rw[wrap_up (by omega) (show(i:Int)<(o.f5.length:Int) by omega) (by omega)]
    unfold pair1 keyP at hr
    refine ev_pos (by omega) (ev_pos (by omega) (ev_pos (by omega) ?_))
    by_cases h1:o.f1=1
    · rw [if_pos h1] at hr
      exact ev_pos h1 (ev_pos (by simp;omega) hr)
    · have := hl h1
      rw[if_neg h1]at hr
      exact ev_neg h1 (ev_pos (by omega) (ev_pos (by simp;omega) hr))
theorem pairs_fine {o:S56} (go:Fine o) (h5:o.f5.length≤30) (hl:¬o.f1=1→o.f4.length=o.f5.length):Fine (pairsP o):=by
  have g:Fine o.f0∧Fine o.f1∧Fine o.f2∧Fine o.f3∧Fine o.f4∧Fine o.f5∧Fine o.f6:=go
  have h:=fold_inv (pair1 o) (fun b i=>b.length=2*i∧∀x,x∈b→Fine x) o.f5.length (fun b i hi hb=>by
    refine⟨by rw[pair1_len,hb.1];omega,fun x hx=>?_⟩
    rcases List.mem_append.1 hx with hx|hx
    · exact hb.2 x hx
    · rcases List.mem_cons.1 hx with rfl | hx
      · unfold keyP
        split
        · exact show Fine (2:Int)∧Fine (wrap64 (o.f3+(i:Int)))∧Fine (⟨#[]⟩:ByteArray)∧Fine (0:Int) from⟨show _∧_ by omega,wrap_fine _,show(0:Nat)≤1048576 by omega,show _∧_ by omega⟩
        · rename_i h1
          rw[rd_va _ i (by have:=hl h1;omega)]
          exact g.2.2.2.2.1.mem (List.getElem_mem _)
      · rw [List.mem_singleton] at hx
        subst hx
        rw[rd_va _ i hi]
        exact g.2.2.2.2.2.1.mem (List.getElem_mem _)) [] ⟨rfl,fun x hx=>by cases hx⟩
  exact Fine.list (by have:=h.1;unfold pairsP;omega) h.2
theorem core:laws_FnExactPairsOf.Core:=by
  intro n l a b c d _ gl _ _ _ _
  have hm:=small_of gl
  simp only[spec_PairsOf.f,impl_PairsOf.f,Option.bind_some]
  have hs:=spec_l09Fit_ev n l gl.len hm [(⟨a,b,c,d⟩:S29)] (by simp)
  have hi:=impl_FitsHeap_ev n l gl.len hm a b c d
  have e1:fitL l [(⟨a,b,c,d⟩:S29)]=fitV l a b c d:=by unfold fitL;simp
  rw[e1]at hs
  have bs:Ev (fun k=>spec_PairsOf.j0 k [] true n l a b c d) []:=by
    refine ev_shift ?_;simp only[spec_PairsOf.j0]
    exact ev_pos trivial (ev_some _)
  have bi:Ev (fun k=>impl_PairsOf.j0 k true n l a b c d) []:=by
    refine ev_shift ?_;simp only[impl_PairsOf.j0]
    exact ev_pos trivial (ev_some _)
  have gnil:Fine ([]:List S29):=Fine.list (by simp) (fun x hx=>by cases hx)
  cases hv:(heapV n l&&fitV l a b c d)with
  |false=>
    rw[hv]at hs hi
    exact⟨[],ev_bind hs (ev_neg Bool.false_ne_true bs),ev_bind hi (ev_neg Bool.false_ne_true bi),gnil⟩
  |true=>
    rw[hv]at hs hi
    simp only[Bool.and_eq_true]at hv
    cases href:(decide (4≤a)&&decide (a≤6))with
    |false=>
      refine⟨[],ev_bind hs (ev_pos rfl (ev_bindc (spec_isRef_eq _ _ _ _) ?_)),ev_bind hi (ev_pos rfl (ev_bindc (impl_refers_eq _) ?_)),gnil⟩
      · rw[href];exact bs
      · rw[href];exact bi
    |true=>
      have hf:=fit_find hv.2 href
      have hlt:=findI_lt l d
      obtain⟨i,hi'⟩:∃i:Nat,findI l d=i:=⟨(findI l d).toNat,by omega⟩
      have hil:i<l.length:=by omega
      have hob:=heap_obP hv.1 i hil
      obtain⟨o,ho⟩:∃o,rd_T56 l (i:Int)=o:=⟨_,rfl⟩
      have gO:Fine o:=by rw[←ho,rd_ob l i hil];exact gl.mem (List.getElem_mem hil)
      rw[ho]at hob
      have h5:=ob_30 hob
      have h4:=fun h=>ob_lenP hob h
      refine⟨pairsP o,ev_bind hs (ev_pos rfl (ev_bindc (spec_isRef_eq _ _ _ _) ?_)),ev_bind hi (ev_pos rfl (ev_bindc (impl_refers_eq _) ?_)),pairs_fine gO h5 h4⟩
      · rw [href]
        refine ev_shift ?_;simp only[spec_PairsOf.j0]
        have hfe:=spec_l07Find_ev ⟨n,l⟩ gl.len d
        dsimp only at hfe
        rw[hi']at hfe
        refine ev_neg (by decide) (ev_bind hfe (ev_pos (by omega) (ev_pos (by omega) ?_)))
        rw[ho]
        exact pairs_s_ev o h5 h4
      · rw [href]
        refine ev_shift ?_;simp only[impl_PairsOf.j0]
        have hoe:=impl_object_ev n l gl.len (rise_heap hv.1) a b c d href
        rw[hi']at hoe
        refine ev_neg (by decide) (ev_bind hoe (ev_pos (by omega) (ev_pos (by omega) ?_)))
        rw[ho]
        exact pairs_i_ev o h5 h4
theorem FnExactPairsOf:laws_FnExactPairsOf.Pure:=close core
end Go.Proofs.Ytengilknjiobiaa.Pure
