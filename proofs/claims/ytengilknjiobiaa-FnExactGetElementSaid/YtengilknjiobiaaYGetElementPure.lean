/- The program's GetElement returns what the reference's returns, for every heap, value and index; no condition. -/
import Derived.Test.YtengilknjiobiaaYGetElementA
import Derived.Test.YtengilknjiobiaaYGetElementVFields
namespace Go.Proofs.Ytengilknjiobiaa.Pure
open Go.Proofs.Ytengilknjiobiaa.PureFnExactGetElement Go.RowKit Go.Proofs.YtengilknjiobiaaG Go.Proofs.Ytengilknjiobiaa.PFnExactGetElement Go.Proofs.YtengilknjiobiaaW.PrintWords Go.Proofs.YtengilknjiobiaaW.PrintLast Go.Proofs.YtengilknjiobiaaW.PrintMore
theorem small_of {l:List S56} (h:Fine l):smallO l:=by
  intro o ho
  have f:Fine o.f0∧Fine o.f1∧Fine o.f2∧Fine o.f3∧Fine o.f4∧Fine o.f5∧Fine o.f6:=h.mem ho
  exact⟨f.2.2.2.2.1.len,f.2.2.2.2.2.1.len⟩
theorem fine6 {a b:Int} {c:ByteArray} {d:Int} {f:Bool} {e:Int} (h1: -9223372036854775808≤a∧a≤9223372036854775807) (h2: -9223372036854775808≤b∧b≤9223372036854775807) (h3:c.size≤1048576) (h4: -9223372036854775808≤d∧d≤9223372036854775807) (h5: -9223372036854775808≤e∧e≤9223372036854775807):Fine (a,b,c,d,f,e):=⟨h1,h2,h3,h4,Fine.bool _,h5⟩
def elI (o:S56) (a b:Int) (c:ByteArray) (d:Int):Int:=if o.f1=2 then keyI o.f4 ⟨a,b,c,d⟩else if a=2∧o.f3≤b∧b≤o.f3+o.f5.length- 1 then b-o.f3 else-1
theorem elI_tab {o:S56} (h:o.f1=2) (a b:Int) (c:ByteArray) (d:Int):elI o a b c d=keyI o.f4 ⟨a,b,c,d⟩:=by
  unfold elI;rw[if_pos h]
theorem elI_in {o:S56} (h:¬o.f1=2) {a b:Int} (h2:a=2) (h3:o.f3≤b∧b≤o.f3+o.f5.length- 1) (c:ByteArray) (d:Int):elI o a b c d=b-o.f3:=by
  unfold elI;rw[if_neg h,if_pos ⟨h2,h3⟩]
theorem elI_out {o:S56} (h:¬o.f1=2) {a b:Int} (h3:¬(a=2∧o.f3≤b∧b≤o.f3+o.f5.length- 1)) (c:ByteArray) (d:Int):elI o a b c d= -1:=by
  unfold elI;rw[if_neg h,if_neg h3]
theorem spec_at_ev (o:S56) (h4:o.f4.length≤1048576) (hr:o.f1≠2→ -1000≤o.f3∧o.f3≤1000∧o.f5.length≤30) (a b:Int) (c:ByteArray) (d:Int) (hb: -9223372036854775808≤b∧b≤9223372036854775807):Ev (fun k=>spec_l09At.f k [o] a b c d) (elI o a b c d):=by
  simp only[spec_l09At.f,rd_one]
  refine ev_pos (one_lt o) ?_
  by_cases h:o.f1=2
  · rw [elI_tab h]
    exact ev_pos h (ev_bind (spec_l09Key_ev _ h4 _ _ _ _) (ev_some _))
  · obtain ⟨r1, r2, r3⟩ := hr h
    refine ev_neg h ?_
    by_cases h2:a=2
    · refine ev_pos h2 (ev_bindc (spec_l00In_eq _ _ _) ?_)
      have e:wrap64 (wrap64 (o.f3+(o.f5.length:Int))- 1)=o.f3+o.f5.length- 1:=by unfold wrap64;omega
      rw[e]
      refine ev_shift ?_
      simp only[spec_l09At.j0,rd_one]
      by_cases h3:o.f3≤b∧b≤o.f3+o.f5.length- 1
      · rw [elI_in h h2 h3]
        refine ev_neg (by simp[h3.1,h3.2]) (ev_pos (one_lt o) ?_)
        have e2:wrap64 (b-o.f3)=b-o.f3:=by unfold wrap64;omega
        rw[e2];exact ev_some _
      · rw [elI_out h (fun x => h3 x.2)]
        refine ev_pos ?_ (ev_some _)
        by_cases h5:o.f3≤b
        · have h6 : ¬ b ≤ o.f3 + o.f5.length - 1 := fun x => h3 ⟨h5, x⟩
          simp only[decide_eq_true h5,decide_eq_false h6];rfl
        · simp only[decide_eq_false h5];rfl
    · rw [elI_out h (fun x => h2 x.1)]
      refine ev_neg h2 (ev_shift ?_)
      simp only[spec_l09At.j0]
      exact ev_pos trivial (ev_some _)
theorem impl_at_ev (o:S56) (h4:o.f4.length≤1048576) (hr:o.f1≠2→ -1000≤o.f3∧o.f3≤1000∧o.f5.length≤30) (a b:Int) (c:ByteArray) (d:Int) (hb: -9223372036854775808≤b∧b≤9223372036854775807):Ev (fun k=>impl_Object_element.f k o.f0 o.f1 o.f2 o.f3 o.f4 o.f5 o.f6.f0 o.f6.f1 o.f6.f2 o.f6.f3 a b c d) (elI o a b c d):=by
  simp only[impl_Object_element.f]
  by_cases h:o.f1=2
  · rw [elI_tab h]
    exact ev_pos h (ev_bind (impl_key_ev _ h4 _ _ _ _) (ev_some _))
  · obtain ⟨r1, r2, r3⟩ := hr h
    refine ev_neg h ?_
    by_cases h2:a=2
    · refine ev_pos h2 ?_
      simp only[impl_isIndex.f]
      by_cases h3:o.f3≤b∧b≤o.f3+o.f5.length- 1
      · rw [elI_in h h2 h3]
        have e2:wrap64 (b-o.f3)=b-o.f3:=by unfold wrap64;omega
        rw[e2]
        have e3:(if b-o.f3≥0 then some (decide (b-o.f3<(o.f5.length:Int)))else some false)=some true:=by
          rw[if_pos (by omega),decide_eq_true (by omega)]
        exact ev_bindc e3 (ev_pos rfl (ev_some _))
      · rw [elI_out h (fun x => h3 x.2)]
        have e3:(if wrap64 (b-o.f3)≥0 then some (decide (wrap64 (b-o.f3)<(o.f5.length:Int)))else some false)=some false:=by
          by_cases h5:wrap64 (b-o.f3)≥0
          · rw[if_pos h5,decide_eq_false (by unfold wrap64 at h5 ⊢;omega)]
          · rw[if_neg h5]
        exact ev_bindc e3 (ev_neg Bool.false_ne_true (ev_some _))
    · rw [elI_out h (fun x => h2 x.1)]
      exact ev_neg h2 (ev_some _)
theorem elI_lt (o:S56) (a b:Int) (c:ByteArray) (d:Int) (h:o.f1=2→o.f4.length=o.f5.length): -1≤elI o a b c d∧elI o a b c d<o.f5.length:=by
  unfold elI
  split
  · rename_i h1
    have:=keyI_lt o.f4 ⟨a,b,c,d⟩
    rw[←h h1];exact this
  · split
    · rename_i h2;omega
    · omega
theorem indexed_s (a b:Int) (c:ByteArray) (d:Int):spec_l09Indexed.f a b c d=some (decide (a=4)||decide (a=5)):=by
  simp only[spec_l09Indexed.f]
  by_cases h:a=4
  · rw[if_pos h];simp[h]
  · rw[if_neg h];simp only[decide_eq_false h,Bool.false_or];rfl
theorem indexed_i (a b:Int) (c:ByteArray) (d:Int):impl_isIndexed.f a b c d=some (decide (a=4)||decide (a=5)):=by
  simp only[impl_isIndexed.f]
  by_cases h:a=4
  · rw[if_pos h];simp[h]
  · rw[if_neg h];simp only[decide_eq_false h,Bool.false_or];rfl
theorem ob_arr {o:S56} (h:obV o=true) (hk:o.f1=1): -1000≤o.f3∧o.f3≤1000∧o.f5.length≤30:=by
  simp only[obV,objV,kindV,Bool.and_eq_true]at h
  rw[if_pos hk]at h
  simp only[Bool.and_eq_true,decide_eq_true_eq]at h
  exact⟨h.2.2.1.1,h.2.2.1.2,h.1.2.1⟩
theorem core:laws_FnExactGetElement.Core:=by
  intro n l a b c d a' b' c' d' _ gl _ _ _ _ _ gb _ _
  have hm:=small_of gl
  have hx:([(⟨a,b,c,d⟩:S29),⟨a',b',c',d'⟩]:List S29).length≤1048576:=by simp
  simp only[spec_GetElement.f,impl_GetElement.f]
  have hs:=spec_l09Fit_ev n l gl.len hm [(⟨a,b,c,d⟩:S29),⟨a',b',c',d'⟩] hx
  have hi:=impl_fitAll_code n l gl.len hm [(⟨a,b,c,d⟩:S29),⟨a',b',c',d'⟩] hx
  cases hv:(heapV n l&&fitL l [(⟨a,b,c,d⟩:S29),⟨a',b',c',d'⟩])with
  |false=>
    rw[hv]at hs hi
    rw[if_neg Bool.false_ne_true]at hi
    refine⟨(0,0,(⟨#[]⟩:ByteArray),0,false,1),ev_bind hs ?_,ev_bind hi ?_,fine6 (by omega) (by omega) (by decide) (by omega) (by omega)⟩
    · refine ev_shift ?_; simp only [spec_GetElement.j0]
      exact ev_pos (by decide) (ev_some _)
    · refine ev_bindc (indexed_i _ _ _ _) (ev_bindc (impl_unless_eq _ _) (ev_bind (impl_first2_ev _ _) ?_))
      rw[if_neg (by decide)]
      exact ev_neg (by decide) (ev_some _)
  |true=>
    rw[hv]at hs hi
    rw[if_pos rfl]at hi
    simp only[Bool.and_eq_true]at hv
    have hfv:fitV l a b c d=true:=by
      have:=hv.2
      simp only[fitL,List.all_cons,Bool.and_eq_true]at this
      exact this.1
    cases hk:(decide (a=4)||decide (a=5))with
    |false=>
      refine⟨(0,0,(⟨#[]⟩:ByteArray),0,false,4),ev_bind hs ?_,ev_bind hi ?_,fine6 (by omega) (by omega) (by decide) (by omega) (by omega)⟩
      · refine ev_shift ?_; simp only [spec_GetElement.j0]
        refine ev_neg (by decide) (ev_bindc (indexed_s _ _ _ _) ?_)
        rw[hk]
        refine ev_shift ?_;simp only[spec_GetElement.j1]
        exact ev_pos (by decide) (ev_some _)
      · refine ev_bindc (indexed_i _ _ _ _) ?_
        rw[hk]
        refine ev_bindc (impl_unless_eq _ _) (ev_bind (impl_first2_ev _ _) ?_)
        rw[if_pos rfl,if_neg Bool.false_ne_true]
        exact ev_neg (by decide) (ev_some _)
    |true=>
      have h45:4≤a∧a≤5:=by
        simp only[Bool.or_eq_true,decide_eq_true_eq]at hk
        omega
      have href:(decide (4≤a)&&decide (a≤6))=true:=by
        rw[decide_eq_true h45.1,decide_eq_true (show a≤6 by omega)];rfl
      have hf:=fit_find hfv href
      have hlt:=findI_lt l d
      obtain⟨i,hi'⟩:∃i:Nat,findI l d=i:=⟨(findI l d).toNat,by omega⟩
      have hil:i<l.length:=by omega
      have sm:=small_rd hm i hil
      have hob:=heap_ob hv.1 i hil
      have hkd:=fit_kind hfv h45.1 (by omega)
      rw[hi']at hkd hf
      obtain⟨o,ho⟩:∃o,rd_T56 l (i:Int)=o:=⟨_,rfl⟩
      rw[ho]at sm hob hkd
      have hr:o.f1≠2→ -1000≤o.f3∧o.f3≤1000∧o.f5.length≤30:=fun h2=>ob_arr hob (by omega)
      have hle:=elI_lt o a' b' c' d' (fun h2=>ob_len hob (.inl h2))
      have gO:Fine o:=by
        rw[←ho,rd_ob l i hil];exact gl.mem (List.getElem_mem hil)
      have go:Fine o.f0∧Fine o.f1∧Fine o.f2∧Fine o.f3∧Fine o.f4∧Fine o.f5∧Fine o.f6:=gO
      have hspec:∀r,Ev (fun k=>spec_GetElement.j2 k (elI o a' b' c' d') o.f0 o.f1 o.f2 o.f3 o.f4 o.f5 o.f6.f0 o.f6.f1 o.f6.f2 o.f6.f3) r→Ev (fun k=>spec_GetElement.j0 k (!true) n l a b c d a' b' c' d') r:=by
        intro r hr'
        refine ev_shift ?_;simp only[spec_GetElement.j0]
        refine ev_neg (by decide) (ev_bindc (indexed_s _ _ _ _) ?_)
        rw[hk]
        refine ev_shift ?_;simp only[spec_GetElement.j1]
        have hfe:=spec_l07Find_ev ⟨n,l⟩ gl.len d
        dsimp only at hfe
        rw[hi']at hfe
        refine ev_neg (by decide) (ev_bind hfe (ev_pos hf (ev_pos (by omega) ?_)))
        rw[ho]
        exact ev_bind (spec_at_ev o sm.1 hr a' b' c' d' gb.i64) hr'
      have himpl:∀r,Ev (fun k=>impl_GetElement.j1 k (elI o a' b' c' d') o.f0 o.f1 o.f2 o.f3 o.f4 o.f5 o.f6.f0 o.f6.f1 o.f6.f2 o.f6.f3) r→Ev (fun k=>(impl_isIndexed.f a b c d).bind fun t400=>(impl_unless.f t400 4).bind fun t401=>(impl_first.f k [0,t401]).bind fun t405=>if t405=0 then impl_GetElement.j0 k n l a b c d a' b' c' d' else some (0,0,(⟨#[]⟩:ByteArray),0,false,t405)) r:=by
        intro r hr'
        refine ev_bindc (indexed_i _ _ _ _) ?_
        rw[hk]
        refine ev_bindc (impl_unless_eq _ _) (ev_bind (impl_first2_ev _ _) ?_)
        rw[if_pos rfl,if_pos rfl]
        refine ev_pos rfl (ev_shift ?_)
        simp only[impl_GetElement.j0]
        have hoe:=impl_object_ev n l gl.len (rise_heap hv.1) a b c d href
        rw[hi']at hoe
        refine ev_bind hoe (ev_pos hf (ev_pos (by omega) ?_))
        rw[ho]
        exact ev_bind (impl_at_ev o sm.1 hr a' b' c' d' gb.i64) hr'
      by_cases hz:0≤elI o a' b' c' d'
      · obtain ⟨j, hj⟩ : ∃ j : Nat, elI o a' b' c' d' = j := ⟨(elI o a' b' c' d').toNat, by omega⟩
        rw[hj]at hspec himpl hle
        have hjl:j<o.f5.length:=by omega
        have gv:Fine (rd_T29 o.f5 (j:Int)):=by
          rw[rd_va _ j hjl]
          exact go.2.2.2.2.2.1.mem (List.getElem_mem hjl)
        have g:Fine (rd_T29 o.f5 (j:Int)).f0∧Fine (rd_T29 o.f5 (j:Int)).f1∧Fine (rd_T29 o.f5 (j:Int)).f2∧Fine (rd_T29 o.f5 (j:Int)).f3:=gv
        refine⟨((rd_T29 o.f5 (j:Int)).f0,(rd_T29 o.f5 (j:Int)).f1,(rd_T29 o.f5 (j:Int)).f2,(rd_T29 o.f5 (j:Int)).f3,true,0),ev_bind hs (hspec _ ?_),ev_bind hi (himpl _ ?_),fine6 g.1.i64 g.2.1.i64 g.2.2.1.size g.2.2.2.i64 (by omega)⟩
        · refine ev_shift ?_; simp only [spec_GetElement.j2]
          exact ev_pos (by omega) (ev_pos (by omega) (ev_pos (by omega) (ev_some _)))
        · refine ev_shift ?_; simp only [impl_GetElement.j1]
          exact ev_pos (by omega) (ev_pos (by omega) (ev_pos (by omega) (ev_some _)))
      · by_cases h2 : o.f1 = 2
        · have g : Fine o.f6.f0 ∧ Fine o.f6.f1 ∧ Fine o.f6.f2 ∧ Fine o.f6.f3 := go.2.2.2.2.2.2
          refine⟨(o.f6.f0,o.f6.f1,o.f6.f2,o.f6.f3,true,0),ev_bind hs (hspec _ ?_),ev_bind hi (himpl _ ?_),fine6 g.1.i64 g.2.1.i64 g.2.2.1.size g.2.2.2.i64 (by omega)⟩
          · refine ev_shift ?_; simp only [spec_GetElement.j2]
            exact ev_neg (by omega) (ev_pos h2 (ev_some _))
          · refine ev_shift ?_; simp only [impl_GetElement.j1]
            exact ev_neg (by omega) (ev_pos h2 (ev_some _))
        · refine ⟨(0, 0, (⟨#[]⟩ : ByteArray), 0, false, 0), ev_bind hs (hspec _ ?_), ev_bind hi (himpl _ ?_), fine6 (by omega) (by omega) (by decide) (by omega) (by omega)⟩
          · refine ev_shift ?_; simp only [spec_GetElement.j2]
            exact ev_neg (by omega) (ev_neg h2 (ev_some _))
          · refine ev_shift ?_; simp only [impl_GetElement.j1]
            exact ev_neg (by omega) (ev_neg h2 (ev_some _))
theorem FnExactGetElement:laws_FnExactGetElement.Pure:=close core
end Go.Proofs.Ytengilknjiobiaa.Pure
