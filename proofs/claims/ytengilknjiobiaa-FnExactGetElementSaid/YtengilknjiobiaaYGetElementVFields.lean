/- What the functions on fields and elements come to. No condition. -/
import Derived.Test.YtengilknjiobiaaYGetElementVHeaps
import Derived.Test.YtengilknjiobiaaYGeP0
import Derived.Test.YtengilknjiobiaaYGeP13
import Derived.Test.YtengilknjiobiaaYGeP17
namespace Go.Proofs.Ytengilknjiobiaa.PureFnExactGetElement
open Go.RowKit Go.Proofs.YtengilknjiobiaaG Go.Proofs.Ytengilknjiobiaa.PFnExactGetElement Go.Proofs.YtengilknjiobiaaW.PrintWords Go.Proofs.YtengilknjiobiaaW.PrintLast Go.Proofs.YtengilknjiobiaaW.PrintMore
set_option linter.unusedSimpArgs false
set_option linter.unusedVariables false
def keyI (l : List S29) (x : S29) : Int := match l.findIdx? (fun y => sameV x y) with
  |some i=>(i:Int)
  |none=> -1
theorem sameV_comm (x y:S29):sameV x y=sameV y x:=by
  rw[Bool.eq_iff_iff]
  simp only[sameV,Bool.and_eq_true,beq_iff_eq]
  exact⟨fun h=>⟨h.1.symm,h.2.1.symm,h.2.2.1.symm,h.2.2.2.symm⟩,fun h=>⟨h.1.symm,h.2.1.symm,h.2.2.1.symm,h.2.2.2.symm⟩⟩
theorem keyI_of (l:List S29) (x:S29) (v:Int) (h:(v= -1∧∀i,i<l.length→sameV x (rd_T29 l (i:Int))=false)∨∃i:Nat,v=i∧i<l.length∧sameV x (rd_T29 l (i:Int))=true∧∀j,j<i→sameV x (rd_T29 l (j:Int))=false):v=keyI l x:=by
  rcases h with⟨rfl,h⟩|⟨i,rfl,hi,hp,hb⟩
  · have e:l.findIdx? (fun y=>sameV x y)=none:=by
      rw[List.findIdx?_eq_none_iff]
      intro y hy
      obtain⟨i,hi,rfl⟩:=List.getElem_of_mem hy
      have:=h i hi
      rw[rd_va l i hi]at this
      exact this
    unfold keyI;rw[e]
  · have e:l.findIdx? (fun y=>sameV x y)=some i:=by
      rw[List.findIdx?_eq_some_iff_getElem]
      refine⟨hi,by rw[rd_va l i hi]at hp;exact hp,fun j hj=>?_⟩
      have:=hb j hj
      rw[rd_va l j (by omega)]at this
      rw[this];decide
    unfold keyI;rw[e]
theorem keyI_lt (l:List S29) (x:S29): -1≤keyI l x∧keyI l x<l.length:=by
  unfold keyI
  cases e:l.findIdx? (fun y=>sameV x y)with
  |none=>simp;omega
  |some i=>
    rw[List.findIdx?_eq_some_iff_getElem]at e
    obtain⟨hi,_⟩:=e
    simp;omega
theorem spec_l09Key_ev (l:List S29) (hl:l.length≤1048576) (a b:Int) (c:ByteArray) (d:Int):Ev (fun k=>spec_l09Key.f k l a b c d) (keyI l ⟨a,b,c,d⟩):=by
  simp only[spec_l09Key.f]
  obtain⟨v,hv,hp⟩:=idx_find (g:=fun k i=>spec_l09Key.l0 k l i a b c d) l.length (fun i=>sameV (⟨a,b,c,d⟩:S29) (rd_T29 l (i:Int))) (by
    refine ev_shift ?_;simp only[spec_l09Key.l0];exact ev_neg (by omega) (ev_some _)) (by
    intro i hi hp r hr
    rw[sameV_comm]at hp
    refine ev_shift ?_;simp only[spec_l09Key.l0]
    refine ev_pos (by omega) (ev_pos (by omega) (ev_neg (fun h=>absurd (hp.symm.trans h) Bool.false_ne_true) ?_))
    rw[wrap_up (by omega) (show(i:Int)<(l.length:Int) by omega) (by omega)];exact hr) (by
    intro i hi hp
    rw[sameV_comm]at hp
    refine ev_shift ?_;simp only[spec_l09Key.l0]
    exact ev_pos (by omega) (ev_pos (by omega) (ev_pos hp (ev_some _))))
  rw[←keyI_of _ _ _ hp]
  exact hv
theorem impl_key_ev (l:List S29) (hl:l.length≤1048576) (a b:Int) (c:ByteArray) (d:Int):Ev (fun k=>impl_Value.f k l a b c d) (keyI l ⟨a,b,c,d⟩):=by
  obtain⟨v,hv,hp⟩:=impl_index_ev l hl ⟨a,b,c,d⟩
  rw[←keyI_of _ _ _ hp]
  exact hv
theorem heap_ob {n:Int} {l:List S56} (h:heapV n l=true) (i:Nat) (hi:i<l.length):obV (rd_T56 l (i:Int))=true:=by
  simp only[heapV,Bool.and_eq_true]at h
  have:=(allN_iff _ _).1 h.2.2.1 i hi
  simp only[okN,Bool.and_eq_true]at this
  exact this.1
theorem ob_len {o:S56} (h:obV o=true) (hk:o.f1=2∨o.f1=3):o.f4.length=o.f5.length:=by
  simp only[obV,objV,kindV,Bool.and_eq_true]at h
  rcases hk with hk|hk
  · rw [if_neg (by omega), if_pos hk] at h
    simp only[Bool.and_eq_true,decide_eq_true_eq]at h
    exact h.2.2.2.1
  · rw [if_neg (by omega), if_neg (by omega), if_pos hk] at h
    simp only[Bool.and_eq_true,decide_eq_true_eq]at h
    exact h.2.2.2.1
theorem fit_kind {l:List S56} {a b:Int} {c:ByteArray} {d:Int} (h:fitV l a b c d=true) (h4:4≤a) (h6:a≤6):(rd_T56 l (findI l d)).f1=a- 3:=by
  have hr:(decide (4≤a)&&decide (a≤6))=true:=by simp[h4,h6]
  unfold fitV at h
  rw[if_pos hr]at h
  simp only[Bool.and_eq_true,beq_iff_eq]at h
  rw[h.2.2]
  unfold wrap64;omega
end Go.Proofs.Ytengilknjiobiaa.PureFnExactGetElement
