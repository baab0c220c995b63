/- The heap that a collecting leaves is valid. No condition. -/
import Derived.Test.YtpdljgieaaicpaaYLiveSizeVCollect
import Derived.Test.YtpdljgieaaicpaaYLsP0
namespace Go.Proofs.Ytpdljgieaaicpaa.PureFnExactLiveSize
open Go.RowKit Go.Proofs.YtpdljgieaaicpaaG Go.Proofs.Ytpdljgieaaicpaa.PFnExactLiveSize Go.Proofs.YtpdljgieaaicpaaW.PrintWords Go.Proofs.YtpdljgieaaicpaaW.PrintLast Go.Proofs.YtpdljgieaaicpaaW.PrintMore
set_option linter.unusedSimpArgs false
set_option linter.unusedVariables false
theorem visit1_pre (xs:List Int) (v:S62):∃t,visit1 xs v=xs++t:=by
  unfold visit1
  split
  · split
    · exact⟨[],by simp⟩
    · exact⟨_,rfl⟩
  · exact⟨[],by simp⟩
theorem visitL_pre (xs:List Int) (vs:List S62):∃t,visitL xs vs=xs++t:=
  fold_inv (fun b (i:Nat)=>visit1 b (rd_T62 vs (i:Int))) (fun b _=>∃t,b=xs++t) vs.length (fun b i _ h=>by
    obtain⟨t,rfl⟩:=h
    obtain⟨u,hu⟩:=visit1_pre (xs++t) (rd_T62 vs (i:Int))
    exact⟨t++u,by rw[hu,List.append_assoc]⟩) xs ⟨[],by simp⟩
theorem visit1_in (xs:List Int) (v:S62) (h:refB v=true):v.f3∈visit1 xs v:=by
  unfold visit1
  rw[if_pos h]
  split
  · assumption
  · simp
theorem visitL_in (xs:List Int) (vs:List S62):∀v,v∈vs→refB v=true→v.f3∈visitL xs vs:=by
  have:=fold_inv (fun b (i:Nat)=>visit1 b (rd_T62 vs (i:Int))) (fun b i=>∀j:Nat,j<i→refB (rd_T62 vs (j:Int))=true→(rd_T62 vs (j:Int)).f3∈b) vs.length (fun b i _ h j hj hr=>by
    obtain⟨t,ht⟩:=visit1_pre b (rd_T62 vs (i:Int))
    by_cases e:j=i
    · subst e;exact visit1_in b _ hr
    · rw[ht];exact List.mem_append_left _ (h j (by omega) hr)) xs (fun j hj=>by omega)
  intro v hv hr
  obtain⟨j,hj,rfl⟩:=List.getElem_of_mem hv
  have h:=this j hj (by rw[rd_va vs j hj];exact hr)
  rw[rd_va vs j hj]at h
  exact h
theorem rd_app (xs t:List Int) (i:Nat) (h:i<xs.length):rd (xs++t) (i:Int)=rd xs (i:Int):=by
  rw[rd_in _ _ h,rd_in _ _ (by rw[List.length_append];omega),List.getElem_append_left h]
def clos (l:List S64) (xs:List Int) (i:Nat):Prop:=∀j:Nat,j<i→∀v,v∈contL (rd_T64 l (findI l (rd xs (j:Int))))→refB v=true→v.f3∈xs
theorem step_clos {l:List S64} {xs:List Int} {i:Nat} (hi:i<xs.length) (h:clos l xs i):clos l (stepT l xs i) (i+1):=by
  intro j hj v hv hr
  have hp:=visitL_pre xs (contL (rd_T64 l (findI l (rd xs (i:Int)))))
  obtain⟨t,ht⟩:=hp
  have es:stepT l xs i=xs++t:=ht
  rw[es,rd_app xs t j (by omega)]at hv
  by_cases e:j=i
  · subst e
    exact visitL_in xs _ v hv hr
  · rw [es]
    exact List.mem_append_left _ (h j (by omega) v hv hr)
theorem go_clos {n : Int} {l : List S64} (hv : heapV n l = true) : ∀ (d : Nat) (xs : List Int) (i : Nat), InvT l xs → l.length < i + d → clos l xs i → clos l (goT l d xs i) (goT l d xs i).length
  |0,xs,i,h,hd,hc=>fun j hj=>hc j (by have:=inv_len h;unfold goT at hj;omega)
  |d+1,xs,i,h,hd,hc=>by
    unfold goT
    split
    · rename_i hi
      exact go_clos hv d _ _ (step_inv hv h i hi) (by omega) (step_clos hi hc)
    · rename_i hi
      exact fun j hj=>hc j (by omega)
theorem trace_clos {n:Int} {l:List S64} (hv:heapV n l=true) {roots:List S62} (hf:fitL l roots=true):clos l (traceL l roots) (traceL l roots).length:=
  go_clos hv _ _ _ (visitL_inv ⟨List.nodup_nil,fun _ h=>by cases h⟩ (fitL_mem hf)) (by omega) (fun j hj=>by omega)
theorem pairs_sup {ks vs:List S62} (hlen:ks.length=vs.length):∀v,(v∈ks∨v∈vs)→v∈pairsL ks vs:=by
  have:=fold_inv (fun b (i:Nat)=>b++[rd_T62 ks (i:Int),rd_T62 vs (i:Int)]) (fun b i=>∀j:Nat,j<i→rd_T62 ks (j:Int)∈b∧rd_T62 vs (j:Int)∈b) ks.length (fun b i _ h j hj=>by
    by_cases e:j=i
    · subst e;simp
    · have := h j (by omega)
      exact⟨List.mem_append_left _ this.1,List.mem_append_left _ this.2⟩) [] (fun j hj=>by omega)
  intro v hv
  rcases hv with hv|hv
  · obtain ⟨j, hj, rfl⟩ := List.getElem_of_mem hv
    have:=(this j hj).1
    rwa [rd_va ks j hj]at this
  · obtain ⟨j, hj, rfl⟩ := List.getElem_of_mem hv
    have:=(this j (by omega)).2
    rwa [rd_va vs j hj]at this
theorem idx_in {ids:List Int} {x:Int} (h:x∈ids):∃i:Nat,idxI ids x=i∧i<ids.length∧rd ids (i:Int)=x:=by
  have h0:=idxI_mem ids x
  rw[decide_eq_true h]at h0
  have h0:=of_decide_eq_true h0
  obtain⟨_,hlt⟩:=idxI_lt ids x
  obtain⟨i,hi⟩:∃i:Nat,idxI ids x=i:=⟨(idxI ids x).toNat,by omega⟩
  refine⟨i,hi,by omega,?_⟩
  unfold idxI at hi
  cases e:ids.findIdx? (fun y=>decide (y=x))with
  |none=>rw[e]at hi;exact absurd (show(-1:Int)=(i:Int) from hi) (by omega)
  |some k=>
    rw[e]at hi
    have:k=i:=Int.ofNat.inj (show(k:Int)=(i:Int) from hi)
    subst this
    rw[List.findIdx?_eq_some_iff_getElem]at e
    obtain⟨hk,hp,_⟩:=e
    rw[rd_in ids k hk]
    exact of_decide_eq_true hp
theorem col_rd (l:List S64) (ids:List Int) (n k:Nat) (h:k<n):rd_T64 (colL l ids n) (k:Int)=colO l ids k:=by
  rw[rd_ob _ k (by rw[colL_len];exact h)]
  simp[colL]
theorem col_find (l:List S64) (ids:List Int) (n k:Nat) (h:k<n):findI (colL l ids n) ((k:Int)+1)=k:=by
  refine(findI_of _ _ _ (Or.inr ⟨k,rfl,by rw[colL_len];exact h,?_,fun j hj=>?_⟩)).symm
  · refine decide_eq_true ?_
    show idN _ _=_
    unfold idN;rw[col_rd l ids n k h];rfl
  · refine decide_eq_false ?_
    show ¬idN _ _=_
    unfold idN;rw[col_rd l ids n j (by omega)]
    show ¬((j:Int)+1=(k:Int)+1)
    omega
def goodV (l:List S64) (ids:List Int) (v:S62):Prop:=fitV l v.f0 v.f1 v.f2 v.f3=true∧(refB v=true→v.f3∈ids)
theorem move_valid {ids:List Int} (h40:ids.length≤40) {v:S62} (hv:validV v.f0 v.f1 v.f2 v.f3=true) (hm:refB v=true→v.f3∈ids):validV (moveV ids v).f0 (moveV ids v).f1 (moveV ids v).f2 (moveV ids v).f3=true:=by
  unfold moveV
  by_cases hr:refB v=true
  · rw [if_pos hr]
    obtain⟨i,hi,hl,_⟩:=idx_in (hm hr)
    simp only[refB,Bool.and_eq_true,decide_eq_true_eq]at hr
    dsimp only
    unfold validV at hv ⊢
    rw[if_neg (by omega),if_neg (by omega),if_neg (by omega),if_pos (by omega)]at hv ⊢
    simp only[Bool.and_eq_true,decide_eq_true_eq]at hv ⊢
    exact⟨hv.1,hv.2.1,by omega,by omega⟩
  · rw[if_neg hr];exact hv
theorem fit_valid {l:List S64} {a b:Int} {c:ByteArray} {d:Int} (h:fitV l a b c d=true):validV a b c d=true:=by
  unfold fitV at h
  rw[Bool.and_eq_true]at h;exact h.1
theorem move_fit {l:List S64} {ids:List Int} (h40:ids.length≤40) {v:S62} (h:goodV l ids v):fitV (colL l ids ids.length) (moveV ids v).f0 (moveV ids v).f1 (moveV ids v).f2 (moveV ids v).f3=true:=by
  have hv:=move_valid h40 (fit_valid h.1) h.2
  obtain⟨h1,h2⟩:=h
  unfold fitV
  rw[hv,Bool.true_and]
  by_cases hr:refB v=true
  · obtain ⟨i, hi, hl, hx⟩ := idx_in (h2 hr)
    have e:moveV ids v=⟨v.f0,v.f1,v.f2,idxI ids v.f3+1⟩:=by unfold moveV;rw[if_pos hr]
    rw[e]
    unfold fitV at h1
    have hr':(decide (4≤v.f0)&&decide (v.f0≤6))=true:=hr
    rw[if_pos hr']at h1
    dsimp only
    rw[if_pos hr',hi,col_find l ids _ i hl,col_rd l ids _ i hl]
    simp only[Bool.and_eq_true]at h1 ⊢
    refine⟨decide_eq_true (by omega),?_⟩
    unfold colO
    rw[hx]
    exact h1.2.2
  · have e : moveV ids v = v := by unfold moveV; rw [if_neg hr]
    rw[e]
    exact if_neg hr
theorem move_same {ids:List Int} {x y:S62} (hx:refB x=true→x.f3∈ids) (hy:refB y=true→y.f3∈ids) (h:sameV (moveV ids x) (moveV ids y)=true):sameV x y=true:=by
  have e0:∀z:S62,(moveV ids z).f0=z.f0∧(moveV ids z).f1=z.f1∧(moveV ids z).f2=z.f2:=by
    intro z;unfold moveV;split<;>exact⟨rfl,rfl,rfl⟩
  unfold sameV at h ⊢
  simp only[(e0 x).1,(e0 x).2.1,(e0 x).2.2,(e0 y).1,(e0 y).2.1,(e0 y).2.2,Bool.and_eq_true,beq_iff_eq]at h ⊢
  refine⟨h.1,h.2.1,h.2.2.1,?_⟩
  have h3:=h.2.2.2
  have hb:refB x=refB y:=by unfold refB;rw[h.1]
  unfold moveV at h3
  by_cases hr:refB x=true
  · rw [if_pos hr, if_pos (hb ▸ hr)] at h3
    obtain⟨i,hi,_,ex⟩:=idx_in (hx hr)
    obtain⟨j,hj,_,ey⟩:=idx_in (hy (hb▸hr))
    dsimp only at h3
    have:i=j:=by omega
    subst this
    rw[←ex,ey]
  · rw [if_neg hr, if_neg (hb ▸ hr)] at h3
    exact h3
theorem map_rd (ids:List Int) (xs:List S62) (i:Nat) (h:i<xs.length):rd_T62 (xs.map (moveV ids)) (i:Int)=moveV ids (rd_T62 xs (i:Int)):=by
  rw[rd_va _ i (by rw[List.length_map];exact h),rd_va _ i h,List.getElem_map]
theorem rd_mem (xs:List S62) (i:Nat) (h:i<xs.length):rd_T62 xs (i:Int)∈xs:=by
  rw[rd_va _ i h];exact List.getElem_mem h
theorem all_move {l:List S64} {ids:List Int} (h40:ids.length≤40) {xs:List S62} (h:∀v,v∈xs→goodV l ids v):allV (xs.map (moveV ids))=true:=by
  unfold allV
  rw[allN_iff,List.length_map]
  intro i hi
  rw[map_rd ids xs i hi]
  have:=h _ (rd_mem xs i hi)
  exact move_valid h40 (fit_valid this.1) this.2
theorem dif_move {l:List S64} {ids:List Int} {xs:List S62} (h:∀v,v∈xs→goodV l ids v) (hd:difV xs=true):difV (xs.map (moveV ids))=true:=by
  unfold difV at hd ⊢
  rw[allN_iff]at hd ⊢
  rw[List.length_map]
  intro i hi
  have hd:=hd i hi
  rw[allN_iff]at hd ⊢
  intro j hj
  have hd:=hd j hj
  rw[map_rd ids xs i hi,map_rd ids xs j (by omega)]
  cases e:sameV (moveV ids (rd_T62 xs (i:Int))) (moveV ids (rd_T62 xs (j:Int)))with
  |false=>rfl
  |true=>
    rw[move_same (h _ (rd_mem xs i hi)).2 (h _ (rd_mem xs j (by omega))).2 e]at hd
    exact hd
theorem map_same {ids:List Int} {xs:List S62} (h:∀v,v∈xs→refB v=false):xs.map (moveV ids)=xs:=by
  conv=>rhs;rw[←List.map_id xs]
  refine List.map_congr_left (fun v hv=>?_)
  unfold moveV
  rw[if_neg (by rw[h v hv];decide)];rfl
theorem fields_ref {xs:List S62} (h:fieldsV xs=true):∀v,v∈xs→refB v=false:=by
  intro v hv
  obtain⟨j,hj,rfl⟩:=List.getElem_of_mem hv
  simp only[fieldsV,Bool.and_eq_true]at h
  have:=(allN_iff _ _).1 h.2.2.1 j hj
  rw[rd_va xs j hj]at this
  simp only[fieldV,nameV,Bool.and_eq_true,decide_eq_true_eq]at this
  unfold refB
  rw[decide_eq_false (by omega)];rfl
theorem zero_ref {ids:List Int} {v:S62} (h:zeroB v.f0 v.f1 v.f2 v.f3=true):moveV ids v=v:=by
  simp only[zeroB,Bool.and_eq_true,beq_iff_eq]at h
  unfold moveV
  rw[if_neg]
  unfold refB
  rw[decide_eq_false (by omega)];simp
theorem fitL_all {l:List S64} {xs:List S62}:fitL l xs=true↔ ∀v,v∈xs→fitV l v.f0 v.f1 v.f2 v.f3=true:=by
  unfold fitL;rw[List.all_eq_true]
theorem fitL_move {l:List S64} {ids:List Int} (h40:ids.length≤40) {xs:List S62} (h:∀v,v∈xs→goodV l ids v):fitL (colL l ids ids.length) (xs.map (moveV ids))=true:=by
  rw[fitL_all]
  intro v hv
  obtain⟨x,hx,rfl⟩:=List.mem_map.1 hv
  exact move_fit h40 (h x hx)
theorem ob_val {n:Int} {l:List S64} (h:heapV n l=true) (i:Nat) (hi:i<l.length):obV (rd_T64 l (i:Int))=true:=by
  simp only[heapV,Bool.and_eq_true]at h
  have:=(allN_iff _ _).1 h.2.2.1 i hi
  simp only[okN,Bool.and_eq_true]at this
  exact this.1
theorem col_ob {n:Int} {l:List S64} (hv:heapV n l=true) {ids:List Int} (h40:ids.length≤40) (hI:InvT l ids) (hc:clos l ids ids.length) (k:Nat) (hk:k<ids.length):obV (colO l ids k)=true∧refsV (colL l ids ids.length) (colO l ids k)=true:=by
  obtain⟨j,hj,hjl⟩:=found hI k hk
  have h1:=ob_val hv j hjl
  have h2:=ob_refs hv j hjl
  have h3:=hc k hk
  have eo:colO l ids k=(⟨(k:Int)+1,(rd_T64 l (j:Int)).f1,(rd_T64 l (j:Int)).f2,(rd_T64 l (j:Int)).f3,(rd_T64 l (j:Int)).f4.map (moveV ids),(rd_T64 l (j:Int)).f5.map (moveV ids),moveV ids (rd_T64 l (j:Int)).f6⟩:S64):=by
    unfold colO;rw[hj]
  rw[eo]
  rw[hj]at h3
  obtain⟨o,ho⟩:∃o,rd_T64 l (j:Int)=o:=⟨_,rfl⟩
  rw[ho]at h1 h2 h3 ⊢
  simp only[refsV,Bool.and_eq_true]at h2
  have f4:=fitL_all.1 h2.1
  have f5:=fitL_all.1 h2.2.1
  simp only[obV,objV,refsV,Bool.and_eq_true]at h1 ⊢
  obtain⟨⟨⟨_,_⟩,g5,_⟩,g6⟩:=h1
  have hkk:1≤(k:Int)+1∧(k:Int)+1≤1000000:=by omega
  have g5':((o.f5.map (moveV ids)).length≤30):=by rw[List.length_map];exact of_decide_eq_true g5
  unfold kindV at g6 ⊢
  by_cases k1:o.f1=1
  · rw [if_pos k1] at g6 ⊢
    simp only[Bool.and_eq_true]at g6 ⊢
    have e4:o.f4=[]:=List.eq_nil_of_length_eq_zero (of_decide_eq_true g6.2.2.1)
    have good5:∀v,v∈o.f5→goodV l ids v:=fun v hv=>⟨f5 v hv,h3 v (by unfold contL;rw[if_neg (by omega)];exact hv)⟩
    have e6:=zero_ref (ids:=ids) g6.2.2.2
    rw[e4,e6]
    refine⟨⟨⟨⟨decide_eq_true hkk.1,decide_eq_true hkk.2⟩,decide_eq_true g5',all_move h40 good5⟩,g6.1,g6.2.1,rfl,g6.2.2.2⟩,rfl,fitL_move h40 good5,?_⟩
    rw[if_neg (by omega)]
  · rw [if_neg k1] at g6 ⊢
    by_cases k2:o.f1=2
    · rw [if_pos k2] at g6 ⊢
      simp only[Bool.and_eq_true]at g6 ⊢
      have hlen:=of_decide_eq_true g6.2.2.1
      have f6:=h2.2.2
      rw[if_pos k2]at f6
      have ec:contL o=pairsL o.f4 o.f5++[o.f6]:=by unfold contL;rw[if_pos k2]
      rw[ec]at h3
      have good4:∀v,v∈o.f4→goodV l ids v:=fun v hv=>⟨f4 v hv,h3 v (List.mem_append_left _ (pairs_sup hlen v (.inl hv)))⟩
      have good5:∀v,v∈o.f5→goodV l ids v:=fun v hv=>⟨f5 v hv,h3 v (List.mem_append_left _ (pairs_sup hlen v (.inr hv)))⟩
      have good6:goodV l ids o.f6:=⟨f6,h3 _ (List.mem_append_right _ (List.mem_singleton.2 rfl))⟩
      refine⟨⟨⟨⟨decide_eq_true hkk.1,decide_eq_true hkk.2⟩,decide_eq_true g5',all_move h40 good5⟩,g6.1,g6.2.1,decide_eq_true (by simpa using hlen),all_move h40 good4,dif_move good4 g6.2.2.2.2.1,move_valid h40 (fit_valid f6) good6.2⟩,fitL_move h40 good4,fitL_move h40 good5,?_⟩
      rw[if_pos k2]
      exact move_fit h40 good6
    · rw [if_neg k2] at g6 ⊢
      by_cases k3:o.f1=3
      · rw [if_pos k3] at g6 ⊢
        simp only[Bool.and_eq_true]at g6 ⊢
        have e4:=map_same (ids:=ids) (fields_ref g6.2.2.2.1)
        have good4:∀v,v∈o.f4→goodV l ids v:=fun v hv=>⟨f4 v hv,fun h=>by rw[fields_ref g6.2.2.2.1 v hv]at h;cases h⟩
        have good5:∀v,v∈o.f5→goodV l ids v:=fun v hv=>⟨f5 v hv,h3 v (by unfold contL;rw[if_neg k2];exact hv)⟩
        have e6:=zero_ref (ids:=ids) g6.2.2.2.2
        refine⟨⟨⟨⟨decide_eq_true hkk.1,decide_eq_true hkk.2⟩,decide_eq_true g5',all_move h40 good5⟩,g6.1,g6.2.1,decide_eq_true (by simpa using of_decide_eq_true g6.2.2.1),by rw[e4];exact g6.2.2.2.1,by rw[e6];exact g6.2.2.2.2⟩,fitL_move h40 good4,fitL_move h40 good5,?_⟩
        rw[if_neg k2]
      · rw[if_neg k3]at g6;cases g6
theorem col_valid {n:Int} {l:List S64} (hv:heapV n l=true) {roots:List S62} (hf:fitL l roots=true):heapV ((traceL l roots).length:Int) (colL l (traceL l roots) (traceL l roots).length)=true:=by
  have hI:=trace_inv hv hf
  have hc:=trace_clos hv hf
  have hil:=inv_len hI
  have h40:=forty hv
  obtain⟨ids,hids⟩:∃ids,traceL l roots=ids:=⟨_,rfl⟩
  rw[hids]at hI hc hil ⊢
  have hl:=colL_len l ids ids.length
  simp only[heapV,Bool.and_eq_true,allN_iff,hl]
  refine⟨⟨decide_eq_true (by omega),decide_eq_true (by omega)⟩,decide_eq_true (by omega),fun i hi=>?_,fun i hi=>?_⟩
  · unfold okN nextV idN
    rw[col_rd l ids _ i hi,(col_ob hv (by omega) hI hc i hi).1,Bool.true_and,Bool.and_eq_true]
    refine⟨decide_eq_true (show(i:Int)+1≤_ by omega),?_⟩
    by_cases e:i=0
    · rw[decide_eq_true e];rfl
    · rw [col_rd l ids _ (i - 1) (by omega)]
      rw[Bool.or_eq_true];right
      exact decide_eq_true (show((i- 1:Nat):Int)+1<(i:Int)+1 by omega)
  · unfold refN
    rw[col_rd l ids _ i hi]
    exact(col_ob hv (by omega) hI hc i hi).2
end Go.Proofs.Ytpdljgieaaicpaa.PureFnExactLiveSize
