/- What the tracing of a heap comes to: both functions visit the same objects in the same order. No condition. -/
import Derived.Test.YtpdljgieaaicpaaYGarbageVHeaps
import Derived.Test.YtpdljgieaaicpaaYGbP0
import Derived.Test.YtpdljgieaaicpaaYGbP13
import Derived.Test.YtpdljgieaaicpaaYGbP14
import Derived.Test.YtpdljgieaaicpaaYGbP24
namespace Go.Proofs.Ytpdljgieaaicpaa.PureFnExactGarbage
open Go.RowKit Go.Proofs.YtpdljgieaaicpaaG Go.Proofs.Ytpdljgieaaicpaa.PFnExactGarbage Go.Proofs.YtpdljgieaaicpaaW.PrintWords Go.Proofs.YtpdljgieaaicpaaW.PrintLast Go.Proofs.YtpdljgieaaicpaaW.PrintMore
set_option linter.unusedSimpArgs false
set_option linter.unusedVariables false
theorem idx_foldI {β : Type} {g : Nat → β → Int → Option β} (n : Nat) (f : β → Nat → β) (I : β → Nat → Prop) (hI : ∀ b i, i < n → I b i → I (f b i) (i + 1)) (h0 : ∀ b, I b n → Ev (fun k => g k b (n : Int)) b)
    (h1:∀b i,i<n→I b i→∀r,Ev (fun k=>g k (f b i) ((i:Int)+1)) r→Ev (fun k=>g k b (i:Int)) r) (b:β) (hb:I b 0):Ev (fun k=>g k b 0) ((List.range' 0 n).foldl f b):=by
  suffices h:∀d i:Nat,i+d=n→∀b,I b i→Ev (fun k=>g k b (i:Int)) ((List.range' i d).foldl f b) from h n 0 (Nat.zero_add _) b hb
  intro d
  induction d with
  |zero=>
    intro i hi b hb
    have e:i=n:=by omega
    subst e
    exact h0 b hb
  |succ d ih=>
    intro i hi b hb
    rw[List.range'_succ,List.foldl_cons]
    exact h1 b i (by omega) hb _ (by simpa using ih (i+1) (by omega) (f b i) (hI b i (by omega) hb))
theorem fold_inv {β:Type} (f:β→Nat→β) (I:β→Nat→Prop) (n:Nat) (hI:∀b i,i<n→I b i→I (f b i) (i+1)) (b:β) (hb:I b 0):I ((List.range' 0 n).foldl f b) n:=by
  suffices h:∀d i:Nat,i+d=n→∀b,I b i→I ((List.range' i d).foldl f b) n from h n 0 (Nat.zero_add _) b hb
  intro d
  induction d with
  |zero=>
    intro i hi b hb
    have e:i=n:=by omega
    subst e
    exact hb
  |succ d ih=>
    intro i hi b hb
    rw[List.range'_succ,List.foldl_cons]
    exact ih (i+1) (by omega) (f b i) (hI b i (by omega) hb)
theorem rd_in (xs:List Int) (i:Nat) (h:i<xs.length):rd xs (i:Int)=xs[i]:=by
  unfold rd
  rw[Int.toNat_natCast,List.getD_eq_getElem?_getD,List.getElem?_eq_getElem h];rfl
def idxI (xs : List Int) (x : Int) : Int := match xs.findIdx? (fun y => decide (y = x)) with
  |some i=>(i:Int)
  |none=> -1
theorem idxI_of (l:List Int) (x:Int) (v:Int) (h:(v= -1∧∀i,i<l.length→decide (rd l (i:Int)=x)=false)∨∃i:Nat,v=i∧i<l.length∧decide (rd l (i:Int)=x)=true∧∀j,j<i→decide (rd l (j:Int)=x)=false):v=idxI l x:=by
  rcases h with⟨rfl,h⟩|⟨i,rfl,hi,hp,hb⟩
  · have e:l.findIdx? (fun y=>decide (y=x))=none:=by
      rw[List.findIdx?_eq_none_iff]
      intro y hy
      obtain⟨i,hi,rfl⟩:=List.getElem_of_mem hy
      have:=h i hi
      rw[rd_in l i hi]at this
      exact this
    unfold idxI;rw[e]
  · have e:l.findIdx? (fun y=>decide (y=x))=some i:=by
      rw[List.findIdx?_eq_some_iff_getElem]
      refine⟨hi,by rw[rd_in l i hi]at hp;exact hp,fun j hj=>?_⟩
      have:=hb j hj
      rw[rd_in l j (by omega)]at this
      rw[this];decide
    unfold idxI;rw[e]
theorem idxI_lt (l:List Int) (x:Int): -1≤idxI l x∧idxI l x<l.length:=by
  unfold idxI
  cases e:l.findIdx? (fun y=>decide (y=x))with
  |none=>simp;omega
  |some i=>
    rw[List.findIdx?_eq_some_iff_getElem]at e
    obtain⟨hi,_⟩:=e
    simp;omega
theorem idxI_mem (l:List Int) (x:Int):decide (idxI l x≥0)=decide (x∈l):=by
  unfold idxI
  cases e:l.findIdx? (fun y=>decide (y=x))with
  |none=>
    rw[List.findIdx?_eq_none_iff]at e
    have:x∉l:=fun h=>by have:=e x h;simp at this
    simp[this]
  |some i=>
    rw[List.findIdx?_eq_some_iff_getElem]at e
    obtain⟨hi,hp,_⟩:=e
    have hx:l[i]=x:=of_decide_eq_true hp
    have hm:x∈l:=hx▸List.getElem_mem hi
    rw[decide_eq_true hm]
    exact decide_eq_true (show(i:Int)≥0 by omega)
theorem index_int_ev (l:List Int) (hl:l.length≤1048576) (x:Int):Ev (fun k=>slices_Index_int64_int64.f k l x) (idxI l x):=by
  simp only[slices_Index_int64_int64.f]
  obtain⟨v,hv,hp⟩:=idx_find (g:=fun k i=>slices_Index_int64_int64.l0 k l x (l.length:Int) i) l.length (fun i=>decide (rd l (i:Int)=x)) (by
    refine ev_shift ?_;simp only[slices_Index_int64_int64.l0];exact ev_neg (by omega) (ev_some _)) (by
    intro i hi hp r hr
    refine ev_shift ?_;simp only[slices_Index_int64_int64.l0]
    refine ev_pos (by omega) (ev_pos (by omega) (ev_pos (by omega) (ev_neg (fun h=>of_decide_eq_false hp h.symm) ?_)))
    rw[wrap_up (by omega) (show(i:Int)<(l.length:Int) by omega) (by omega)];exact hr) (by
    intro i hi hp
    refine ev_shift ?_;simp only[slices_Index_int64_int64.l0]
    exact ev_pos (by omega) (ev_pos (by omega) (ev_pos (by omega) (ev_pos (of_decide_eq_true hp).symm (ev_some _)))))
  rw[←idxI_of _ _ _ hp]
  exact hv
theorem contains_int_ev (l:List Int) (hl:l.length≤1048576) (x:Int):Ev (fun k=>slices_Contains_int64_int64.f k l x) (decide (x∈l)):=by
  simp only[slices_Contains_int64_int64.f]
  refine ev_bind (index_int_ev l hl x) ?_
  rw[idxI_mem]
  exact ev_some _
theorem has_ev (l:List Int) (hl:l.length≤1048576) (x:Int):Ev (fun k=>spec_l00Has.f k l x) (decide (x∈l)):=by
  simp only[spec_l00Has.f]
  suffices h:∀d i:Nat,i+d=l.length→Ev (fun k=>spec_l00Has.l0 k l x (i:Int)) (decide (x∈l.drop i)) by
    have:=h l.length 0 (by omega)
    simpa using this
  intro d
  induction d with
  |zero=>
    intro i hi
    have e:l.drop i=[]:=List.drop_eq_nil_of_le (by omega)
    rw[e]
    refine ev_shift ?_;simp only[spec_l00Has.l0]
    exact ev_neg (by omega) (by simpa using ev_some false)
  |succ d ih=>
    intro i hi
    have e:l.drop i=l[i]::l.drop (i+1):=List.drop_eq_getElem_cons (by omega)
    rw[e]
    refine ev_shift ?_;simp only[spec_l00Has.l0]
    refine ev_pos (by omega) (ev_pos (by omega) ?_)
    rw[rd_in l i (by omega)]
    by_cases hx:l[i]=x
    · refine ev_pos hx ?_
      rw[decide_eq_true (by rw[hx];exact List.mem_cons_self ..)]
      exact ev_some _
    · refine ev_neg hx ?_
      have e2:decide (x∈l[i]::l.drop (i+1))=decide (x∈l.drop (i+1)):=by
        rw[decide_eq_decide,List.mem_cons]
        exact⟨fun h=>h.elim (fun h=>absurd h.symm hx) id,.inr⟩
      rw[e2,wrap_up (by omega) (show(i:Int)<(l.length:Int) by omega) (by omega)]
      exact ih (i+1) (by omega)
def refB (v:S62):Bool:=decide (4≤v.f0)&&decide (v.f0≤6)
def visit1 (xs:List Int) (v:S62):List Int:=if refB v=true then(if v.f3∈xs then xs else xs++[v.f3])else xs
def visitL (xs:List Int) (l:List S62):List Int:=(List.range' 0 l.length).foldl (fun b (i:Nat)=>visit1 b (rd_T62 l (i:Int))) xs
theorem visit1_len (xs:List Int) (v:S62):(visit1 xs v).length≤xs.length+1:=by
  unfold visit1
  split
  · split
    · omega
    · simp
  · omega
theorem visit_s_ev (xs:List Int) (l:List S62) (hl:xs.length+l.length≤1048576):Ev (fun k=>spec_l08Visit.f k xs l) (visitL xs l):=by
  simp only[spec_l08Visit.f]
  refine idx_foldI (g:=fun k b i=>spec_l08Visit.l0 k b l i) l.length _ (fun b i=>b.length+(l.length-i)≤1048576) ?_ ?_ ?_ xs (by simpa using hl)
  · intro b i hi hb
    have:=visit1_len b (rd_T62 l (i:Int))
    omega
  · intro b hb
    refine ev_shift ?_;simp only[spec_l08Visit.l0]
    exact ev_neg (by omega) (ev_some _)
  · intro b i hi hb r hr
    refine ev_shift ?_;simp only[spec_l08Visit.l0]
    rw[wrap_up (by omega) (show(i:Int)<(l.length:Int) by omega) (by omega)]
    refine ev_pos (by omega) (ev_pos (by omega) (ev_bindc (spec_isRef_eq _ _ _ _) ?_))
    by_cases h:refB (rd_T62 l (i:Int))=true
    · refine ev_pos h (ev_bind (has_ev b (by omega) _) ?_)
      by_cases hm:(rd_T62 l (i:Int)).f3∈b
      · refine ev_pos (decide_eq_true hm) ?_
        simpa only[visit1,if_pos h,if_pos hm]using hr
      · refine ev_neg (fun h2 => hm (of_decide_eq_true h2)) (ev_pos (by omega) ?_)
        simpa only[visit1,if_pos h,if_neg hm]using hr
    · refine ev_neg h ?_
      simpa only[visit1,if_neg h]using hr
theorem visit_i_ev (xs:List Int) (l:List S62) (hl:xs.length+l.length≤1048576):Ev (fun k=>impl_Heap_reachable.v0 k xs l 0) (visitL xs l):=by
  refine idx_foldI (g:=fun k b i=>impl_Heap_reachable.v0 k b l i) l.length _ (fun b i=>b.length+(l.length-i)≤1048576) ?_ ?_ ?_ xs (by simpa using hl)
  · intro b i hi hb
    have:=visit1_len b (rd_T62 l (i:Int))
    omega
  · intro b hb
    refine ev_shift ?_;simp only[impl_Heap_reachable.v0]
    exact ev_neg (by omega) (ev_some _)
  · intro b i hi hb r hr
    refine ev_shift ?_;simp only[impl_Heap_reachable.v0]
    rw[wrap_up (by omega) (show(i:Int)<(l.length:Int) by omega) (by omega)]
    refine ev_pos (by omega) (ev_pos (by omega) (ev_bindc (impl_refers_eq _) ?_))
    by_cases h:refB (rd_T62 l (i:Int))=true
    · refine ev_pos h (ev_bind (contains_int_ev b (by omega) _) ?_)
      by_cases hm:(rd_T62 l (i:Int)).f3∈b
      · refine ev_pos (decide_eq_true hm) ?_
        simpa only[visit1,if_pos h,if_pos hm]using hr
      · refine ev_neg (fun h2 => hm (of_decide_eq_true h2)) (ev_pos (by omega) ?_)
        simpa only[visit1,if_pos h,if_neg hm]using hr
    · refine ev_neg h ?_
      simpa only[visit1,if_neg h]using hr
def pairsL (ks vs:List S62):List S62:=(List.range' 0 ks.length).foldl (fun b (i:Nat)=>b++[rd_T62 ks (i:Int),rd_T62 vs (i:Int)]) []
def contL (o:S64):List S62:=if o.f1=2 then pairsL o.f4 o.f5++[o.f6]else o.f5
theorem pairs_len (ks vs:List S62):(pairsL ks vs).length=2*ks.length:=
  fold_inv (fun b (i:Nat)=>b++[rd_T62 ks (i:Int),rd_T62 vs (i:Int)]) (fun b i=>b.length=2*i) ks.length (fun b i _ h=>by simp[h];omega) [] rfl
theorem cont_ev (c0 : Nat → List S62 → List S62 → List S62 → Int → Option (List S62))
    (hc:∀k acc ks vs i,c0 (k+1) acc ks vs i=if i<(ks.length:Int)then(if 0≤i then(if i<(vs.length:Int)then(if acc.length+2<3518437208883 then c0 k (acc++[rd_T62 ks i,rd_T62 vs i]) ks vs (wrap64 (i+1))else none)else none)else none)else some acc)
    (o:S64) (h4:o.f4.length≤1048576) (hlen:o.f1=2→o.f4.length=o.f5.length):
    Ev (fun k=>if 0<(([o]:List S64).length:Int)then(if(rd_T64 [o] 0).f1=2 then((c0 k [] (rd_T64 [o] 0).f4 (rd_T64 [o] 0).f5 0).bind fun acc=>if acc.length+1<3518437208883 then some (acc++[(rd_T64 [o] 0).f6])else none)else some (rd_T64 [o] 0).f5)else none) (contL o):=by
  refine ev_pos (one_lt o) ?_
  simp only[rd_one,contL]
  by_cases h:o.f1=2
  · have hp:Ev (fun k=>c0 k [] o.f4 o.f5 0) (pairsL o.f4 o.f5):=by
      refine idx_foldI (g:=fun k b i=>c0 k b o.f4 o.f5 i) o.f4.length _ (fun b i=>b.length=2*i) ?_ ?_ ?_ [] rfl
      · intro b i hi hb
        simp[hb];omega
      · intro b hb
        refine ev_shift ?_;simp only[hc]
        exact ev_neg (by omega) (ev_some _)
      · intro b i hi hb r hr
        have:=hlen h
        refine ev_shift ?_;simp only[hc]
        rw[wrap_up (by omega) (show(i:Int)<(o.f4.length:Int) by omega) (by omega)]
        exact ev_pos (by omega) (ev_pos (by omega) (ev_pos (by omega) (ev_pos (by omega) hr)))
    have hpl:=pairs_len o.f4 o.f5
    rw[if_pos h]
    exact ev_pos h (ev_bind hp (ev_pos (by omega) (ev_some _)))
  · rw [if_neg h]
    exact ev_neg h (ev_some _)
theorem cont_s_ev (o:S64) (h4:o.f4.length≤1048576) (hlen:o.f1=2→o.f4.length=o.f5.length):Ev (fun k=>spec_l08Trace.cf k [o]) (contL o):=by
  simp only[spec_l08Trace.cf]
  exact cont_ev spec_l08Trace.c0 (fun _ _ _ _ _=>rfl) o h4 hlen
theorem cont_i_ev (o:S64) (h4:o.f4.length≤1048576) (hlen:o.f1=2→o.f4.length=o.f5.length):Ev (fun k=>impl_Heap_reachable.cf k [o]) (contL o):=by
  simp only[impl_Heap_reachable.cf]
  exact cont_ev impl_Heap_reachable.c0 (fun _ _ _ _ _=>rfl) o h4 hlen
def InvT (l:List S64) (xs:List Int):Prop:=xs.Nodup∧∀id,id∈xs→0≤findI l id
theorem nodup_le : ∀ (xs ys : List Int), xs.Nodup → (∀ x, x ∈ xs → x ∈ ys) → xs.length ≤ ys.length
  |[],_,_,_=>Nat.zero_le _
  |x::xs,ys,hn,hs=>by
    have hx:=hs x (List.mem_cons_self ..)
    have hn':=List.nodup_cons.1 hn
    have h:=nodup_le xs (ys.erase x) hn'.2 (fun y hy=>(List.mem_erase_of_ne (fun e=>hn'.1 (by rw[←e];exact hy))).2 (hs y (List.mem_cons_of_mem _ hy)))
    rw[List.length_erase_of_mem hx]at h
    have:=List.length_pos_of_mem hx
    rw[List.length_cons];omega
theorem inv_len {l:List S64} {xs:List Int} (h:InvT l xs):xs.length≤l.length:=by
  have:=nodup_le xs (l.map (fun o=>o.f0)) h.1 (fun x hx=>by
    have h0:=h.2 x hx
    have hlt:=findI_lt l x
    have hid:=findI_id l x h0
    obtain⟨i,hi⟩:∃i:Nat,findI l x=i:=⟨(findI l x).toNat,by omega⟩
    rw[hi]at hid hlt
    have hil:i<l.length:=by omega
    rw[rd_ob l i hil]at hid
    exact List.mem_map.2 ⟨l[i],List.getElem_mem hil,hid⟩)
  simpa using this
theorem visit1_inv {l:List S64} {xs:List Int} {v:S62} (h:InvT l xs) (hv:refB v=true→0≤findI l v.f3):InvT l (visit1 xs v):=by
  unfold visit1
  split
  · rename_i hr
    split
    · exact h
    · rename_i hm
      refine⟨List.nodup_append.2 ⟨h.1,by simp,fun a ha b hb=>?_⟩,fun id hid=>?_⟩
      · rw [List.mem_singleton] at hb
        rintro rfl
        exact hm (hb▸ha)
      · rcases List.mem_append.1 hid with hid | hid
        · exact h.2 id hid
        · rw [List.mem_singleton] at hid
          rw[hid];exact hv hr
  · exact h
theorem visitL_inv {l:List S64} {xs:List Int} {vs:List S62} (h:InvT l xs) (hv:∀v,v∈vs→refB v=true→0≤findI l v.f3):InvT l (visitL xs vs):=
  fold_inv (fun b (i:Nat)=>visit1 b (rd_T62 vs (i:Int))) (fun b _=>InvT l b) vs.length (fun b i hi hb=>visit1_inv hb (hv _ (by rw[rd_va vs i hi];exact List.getElem_mem hi))) xs h
theorem pairs_mem {ks vs:List S62} (hlen:ks.length=vs.length):∀v,v∈pairsL ks vs→v∈ks∨v∈vs:=
  fold_inv (fun b (i:Nat)=>b++[rd_T62 ks (i:Int),rd_T62 vs (i:Int)]) (fun b _=>∀v,v∈b→v∈ks∨v∈vs) ks.length (fun b i hi h v hv=>by
    rcases List.mem_append.1 hv with hv|hv
    · exact h v hv
    · rw [rd_va ks i hi, rd_va vs i (by omega)] at hv
      simp only[List.mem_cons,List.not_mem_nil,or_false]at hv
      rcases hv with rfl|rfl
      · exact .inl (List.getElem_mem hi)
      · exact .inr (List.getElem_mem (by omega))) [] (fun v hv=>by cases hv)
theorem fitL_mem {l:List S64} {xs:List S62} (h:fitL l xs=true) (v:S62) (hv:v∈xs) (hr:refB v=true):0≤findI l v.f3:=by
  unfold fitL at h
  rw[List.all_eq_true]at h
  exact fit_find (h v hv) hr
theorem ob_refs {n:Int} {l:List S64} (h:heapV n l=true) (i:Nat) (hi:i<l.length):refsV l (rd_T64 l (i:Int))=true:=by
  simp only[heapV,Bool.and_eq_true]at h
  exact(allN_iff _ _).1 h.2.2.2 i hi
theorem ob_lens {n:Int} {l:List S64} (h:heapV n l=true) (i:Nat) (hi:i<l.length):(rd_T64 l (i:Int)).f1=2→(rd_T64 l (i:Int)).f4.length=(rd_T64 l (i:Int)).f5.length:=by
  simp only[heapV,Bool.and_eq_true]at h
  have:=(allN_iff _ _).1 h.2.2.1 i hi
  simp only[okN,Bool.and_eq_true]at this
  have h1:=this.1
  intro hk
  simp only[obV,objV,kindV,Bool.and_eq_true]at h1
  rw[if_neg (by omega),if_pos hk]at h1
  simp only[Bool.and_eq_true,decide_eq_true_eq]at h1
  exact h1.2.2.2.1
theorem ob_small {n:Int} {l:List S64} (h:heapV n l=true) (i:Nat) (hi:i<l.length):(rd_T64 l (i:Int)).f5.length≤30:=by
  simp only[heapV,Bool.and_eq_true]at h
  have:=(allN_iff _ _).1 h.2.2.1 i hi
  simp only[okN,obV,objV,Bool.and_eq_true,decide_eq_true_eq]at this
  exact this.1.1.2.1
theorem cont_len {n:Int} {l:List S64} (h:heapV n l=true) (i:Nat) (hi:i<l.length):(contL (rd_T64 l (i:Int))).length≤61:=by
  have h1:=ob_small h i hi
  have h2:=ob_lens h i hi
  unfold contL
  split
  · rename_i hk
    have:=h2 hk
    rw[List.length_append,pairs_len,List.length_singleton];omega
  · omega
theorem cont_fit {n:Int} {l:List S64} (h:heapV n l=true) (i:Nat) (hi:i<l.length):∀v,v∈contL (rd_T64 l (i:Int))→refB v=true→0≤findI l v.f3:=by
  have h1:=ob_refs h i hi
  have h2:=ob_lens h i hi
  simp only[refsV,Bool.and_eq_true]at h1
  intro v hv hr
  unfold contL at hv
  split at hv
  · rename_i hk
    rcases List.mem_append.1 hv with hv|hv
    · rcases pairs_mem (h2 hk) v hv with hv | hv
      · exact fitL_mem h1.1 v hv hr
      · exact fitL_mem h1.2.1 v hv hr
    · rw [List.mem_singleton] at hv
      have h3:=h1.2.2
      rw[if_pos hk]at h3
      rw[hv]at hr ⊢
      exact fit_find h3 hr
  · exact fitL_mem h1.2.1 v hv hr
def stepT (l:List S64) (xs:List Int) (i:Nat):List Int:=visitL xs (contL (rd_T64 l (findI l (rd xs (i:Int)))))
def goT (l : List S64) : Nat → List Int → Nat → List Int
  |0,xs,_=>xs
  |n+1,xs,i=>if i<xs.length then goT l n (stepT l xs i) (i+1)else xs
theorem found {l:List S64} {xs:List Int} (h:InvT l xs) (i:Nat) (hi:i<xs.length):∃j:Nat,findI l (rd xs (i:Int))=j∧j<l.length:=by
  have h0:=h.2 (rd xs (i:Int)) (by rw[rd_in xs i hi];exact List.getElem_mem hi)
  have hlt:=findI_lt l (rd xs (i:Int))
  exact⟨(findI l (rd xs (i:Int))).toNat,by omega,by omega⟩
theorem step_inv {n:Int} {l:List S64} (hv:heapV n l=true) {xs:List Int} (h:InvT l xs) (i:Nat) (hi:i<xs.length):InvT l (stepT l xs i):=by
  obtain⟨j,hj,hjl⟩:=found h i hi
  unfold stepT
  rw[hj]
  exact visitL_inv h (cont_fit hv j hjl)
theorem go_inv {n : Int} {l : List S64} (hv : heapV n l = true) : ∀ (d : Nat) (xs : List Int) (i : Nat), InvT l xs → InvT l (goT l d xs i)
  |0,xs,i,h=>h
  |d+1,xs,i,h=>by
    unfold goT
    split
    · rename_i hi
      exact go_inv hv d _ _ (step_inv hv h i hi)
    · exact h
theorem forty {n:Int} {l:List S64} (h:heapV n l=true):l.length≤40:=by
  simp only[heapV,Bool.and_eq_true,decide_eq_true_eq]at h
  exact h.2.1
theorem trace_s_loop {n : Int} {l : List S64} (hl : l.length ≤ 1048576) (hm : smallO l) (hv : heapV n l = true) : ∀ (d : Nat) (xs : List Int) (i : Nat), InvT l xs → l.length < i + d → Ev (fun k => spec_l08Trace.l0 k [(⟨n, l⟩ : S32)] xs (i : Int)) (goT l d xs i)
  |0,xs,i,h,hd=>by
    have:=inv_len h
    refine ev_shift ?_;simp only[spec_l08Trace.l0]
    exact ev_neg (by omega) (ev_some _)
  |d+1,xs,i,h,hd=>by
    have hx:=inv_len h
    refine ev_shift ?_;simp only[spec_l08Trace.l0]
    unfold goT
    by_cases hi:i<xs.length
    · rw [if_pos hi]
      obtain⟨j,hj,hjl⟩:=found h i hi
      have hfe:=spec_l07Find_ev ⟨n,l⟩ hl (rd xs (i:Int))
      dsimp only at hfe
      rw[hj]at hfe
      have hc:=cont_len hv j hjl
      have:=forty hv
      refine ev_pos (by omega) (ev_pos (one_lt _) (ev_pos (by omega) (ev_bind hfe (ev_pos (by omega) (ev_pos (by rw[rd_heap];show(j:Int)<(l.length:Int);omega) ?_)))))
      rw[rd_heap]
      dsimp only
      refine ev_bind (cont_s_ev _ (small_rd hm j hjl).1 (ob_lens hv j hjl)) (ev_bind (visit_s_ev _ _ (by omega)) ?_)
      rw[wrap_up (by omega) (show(i:Int)<(xs.length:Int) by omega) (by omega)]
      have e:visitL xs (contL (rd_T64 l (j:Int)))=stepT l xs i:=by unfold stepT;rw[hj]
      rw[e]
      have:=trace_s_loop hl hm hv d (stepT l xs i) (i+1) (step_inv hv h i hi) (by omega)
      simpa using this
    · rw [if_neg hi]
      exact ev_neg (by omega) (ev_some _)
theorem trace_i_loop {n : Int} {l : List S64} (hl : l.length ≤ 1048576) (hm : smallO l) (hv : heapV n l = true) : ∀ (d : Nat) (xs : List Int) (i : Nat), InvT l xs → l.length < i + d → Ev (fun k => impl_Heap_reachable.l0 k n l xs (i : Int)) (goT l d xs i)
  |0,xs,i,h,hd=>by
    have:=inv_len h
    refine ev_shift ?_;simp only[impl_Heap_reachable.l0]
    exact ev_neg (by omega) (ev_some _)
  |d+1,xs,i,h,hd=>by
    have hx:=inv_len h
    refine ev_shift ?_;simp only[impl_Heap_reachable.l0]
    unfold goT
    by_cases hi:i<xs.length
    · rw [if_pos hi]
      obtain⟨j,hj,hjl⟩:=found h i hi
      have hfe:=impl_find_ev n l hl (rise_heap hv) (rd xs (i:Int))
      rw[hj]at hfe
      have hc:=cont_len hv j hjl
      have:=forty hv
      refine ev_pos (by omega) (ev_pos (by omega) (ev_bind hfe (ev_pos (by omega) (ev_pos (by omega) ?_))))
      refine ev_bind (cont_i_ev _ (small_rd hm j hjl).1 (ob_lens hv j hjl)) (ev_bind (visit_i_ev _ _ (by omega)) ?_)
      rw[wrap_up (by omega) (show(i:Int)<(xs.length:Int) by omega) (by omega)]
      have e:visitL xs (contL (rd_T64 l (j:Int)))=stepT l xs i:=by unfold stepT;rw[hj]
      rw[e]
      have:=trace_i_loop hl hm hv d (stepT l xs i) (i+1) (step_inv hv h i hi) (by omega)
      simpa using this
    · rw [if_neg hi]
      exact ev_neg (by omega) (ev_some _)
def traceL (l:List S64) (roots:List S62):List Int:=goT l (l.length+1) (visitL [] roots) 0
theorem trace_inv {n:Int} {l:List S64} (hv:heapV n l=true) {roots:List S62} (hf:fitL l roots=true):InvT l (traceL l roots):=
  go_inv hv _ _ _ (visitL_inv ⟨List.nodup_nil,fun _ h=>by cases h⟩ (fitL_mem hf))
theorem trace_s_ev {n:Int} {l:List S64} (hl:l.length≤1048576) (hm:smallO l) (hv:heapV n l=true) {roots:List S62} (hr:roots.length≤1048576) (hf:fitL l roots=true):Ev (fun k=>spec_l08Trace.f k [(⟨n,l⟩:S32)] roots) (traceL l roots):=by
  simp only[spec_l08Trace.f]
  unfold traceL
  refine ev_bind (visit_s_ev [] roots (by simpa using hr)) ?_
  have:=trace_s_loop hl hm hv (l.length+1) (visitL [] roots) 0 (visitL_inv ⟨List.nodup_nil,fun _ h=>by cases h⟩ (fitL_mem hf)) (by omega)
  simpa using this
theorem trace_i_ev {n:Int} {l:List S64} (hl:l.length≤1048576) (hm:smallO l) (hv:heapV n l=true) {roots:List S62} (hr:roots.length≤1048576) (hf:fitL l roots=true):Ev (fun k=>impl_Heap_reachable.f k n l roots) (traceL l roots):=by
  simp only[impl_Heap_reachable.f]
  unfold traceL
  refine ev_bind (visit_i_ev [] roots (by simpa using hr)) ?_
  have:=trace_i_loop hl hm hv (l.length+1) (visitL [] roots) 0 (visitL_inv ⟨List.nodup_nil,fun _ h=>by cases h⟩ (fitL_mem hf)) (by omega)
  simpa using this
end Go.Proofs.Ytpdljgieaaicpaa.PureFnExactGarbage
