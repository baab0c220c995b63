/- What the functions on heaps come to: an object's place, what fits, valid heaps. No condition. -/
import Derived.Test.YtengilknjiobiaaYPairsOfVObjects
import Derived.Test.YtengilknjiobiaaYPoP0
import Derived.Test.YtengilknjiobiaaYPoP4
import Derived.Test.YtengilknjiobiaaYPoP8
import Derived.Test.YtengilknjiobiaaYPoP9
import Derived.Test.YtengilknjiobiaaYPoP10
import Derived.Test.YtengilknjiobiaaYPoP11
import Derived.Test.YtengilknjiobiaaYPoP12
import Derived.Test.YtengilknjiobiaaYPoP14
import Derived.Test.YtengilknjiobiaaYPoP15
import Derived.Test.YtengilknjiobiaaYPoP18
import Derived.Test.YtengilknjiobiaaYPoP19
import Derived.Test.YtengilknjiobiaaYPoP20
import Derived.Test.YtengilknjiobiaaYPoP21
import Derived.Test.YtengilknjiobiaaYPoP22
import Derived.Test.YtengilknjiobiaaYPoP23
namespace Go.Proofs.Ytengilknjiobiaa.PureFnExactPairsOf
open Go.RowKit Go.Proofs.YtengilknjiobiaaG Go.Proofs.Ytengilknjiobiaa.PFnExactPairsOf Go.Proofs.YtengilknjiobiaaW.PrintWords Go.Proofs.YtengilknjiobiaaW.PrintLast Go.Proofs.YtengilknjiobiaaW.PrintMore
set_option linter.unusedSimpArgs false
set_option linter.unusedVariables false
def obV (o:S56):Bool:=objV o.f0 o.f1 o.f2 o.f3 o.f4 o.f5 o.f6.f0 o.f6.f1 o.f6.f2 o.f6.f3
def idN (l:List S56) (i:Nat):Int:=(rd_T56 l (i:Int)).f0
def findI (l : List S56) (id : Int) : Int := match l.findIdx? (fun o => decide (o.f0 = id)) with
  |some i=>(i:Int)
  |none=> -1
theorem rd_ob (l:List S56) (i:Nat) (h:i<l.length):rd_T56 l (i:Int)=l[i]:=getD_get _ l i h
theorem rd_va (l:List S29) (i:Nat) (h:i<l.length):rd_T29 l (i:Int)=l[i]:=getD_get _ l i h
theorem findI_of (l:List S56) (id v:Int) (h:(v= -1∧∀i,i<l.length→decide (idN l i=id)=false)∨∃i:Nat,v=i∧i<l.length∧decide (idN l i=id)=true∧∀j,j<i→decide (idN l j=id)=false):v=findI l id:=by
  unfold idN at h
  rcases h with⟨rfl,h⟩|⟨i,rfl,hi,hp,hb⟩
  · have e:l.findIdx? (fun o=>decide (o.f0=id))=none:=by
      rw[List.findIdx?_eq_none_iff]
      intro x hx
      obtain⟨i,hi,rfl⟩:=List.getElem_of_mem hx
      have:=h i hi
      rw[rd_ob l i hi]at this
      exact this
    unfold findI;rw[e]
  · have e:l.findIdx? (fun o=>decide (o.f0=id))=some i:=by
      rw[List.findIdx?_eq_some_iff_getElem]
      refine⟨hi,by rw[rd_ob l i hi]at hp;exact hp,fun j hj=>?_⟩
      have:=hb j hj
      rw[rd_ob l j (by omega)]at this
      simpa using this
    unfold findI;rw[e]
theorem findI_lt (l:List S56) (id:Int): -1≤findI l id∧findI l id<l.length:=by
  unfold findI
  cases e:l.findIdx? (fun o=>decide (o.f0=id))with
  |none=>simp;omega
  |some i=>
    rw[List.findIdx?_eq_some_iff_getElem]at e
    obtain⟨hi,_⟩:=e
    simp;omega
theorem findI_id (l:List S56) (id:Int) (h:0≤findI l id):(rd_T56 l (findI l id)).f0=id:=by
  unfold findI at h ⊢
  cases e:l.findIdx? (fun o=>decide (o.f0=id))with
  |none=>rw[e]at h;simp at h
  |some i=>
    have e':=e
    rw[List.findIdx?_eq_some_iff_getElem]at e
    obtain⟨hi,hp,_⟩:=e
    simp only
    rw[rd_ob l i hi]
    simpa using hp
theorem ev_tt {α:Type} {p:Prop} {inst:Decidable p} (F:Nat→Bool→Option α) {r:α} (h:p) (k:Ev (fun n=>F n true) r):Ev (fun n=>F n (@decide p inst)) r:=by
  rw[decide_eq_true h];exact k
theorem ev_ff {α:Type} {p:Prop} {inst:Decidable p} (F:Nat→Bool→Option α) {r:α} (h:¬p) (k:Ev (fun n=>F n false) r):Ev (fun n=>F n (@decide p inst)) r:=by
  rw[decide_eq_false h];exact k
theorem one_lt {α:Type} (x:α):(0:Int)<(([x]:List α).length:Int):=by simp
theorem rd_heap (h:S34):rd_T34 [h] 0=h:=rfl
theorem spec_l07Find_ev (h:S34) (hl:h.f1.length≤1048576) (id:Int):Ev (fun k=>spec_l07Find.f k [h] id) (findI h.f1 id):=by
  simp only[spec_l07Find.f]
  obtain⟨v,hv,hp⟩:=idx_find (g:=fun k i=>spec_l07Find.l0 k [h] id i) h.f1.length (fun i=>decide (idN h.f1 i=id)) (by
    refine ev_shift ?_;simp only[spec_l07Find.l0,rd_heap]
    exact ev_pos (one_lt h) (ev_neg (by omega) (ev_some _))) (by
    intro i hi hp r hr
    refine ev_shift ?_;simp only[spec_l07Find.l0,rd_heap]
    refine ev_pos (one_lt h) (ev_pos (by omega) (ev_pos (by omega) (ev_neg (of_decide_eq_false hp) ?_)))
    rw[wrap_up (by omega) (show(i:Int)<(h.f1.length:Int) by omega) (by omega)];exact hr) (by
    intro i hi hp
    refine ev_shift ?_;simp only[spec_l07Find.l0,rd_heap]
    exact ev_pos (one_lt h) (ev_pos (by omega) (ev_pos (by omega) (ev_pos (of_decide_eq_true hp) (ev_some _)))))
  rw[←findI_of _ _ _ hp]
  exact hv
def riseP (l:List S56):Prop:=∀i j:Nat,i<j→j<l.length→idN l i<idN l j
def cmpV (a b:Int):Int:=if a<b then-1 else if a>b then 1 else 0
theorem cmp_eq (a b:Int):cmp_Compare_int64.f a b=some (cmpV a b):=by
  have n:∀x:Int,cmp_isNaN_int64.f x=some false:=fun x=>by simp[cmp_isNaN_int64.f]
  simp only[cmp_Compare_int64.f,n,Option.bind_some,cmpV]
  by_cases c:a<b
  · simp[c]
  · by_cases d : a > b
    · simp[c,d]
    · simp[c,d]
theorem cmpV_lt (a b:Int):cmpV a b<0↔a<b:=by unfold cmpV;split<;>(try split)<;>omega
theorem cmpV_eq (a b:Int):(cmpV a b==0)=decide (a=b):=by
  rw[Bool.eq_iff_iff,beq_iff_eq,decide_eq_true_iff];unfold cmpV;split<;>(try split)<;>omega
theorem find1_eq (f0 f1:Int) (f2:ByteArray) (f3:Int) (l4 l5:List S29) (v0 v1:Int) (v2:ByteArray) (v3 id:Int):impl_Heap_find_1.f f0 f1 f2 f3 l4 l5 v0 v1 v2 v3 id=some (cmpV f0 id):=by
  simp only[impl_Heap_find_1.f,cmp_eq,Option.bind_some]
theorem mid_eq (lo hi:Nat) (h:lo+hi≤2097152):wrap64 ((IntKind.u64.wrap (wrap64 ((lo:Int)+(hi:Int))))/2)=(((lo+hi)/2:Nat):Int):=by
  have e:wrap64 ((lo:Int)+(hi:Int))=((lo+hi:Nat):Int):=by unfold wrap64;omega
  have w:IntKind.u64.wrap (((lo+hi:Nat):Int))=((lo+hi:Nat):Int):=by
    simp[IntKind.wrap,IntKind.bits,IntKind.signed];omega
  rw[e,w]
  unfold wrap64;omega
theorem impl_bs_loop (l:List S56) (id:Int) (hl:l.length≤1048576):∀d lo hi:Nat,hi-lo=d→lo≤hi→hi≤l.length→(∀j,j<lo→idN l j<id)→(∀j,hi≤j→j<l.length→id≤idN l j)→riseP l→
    ∃i:Nat,Ev (fun k=>impl_Object_int64__impl_Heap_find_1.l0 k l id (l.length:Int) (lo:Int) (hi:Int)) ((i:Int),decide (i<l.length)&&decide (idN l i=id))∧(∀j,j<i→idN l j<id)∧(∀j,i≤j→j<l.length→id≤idN l j):=by
  intro d
  induction d using Nat.strongRecOn with
  |_ d ih=>
  intro lo hi hd hlh hn ha hb hs
  by_cases c:lo<hi
  · have hm := mid_eq lo hi (by omega)
    have hlt:(lo+hi)/2<l.length:=by omega
    by_cases q:idN l ((lo+hi)/2)<id
    · obtain⟨i,hi',h1,h2⟩:=ih (hi-((lo+hi)/2+1)) (by omega) ((lo+hi)/2+1) hi rfl (by omega) hn (fun j hj=>by
        rcases Nat.lt_or_eq_of_le (Nat.le_of_lt_succ hj)with r|r
        · exact Int.lt_trans (hs j _ r hlt) q
        · rw[r];exact q) hb hs
      refine⟨i,?_,h1,h2⟩
      refine ev_shift ?_;simp only[impl_Object_int64__impl_Heap_find_1.l0,hm]
      refine ev_pos (by omega) (ev_pos (by omega) (ev_pos (by omega) (ev_bindc (find1_eq _ _ _ _ _ _ _ _ _ _ _) (ev_pos ((cmpV_lt _ _).2 q) ?_))))
      rw[wrap_up (by omega) (show(((lo+hi)/2:Nat):Int)<(l.length:Int) by omega) (by omega)]
      simpa using hi'
    · obtain⟨i,hi',h1,h2⟩:=ih ((lo+hi)/2-lo) (by omega) lo ((lo+hi)/2) rfl (by omega) (by omega) ha (fun j hj hjl=>by
        rcases Nat.lt_or_eq_of_le hj with r|r
        · exact Int.le_of_lt (Int.lt_of_le_of_lt (Int.not_lt.1 q) (hs _ j r hjl))
        · rw[←r];exact Int.not_lt.1 q) hs
      refine⟨i,?_,h1,h2⟩
      refine ev_shift ?_;simp only[impl_Object_int64__impl_Heap_find_1.l0,hm]
      exact ev_pos (by omega) (ev_pos (by omega) (ev_pos (by omega) (ev_bindc (find1_eq _ _ _ _ _ _ _ _ _ _ _) (ev_neg (fun h=>q ((cmpV_lt _ _).1 h)) hi'))))
  · have e : lo = hi := by omega
    subst e
    refine⟨lo,?_,ha,hb⟩
    refine ev_shift ?_;simp only[impl_Object_int64__impl_Heap_find_1.l0]
    refine ev_neg (by omega) ?_
    by_cases q:lo<l.length
    · refine ev_pos (by omega) (ev_pos (by omega) (ev_pos (by omega) (ev_bindc (find1_eq _ _ _ _ _ _ _ _ _ _ _) (ev_of_eq ?_))))
      rw[cmpV_eq,decide_eq_true q,Bool.true_and];rfl
    · refine ev_neg (by omega) (ev_of_eq ?_)
      rw[decide_eq_false q,Bool.false_and]
theorem impl_find_ev (n:Int) (l:List S56) (hl:l.length≤1048576) (hs:riseP l) (id:Int):Ev (fun k=>impl_Heap_find.f k n l id) (findI l id):=by
  obtain⟨i,hi,h1,h2⟩:=impl_bs_loop l id hl l.length 0 l.length (by omega) (by omega) (by omega) (fun j hj=>absurd hj (by omega)) (fun j hj hjl=>absurd hj (by omega)) hs
  simp only[impl_Heap_find.f,impl_Object_int64__impl_Heap_find_1.f]
  refine ev_bind (by simpa using hi) ?_
  by_cases q:i<l.length∧idN l i=id
  · refine ev_pos (by simp [q.1, q.2]) (ev_of_eq ?_)
    rw[←findI_of l id i (.inr ⟨i,rfl,q.1,by simp[q.2],fun j hj=>by have:=h1 j hj;simp;omega⟩)]
  · refine ev_neg (by simp; intro a b; exact q ⟨a, b⟩) (ev_of_eq ?_)
    rw[←findI_of l id (-1) (.inl ⟨rfl,fun j hj=>?_⟩)]
    apply decide_eq_false
    intro h
    by_cases r:j<i
    · have:=h1 j r;omega
    · rcases Nat.lt_or_eq_of_le (Nat.not_lt.1 r) with s | s
      · have a := h2 i (Nat.le_refl _) (by omega)
        have b:=hs i j s hj
        omega
      · subst s;exact q ⟨hj,h⟩
def fitV (l:List S56) (a b:Int) (c:ByteArray) (d:Int):Bool:=validV a b c d&&(if decide (4≤a)&&decide (a≤6)then decide (0≤findI l d)&&((rd_T56 l (findI l d)).f1==wrap64 (wrap64 (a- 4)+1))else true)
def fitL (l:List S56) (xs:List S29):Bool:=xs.all (fun x=>fitV l x.f0 x.f1 x.f2 x.f3)
theorem spec_isRef_eq (a b:Int) (c:ByteArray) (d:Int):spec_l07IsRef.f a b c d=some (decide (4≤a)&&decide (a≤6)):=by
  simp only[spec_l07IsRef.f,spec_l00In_eq,Option.bind_some]
theorem impl_refers_eq (a:Int):impl_refers.f a=some (decide (4≤a)&&decide (a≤6)):=by
  simp only[impl_refers.f,impl_within_eq,Option.bind_some]
theorem spec_fits_ev (h:S34) (hl:h.f1.length≤1048576) (a b:Int) (c:ByteArray) (d:Int):Ev (fun k=>spec_l07Fits.f k [h] a b c d) (fitV h.f1 a b c d):=by
  simp only[spec_l07Fits.f,fitV,rd_heap]
  refine ev_bind (spec_ValidValue_ev _ _ _ _) ?_
  cases validV a b c d with
  |false=>exact ev_neg Bool.false_ne_true (ev_some _)
  |true=>
    refine ev_pos rfl (ev_bindc (spec_isRef_eq _ _ _ _) ?_)
    cases decide (4≤a)&&decide (a≤6)with
    |false=>exact ev_neg Bool.false_ne_true (ev_some _)
    |true=>
      refine ev_pos rfl (ev_bind (spec_l07Find_ev h hl d) ?_)
      have hf:=findI_lt h.f1 d
      by_cases q:0≤findI h.f1 d
      · refine ev_pos (by omega) (ev_pos (one_lt h) (ev_pos q (ev_pos (by omega) (ev_of_eq ?_))))
        simp[spec_l07ObjectKind.f,q]
      · refine ev_neg (by omega) (ev_of_eq ?_)
        simp[q]
theorem impl_fits_bad (n:Int) (l:List S56) (a b:Int) (c:ByteArray) (d:Int):Ev (fun k=>impl_Heap_fits.j0 k true n l a b c d) (validV a b c d):=by
  refine ev_shift ?_;simp only[impl_Heap_fits.j0]
  exact ev_pos (by simp) (ev_bind (impl_ValidValue_ev _ _ _ _) (ev_some _))
theorem impl_fits_ev (n:Int) (l:List S56) (hl:l.length≤1048576) (hs:riseP l) (a b:Int) (c:ByteArray) (d:Int):Ev (fun k=>impl_Heap_fits.f k n l a b c d) (fitV l a b c d):=by
  simp only[impl_Heap_fits.f,fitV]
  refine ev_bind (impl_ValidValue_ev _ _ _ _) ?_
  have bad:=impl_fits_bad n l a b c d
  cases hv:validV a b c d with
  |false=>rw[hv]at bad;exact ev_neg Bool.false_ne_true bad
  |true=>
    refine ev_pos rfl (ev_bindc (impl_refers_eq _) ?_)
    cases decide (4≤a)&&decide (a≤6)with
    |false=>rw[hv]at bad;exact bad
    |true=>
      refine ev_shift ?_;simp only[impl_Heap_fits.j0]
      refine ev_neg (by decide) (ev_bind (impl_find_ev n l hl hs d) ?_)
      have hf:=findI_lt l d
      by_cases q:0≤findI l d
      · refine ev_pos (by omega) (ev_pos q (ev_pos (by omega) (ev_of_eq ?_)))
        simp[impl_objectKind.f,q]
      · refine ev_neg (by omega) (ev_of_eq ?_)
        simp[q]
theorem allN_all (xs:List S29) (P:S29→Bool):allN xs.length (fun i=>P (rd_T29 xs (i:Int)))=xs.all P:=by
  rw[Bool.eq_iff_iff,allN_iff,List.all_eq_true]
  constructor
  · intro h x hx
    obtain⟨i,hi,rfl⟩:=List.getElem_of_mem hx
    have:=h i hi
    rw[rd_va xs i hi]at this
    exact this
  · intro h i hi
    rw[rd_va xs i hi]
    exact h _ (List.getElem_mem hi)
theorem spec_l07FitAll_ev (h:S34) (hl:h.f1.length≤1048576) (xs:List S29) (hx:xs.length≤1048576):Ev (fun k=>spec_l07FitAll.f k [h] xs) (fitL h.f1 xs):=by
  simp only[spec_l07FitAll.f,fitL]
  rw[←allN_all]
  refine idx_all (g:=fun k i=>spec_l07FitAll.l0 k [h] xs i) xs.length _ ?_ ?_ ?_
  · refine ev_shift ?_;simp only[spec_l07FitAll.l0];exact ev_neg (by omega) (ev_some _)
  · intro i hi hp r hr
    refine ev_shift ?_;simp only[spec_l07FitAll.l0]
    refine ev_pos (by omega) (ev_pos (by omega) (ev_bind (spec_fits_ev h hl _ _ _ _) (ev_pos hp ?_)))
    rw[wrap_up (by omega) (show(i:Int)<(xs.length:Int) by omega) (by omega)];exact hr
  · intro i hi hp
    refine ev_shift ?_;simp only[spec_l07FitAll.l0]
    refine ev_pos (by omega) (ev_pos (by omega) (ev_bind (spec_fits_ev h hl _ _ _ _) (ev_neg (fun q=>?_) (ev_some _))))
    exact absurd (hp.symm.trans q) Bool.false_ne_true
theorem impl_fitAll_ev (n:Int) (l:List S56) (hl:l.length≤1048576) (hs:riseP l) (xs:List S29) (hx:xs.length≤9223372036854775807):Ev (fun k=>impl_Value__impl_Heap_fits.f k xs n l) (fitL l xs):=by
  simp only[impl_Value__impl_Heap_fits.f,fitL]
  exact areAll_loop (impl_Value__impl_Heap_fits.l0 n l) rd_T29 (fun k x=>impl_Heap_fits.f k n l x.f0 x.f1 x.f2 x.f3) _ (fun k xs n i=>by simp only[impl_Value__impl_Heap_fits.l0]) (fun xs i h=>rd_va xs i h) xs hx (fun x _=>impl_fits_ev n l hl hs _ _ _ _)
def refsV (l:List S56) (o:S56):Bool:=fitL l o.f4&&(fitL l o.f5&&(if o.f1=2 then fitV l o.f6.f0 o.f6.f1 o.f6.f2 o.f6.f3 else true))
theorem rd_one (o:S56):rd_T56 [o] 0=o:=rfl
theorem spec_l07Refs_ev (h:S34) (hl:h.f1.length≤1048576) (o:S56) (h4:o.f4.length≤1048576) (h5:o.f5.length≤1048576):Ev (fun k=>spec_l07Refs.f k [h] [o]) (refsV h.f1 o):=by
  simp only[spec_l07Refs.f,refsV,rd_one]
  refine ev_pos (one_lt o) (ev_bind (spec_l07FitAll_ev h hl _ h4) ?_)
  cases fitL h.f1 o.f4 with
  |false=>exact ev_neg Bool.false_ne_true (ev_some _)
  |true=>
    refine ev_pos rfl (ev_bind (spec_l07FitAll_ev h hl _ h5) ?_)
    cases fitL h.f1 o.f5 with
    |false=>exact ev_neg Bool.false_ne_true (ev_some _)
    |true=>
      refine ev_pos rfl ?_
      by_cases c:o.f1=2
      · rw[if_pos c];exact ev_pos c (ev_bind (spec_fits_ev h hl _ _ _ _) (ev_some _))
      · rw[if_neg c];exact ev_neg c (ev_some _)
theorem grow_eq (n:Int) (h0:0≤n) (h:n≤4194304):impl_Value__nil.f n=some []:=by
  have w:wrap64 n=n:=wrap_id (by omega) (by omega)
  simp only[impl_Value__nil.f,w]
  rw[if_neg (by omega)]
  split
  · simp[h0];omega
  · rfl
theorem concat2_ev (a b:List S29) (ha:a.length≤1048576) (hb:b.length≤1048576):Ev (fun k=>impl_Value_117.f k [a,b]) (a++b):=by
  simp only[impl_Value_117.f]
  have L:(([a,b]:List (List S29)).length:Int)=2:=rfl
  have R0:rd_L6 [a,b] 0=a:=rfl
  have R1:rd_L6 [a,b] 1=b:=rfl
  have w1:wrap64 (0+(a.length:Int))=a.length:=by unfold wrap64;omega
  have w2:wrap64 ((a.length:Int)+(b.length:Int))=((a.length+b.length:Nat):Int):=by unfold wrap64;omega
  have u1:wrap64 ((0:Int)+1)=1:=by unfold wrap64;omega
  have u2:wrap64 ((1:Int)+1)=2:=by unfold wrap64;omega
  refine ev_shift ?_;simp only[impl_Value_117.l0,L,R0,w1,u1]
  refine ev_pos (by decide) (ev_pos (by decide) (ev_pos (by decide) (ev_neg (by omega) ?_)))
  refine ev_shift ?_;simp only[impl_Value_117.l0,L,R1,w2,u2]
  refine ev_pos (by decide) (ev_pos (by decide) (ev_pos (by decide) (ev_neg (by omega) ?_)))
  refine ev_shift ?_;simp only[impl_Value_117.l0,L]
  refine ev_neg (by decide) (ev_bindc (grow_eq _ (by omega) (by omega)) ?_)
  refine ev_shift ?_;simp only[impl_Value_117.l1,L,R0,u1,List.nil_append]
  refine ev_pos (by decide) (ev_pos (by decide) (ev_pos (by decide) (ev_pos (by simp;omega) ?_)))
  refine ev_shift ?_;simp only[impl_Value_117.l1,L,R1,u2]
  refine ev_pos (by decide) (ev_pos (by decide) (ev_pos (by decide) (ev_pos (by omega) ?_)))
  refine ev_shift ?_;simp only[impl_Value_117.l1,L]
  exact ev_neg (by decide) (ev_some _)
def valsO (o:S56):List S29:=if o.f1=2 then o.f4++o.f5++[o.f6]else o.f4++o.f5
theorem impl_values_ev (o:S56) (h4:o.f4.length≤1048576) (h5:o.f5.length≤1048576):Ev (fun k=>impl_Object_values.f k o.f0 o.f1 o.f2 o.f3 o.f4 o.f5 o.f6.f0 o.f6.f1 o.f6.f2 o.f6.f3) (valsO o):=by
  simp only[impl_Object_values.f,valsO]
  refine ev_bind (concat2_ev _ _ h4 h5) ?_
  by_cases c:o.f1=2
  · have e : (if o.f1 = 2 then o.f4 ++ o.f5 ++ [o.f6] else o.f4 ++ o.f5) = o.f4 ++ o.f5 ++ [o.f6] := if_pos c
    rw[e];exact ev_pos c (ev_pos (by rw[List.length_append];omega) (ev_some _))
  · have e : (if o.f1 = 2 then o.f4 ++ o.f5 ++ [o.f6] else o.f4 ++ o.f5) = o.f4 ++ o.f5 := if_neg c
    rw[e];exact ev_neg c (ev_some _)
theorem vals_len (o:S56):(valsO o).length≤o.f4.length+o.f5.length+1:=by
  unfold valsO;split<;>simp<;>omega
theorem fit_vals (l:List S56) (o:S56):fitL l (valsO o)=refsV l o:=by
  unfold fitL valsO refsV fitL
  by_cases c:o.f1=2
  · simp[c,List.all_append,Bool.and_assoc]
  · simp[c,List.all_append]
theorem impl_VH1_ev (n:Int) (l:List S56) (hl:l.length≤1048576) (hs:riseP l) (o:S56) (h4:o.f4.length≤1048576) (h5:o.f5.length≤1048576):
    Ev (fun k=>impl_ValidHeap_1.f k o.f0 o.f1 o.f2 o.f3 o.f4 o.f5 o.f6.f0 o.f6.f1 o.f6.f2 o.f6.f3 [⟨n,l⟩]) (refsV l o):=by
  simp only[impl_ValidHeap_1.f,rd_heap]
  have hv:=vals_len o
  refine ev_bind (impl_values_ev o h4 h5) (ev_pos (one_lt _) (ev_bind (impl_fitAll_ev n l hl hs _ (by omega)) (ev_of_eq ?_)))
  rw[fit_vals]
theorem idx_and_if {g : Nat → Int → Option Bool} (n : Nat) (P : Nat → Bool) (r0 : Bool) (h0 : allN n P = true → Ev (fun k => g k (n : Int)) r0)
    (h1:∀i,i<n→P i=true→∀r,Ev (fun k=>g k ((i:Int)+1)) r→Ev (fun k=>g k (i:Int)) r)
    (h2:∀i,i<n→P i=false→Ev (fun k=>g k (i:Int)) false):Ev (fun k=>g k 0) (allN n P&&r0):=by
  cases hA:allN n P with
  |true=>
    have:=idx_and n P r0 (h0 hA) h1 h2
    rw[hA]at this
    exact this
  |false=>
    have hx:∃j,j<n∧P j=false:=by
      refine Classical.byContradiction fun h=>?_
      rw[(allN_iff n P).2 (fun i hi=>by
        cases hp:P i with
        |true=>rfl
        |false=>exact absurd ⟨i,hi,hp⟩ h)]at hA
      cases hA
    obtain⟨j,hj,hp⟩:=hx
    have:∀d i:Nat,i+d=j→Ev (fun k=>g k (i:Int)) false:=by
      intro d
      induction d with
      | zero => intro i hi; have e : i = j := by omega
                subst e;exact h2 i hj hp
      |succ d ih=>
        intro i hi
        cases hq:P i with
        |false=>exact h2 i (by omega) hq
        |true=>exact h1 i (by omega) hq _ (by simpa using ih (i+1) (by omega))
    simpa using this j 0 (by omega)
def nextV (n:Int) (l:List S56) (i:Nat):Bool:=decide (idN l i≤n)&&(decide (i=0)||decide (idN l (i- 1)<idN l i))
def okN (n:Int) (l:List S56) (i:Nat):Bool:=obV (rd_T56 l (i:Int))&&nextV n l i
def refN (l:List S56) (i:Nat):Bool:=refsV l (rd_T56 l (i:Int))
def heapV (n:Int) (l:List S56):Bool:=(decide (0≤n)&&decide (n≤1000000))&&(decide (l.length≤40)&&(allN l.length (okN n l)&&allN l.length (refN l)))
theorem rise_of (n:Int) (l:List S56) (h:allN l.length (okN n l)=true):riseP l:=by
  rw[allN_iff]at h
  have step:∀i,i+1<l.length→idN l i<idN l (i+1):=by
    intro i hi
    have:=h (i+1) hi
    simp only[okN,nextV,Bool.and_eq_true,Bool.or_eq_true,decide_eq_true_eq]at this
    rcases this.2.2 with r|r
    · omega
    · simpa using r
  intro i j hij
  induction j with
  |zero=>omega
  |succ j ih=>
    intro hj
    rcases Nat.lt_or_eq_of_le (Nat.le_of_lt_succ hij)with r|r
    · exact Int.lt_trans (ih r (by omega)) (step j hj)
    · rw[r];exact step j hj
def smallO (l:List S56):Prop:=∀o,o∈l→o.f4.length≤1048576∧o.f5.length≤1048576
theorem small_rd {l:List S56} (h:smallO l) (i:Nat) (hi:i<l.length):(rd_T56 l (i:Int)).f4.length≤1048576∧(rd_T56 l (i:Int)).f5.length≤1048576:=by
  rw[rd_ob l i hi];exact h _ (List.getElem_mem hi)
theorem spec_ob_ev (o:S56) (h:o.f4.length≤1048576∧o.f5.length≤1048576):Ev (fun k=>spec_l07Object.f k o.f0 o.f1 o.f2 o.f3 o.f4 o.f5 o.f6.f0 o.f6.f1 o.f6.f2 o.f6.f3) (obV o):=spec_ValidObject_ev _ _ _ _ _ _ _ _ _ _ h.1 h.2
theorem impl_ob_ev (o:S56) (h:o.f4.length≤1048576∧o.f5.length≤1048576):Ev (fun k=>impl_ValidObject.f k o.f0 o.f1 o.f2 o.f3 o.f4 o.f5 o.f6.f0 o.f6.f1 o.f6.f2 o.f6.f3) (obV o):=impl_ValidObject_ev _ _ _ _ _ _ _ _ _ _ h.1 h.2
theorem spec_ok_bad (h:S34):Ev (fun k=>spec_l07Ok.j0 k [h] true) false:=by
  refine ev_shift ?_;simp only[spec_l07Ok.j0];simpa using ev_some false
theorem spec_ok_j2 (h:S34) (i:Int):Ev (fun k=>spec_l07Ok.j2 k [h] i true) false:=by
  refine ev_shift ?_;simp only[spec_l07Ok.j2];simpa using ev_some false
theorem spec_ok_l1 (h:S34) (hl:h.f1.length≤1048576) (hm:smallO h.f1):Ev (fun k=>spec_l07Ok.l1 k [h] 0) (allN h.f1.length (refN h.f1)):=by
  refine idx_all (g:=fun k i=>spec_l07Ok.l1 k [h] i) h.f1.length _ ?_ ?_ ?_
  · refine ev_shift ?_;simp only[spec_l07Ok.l1,rd_heap];exact ev_pos (one_lt h) (ev_neg (by omega) (ev_some _))
  · intro i hi hp r hr
    have hs:=small_rd hm i hi
    refine ev_shift ?_;simp only[spec_l07Ok.l1,rd_heap]
    refine ev_pos (one_lt h) (ev_pos (by omega) (ev_pos (by omega) (ev_bind (spec_l07Refs_ev h hl _ hs.1 hs.2) (ev_pos hp ?_))))
    rw[wrap_up (by omega) (show(i:Int)<(h.f1.length:Int) by omega) (by omega)];exact hr
  · intro i hi hp
    have hs:=small_rd hm i hi
    refine ev_shift ?_;simp only[spec_l07Ok.l1,rd_heap]
    refine ev_pos (one_lt h) (ev_pos (by omega) (ev_pos (by omega) (ev_bind (spec_l07Refs_ev h hl _ hs.1 hs.2) (ev_neg (fun q=>?_) (ev_some _)))))
    exact absurd (hp.symm.trans q) Bool.false_ne_true
theorem spec_l07Ok_ev (h:S34) (hl:h.f1.length≤1048576) (hm:smallO h.f1):Ev (fun k=>spec_l07Ok.f k [h]) (heapV h.f0 h.f1):=by
  simp only[spec_l07Ok.f,rd_heap,heapV]
  refine ev_pos (one_lt h) (ev_bindc (spec_l00In_eq _ _ _) ?_)
  cases decide (0≤h.f0)&&decide (h.f0≤1000000)with
  |false=>exact ev_neg Bool.false_ne_true (spec_ok_bad h)
  |true=>
    refine ev_pos rfl ?_
    by_cases c:h.f1.length≤40
    · simp only [decide_eq_true c, Bool.true_and]
      refine ev_ff (fun n b=>spec_l07Ok.j0 n [h] b) (by omega) ?_
      refine ev_shift ?_;simp only[spec_l07Ok.j0]
      refine ev_neg Bool.false_ne_true ?_
      refine idx_and (g:=fun k i=>spec_l07Ok.l0 k [h] i) h.f1.length _ _ ?_ ?_ ?_
      · refine ev_shift ?_; simp only [spec_l07Ok.l0, rd_heap]
        exact ev_pos (one_lt h) (ev_neg (by omega) (spec_ok_l1 h hl hm))
      · intro i hi hp r hr
        simp only[okN,nextV,Bool.and_eq_true,Bool.or_eq_true,decide_eq_true_eq]at hp
        simp only[idN]at hp
        have go:Ev (fun k=>spec_l07Ok.j2 k [h] (i:Int) false) r:=by
          refine ev_shift ?_;simp only[spec_l07Ok.j2]
          rw[wrap_up (by omega) (show(i:Int)<(h.f1.length:Int) by omega) (by omega)]
          exact ev_neg Bool.false_ne_true hr
        refine ev_shift ?_;simp only[spec_l07Ok.l0,rd_heap]
        refine ev_pos (one_lt h) (ev_pos (by omega) (ev_pos (by omega) (ev_bind (spec_ob_ev _ (small_rd hm i hi)) (ev_pos hp.1 (ev_neg (by omega) ?_)))))
        by_cases z:i=0
        · exact ev_neg (by omega) go
        · have w : wrap64 ((i : Int) - 1) = ((i - 1 : Nat) : Int) := by unfold wrap64; omega
          rw[w]
          refine ev_pos (by omega) (ev_pos (by omega) (ev_pos (by omega) ?_))
          have h2:(rd_T56 h.f1 ((i- 1:Nat):Int)).f0<(rd_T56 h.f1 (i:Int)).f0:=hp.2.2.resolve_left z
          exact ev_ff (fun n b=>spec_l07Ok.j2 n [h] (i:Int) b) (by omega) go
      · intro i hi hp
        have bad:=spec_ok_j2 h (i:Int)
        refine ev_shift ?_;simp only[spec_l07Ok.l0,rd_heap]
        refine ev_pos (one_lt h) (ev_pos (by omega) (ev_pos (by omega) (ev_bind (spec_ob_ev _ (small_rd hm i hi)) ?_)))
        cases ho:obV (rd_T56 h.f1 (i:Int))with
        |false=>exact ev_neg Bool.false_ne_true bad
        |true=>
          refine ev_pos rfl ?_
          by_cases d:(rd_T56 h.f1 (i:Int)).f0>h.f0
          · exact ev_pos d bad
          · refine ev_neg d ?_
            simp only[okN,nextV,ho,Bool.true_and,Bool.and_eq_false_iff,Bool.or_eq_false_iff,decide_eq_false_iff_not]at hp
            simp only[idN]at hp
            replace hp:¬i=0∧¬(rd_T56 h.f1 ((i- 1:Nat):Int)).f0<(rd_T56 h.f1 (i:Int)).f0:=hp.resolve_left (fun q=>by omega)
            have w:wrap64 ((i:Int)- 1)=((i- 1:Nat):Int):=by unfold wrap64;omega
            rw[w]
            exact ev_pos (by omega) (ev_pos (by omega) (ev_pos (by omega) (ev_tt (fun n b=>spec_l07Ok.j2 n [h] (i:Int) b) (by omega) bad)))
    · simp only [decide_eq_false c, Bool.false_and, Bool.and_false]
      exact ev_tt (fun n b=>spec_l07Ok.j0 n [h] b) (by omega) (spec_ok_bad h)
theorem impl_vh_bad (n:Int) (l:List S56):Ev (fun k=>impl_ValidHeap.j0 k true n l) false:=by
  refine ev_shift ?_;simp only[impl_ValidHeap.j0];simpa using ev_some false
theorem impl_vh_objs (l:List S56) (hl:l.length≤1048576) (hm:smallO l):Ev (fun k=>impl_Object__impl_ValidObject.f k l) (allN l.length (fun i=>obV (rd_T56 l (i:Int)))):=by
  simp only[impl_Object__impl_ValidObject.f]
  refine idx_all (g:=fun k i=>impl_Object__impl_ValidObject.l0 k l (l.length:Int) i) l.length _ ?_ ?_ ?_
  · refine ev_shift ?_;simp only[impl_Object__impl_ValidObject.l0];exact ev_neg (by omega) (ev_some _)
  · intro i hi hp r hr
    refine ev_shift ?_;simp only[impl_Object__impl_ValidObject.l0]
    refine ev_pos (by omega) (ev_pos (by omega) (ev_pos (by omega) (ev_bind (impl_ob_ev _ (small_rd hm i hi)) (ev_pos hp ?_))))
    rw[wrap_up (by omega) (show(i:Int)<(l.length:Int) by omega) (by omega)];exact hr
  · intro i hi hp
    refine ev_shift ?_;simp only[impl_Object__impl_ValidObject.l0]
    refine ev_pos (by omega) (ev_pos (by omega) (ev_pos (by omega) (ev_bind (impl_ob_ev _ (small_rd hm i hi)) (ev_neg (fun q=>?_) (ev_some _)))))
    exact absurd (hp.symm.trans q) Bool.false_ne_true
theorem impl_vh_refs (n:Int) (l:List S56) (hl:l.length≤1048576) (hs:riseP l) (hm:smallO l):Ev (fun k=>impl_Object__impl_ValidHeap_1.f k l [⟨n,l⟩]) (allN l.length (refN l)):=by
  simp only[impl_Object__impl_ValidHeap_1.f]
  refine idx_all (g:=fun k i=>impl_Object__impl_ValidHeap_1.l0 k [⟨n,l⟩] l (l.length:Int) i) l.length _ ?_ ?_ ?_
  · refine ev_shift ?_;simp only[impl_Object__impl_ValidHeap_1.l0];exact ev_neg (by omega) (ev_some _)
  · intro i hi hp r hr
    have h:=small_rd hm i hi
    refine ev_shift ?_;simp only[impl_Object__impl_ValidHeap_1.l0]
    refine ev_pos (by omega) (ev_pos (by omega) (ev_pos (by omega) (ev_bind (impl_VH1_ev n l hl hs _ h.1 h.2) (ev_pos hp ?_))))
    rw[wrap_up (by omega) (show(i:Int)<(l.length:Int) by omega) (by omega)];exact hr
  · intro i hi hp
    have h:=small_rd hm i hi
    refine ev_shift ?_;simp only[impl_Object__impl_ValidHeap_1.l0]
    refine ev_pos (by omega) (ev_pos (by omega) (ev_pos (by omega) (ev_bind (impl_VH1_ev n l hl hs _ h.1 h.2) (ev_neg (fun q=>?_) (ev_some _)))))
    exact absurd (hp.symm.trans q) Bool.false_ne_true
theorem obV_id (o:S56) (h:obV o=true):1≤o.f0:=by
  simp only[obV,objV,Bool.and_eq_true,decide_eq_true_eq]at h
  exact h.1.1.1
def lastN (l:List S56) (i:Int):Int:=if i=0 then 0 else(rd_T56 l (i- 1)).f0
theorem impl_ValidHeap_ev (n:Int) (l:List S56) (hl:l.length≤1048576) (hm:smallO l):Ev (fun k=>impl_ValidHeap.f k n l) (heapV n l):=by
  simp only[impl_ValidHeap.f,heapV]
  refine ev_bindc (impl_within_eq _ _ _) ?_
  cases decide (0≤n)&&decide (n≤1000000)with
  |false=>exact ev_neg Bool.false_ne_true (impl_vh_bad n l)
  |true=>
    refine ev_pos rfl ?_
    by_cases c:l.length≤40
    · rw [decide_eq_true c]
      simp only[Bool.true_and]
      refine ev_neg (by omega) (ev_bind (impl_vh_objs l hl hm) ?_)
      have split:allN l.length (okN n l)=(allN l.length (fun i=>obV (rd_T56 l (i:Int)))&&allN l.length (nextV n l)):=allN_and _ _ _
      cases hA:allN l.length (fun i=>obV (rd_T56 l (i:Int)))with
      |false=>rw[split,hA];exact impl_vh_bad n l
      |true=>
        have hid:∀i,i<l.length→1≤idN l i:=fun i hi=>obV_id _ ((allN_iff _ _).1 hA i hi)
        have hlast:∀i:Nat,i<l.length→lastN l ((i:Int)+1)=idN l i:=fun i hi=>by
          unfold lastN idN
          rw[if_neg (by omega),show(i:Int)+1- 1=(i:Int) by omega]
        have e:∀i,i<l.length→(decide (lastN l (i:Int)<idN l i)&&decide (idN l i≤n))=nextV n l i:=by
          intro i hi
          unfold nextV
          by_cases z:i=0
          · subst z
            have:=hid 0 hi
            simp[lastN];omega
          · have := hlast (i - 1) (by omega)
            rw[show((i- 1:Nat):Int)+1=(i:Int) by omega]at this
            rw[this,decide_eq_false z,Bool.false_or,Bool.and_comm]
        refine ev_shift ?_;simp only[impl_ValidHeap.j0]
        refine ev_neg (by decide) ?_
        rw[split,hA,Bool.true_and]
        have hz:(0:Int)=lastN l 0:=rfl
        suffices h:Ev (fun k=>impl_ValidHeap.l0 k (lastN l 0) l (l.length:Int) 0 n l) (allN l.length (fun i=>decide (lastN l (i:Int)<idN l i)&&decide (idN l i≤n))&&allN l.length (refN l)) by
          rw[allN_congr e]at h
          exact h
        refine idx_and_if (g:=fun k i=>impl_ValidHeap.l0 k (lastN l i) l (l.length:Int) i n l) l.length _ _ ?_ ?_ ?_
        · intro hall
          rw[allN_congr e]at hall
          have hs:riseP l:=rise_of n l (by rw[split,hA,hall];rfl)
          refine ev_shift ?_;simp only[impl_ValidHeap.l0]
          exact ev_neg (by omega) (ev_bind (impl_vh_refs n l hl hs hm) (ev_some _))
        · intro i hi hp r hr
          simp only[Bool.and_eq_true,decide_eq_true_eq]at hp
          simp only[idN]at hp
          refine ev_shift ?_;simp only[impl_ValidHeap.l0]
          refine ev_pos (by omega) (ev_pos (by omega) (ev_pos (by omega) (ev_neg (by omega) (ev_neg (by omega) ?_))))
          rw[wrap_up (by omega) (show(i:Int)<(l.length:Int) by omega) (by omega)]
          rw[hlast i hi]at hr
          exact hr
        · intro i hi hp
          refine ev_shift ?_;simp only[impl_ValidHeap.l0]
          refine ev_pos (by omega) (ev_pos (by omega) (ev_pos (by omega) ?_))
          by_cases d:(rd_T56 l (i:Int)).f0≤lastN l (i:Int)
          · exact ev_pos d (ev_some _)
          · refine ev_neg d ?_
            rw[decide_eq_true (show lastN l (i:Int)<idN l i by unfold idN;omega),Bool.true_and,decide_eq_false_iff_not]at hp
            exact ev_pos (by unfold idN at hp;omega) (ev_some _)
    · rw [decide_eq_false c]
      refine ev_pos (by omega) ?_
      simpa using impl_vh_bad n l
theorem rise_heap {n:Int} {l:List S56} (h:heapV n l=true):riseP l:=by
  simp only[heapV,Bool.and_eq_true]at h
  exact rise_of n l h.2.2.1
theorem fit_find {l:List S56} {a b:Int} {c:ByteArray} {d:Int} (h:fitV l a b c d=true) (hr:(decide (4≤a)&&decide (a≤6))=true):0≤findI l d:=by
  unfold fitV at h
  rw[if_pos hr]at h
  simp only[Bool.and_eq_true,decide_eq_true_eq]at h
  exact h.2.1
theorem fitL_one (l:List S56) (x:S29):fitL l [x]=fitV l x.f0 x.f1 x.f2 x.f3:=by simp[fitL]
theorem impl_FitsHeap_ev (n:Int) (l:List S56) (hl:l.length≤1048576) (hm:smallO l) (a b:Int) (c:ByteArray) (d:Int):Ev (fun k=>impl_FitsHeap.f k n l a b c d) (heapV n l&&fitV l a b c d):=by
  simp only[impl_FitsHeap.f]
  refine ev_bind (impl_ValidHeap_ev n l hl hm) ?_
  cases h:heapV n l with
  |false=>exact ev_neg Bool.false_ne_true (ev_some _)
  |true=>exact ev_pos rfl (ev_bind (impl_fits_ev n l hl (rise_heap h) a b c d) (ev_some _))
theorem spec_l09Fit_ev (n:Int) (l:List S56) (hl:l.length≤1048576) (hm:smallO l) (xs:List S29) (hx:xs.length≤1048576):Ev (fun k=>spec_l09Fit.f k [⟨n,l⟩] xs) (heapV n l&&fitL l xs):=by
  simp only[spec_l09Fit.f]
  refine ev_bind (spec_l07Ok_ev ⟨n,l⟩ hl hm) ?_
  dsimp only
  cases heapV n l with
  |false=>exact ev_neg Bool.false_ne_true (ev_some _)
  |true=>exact ev_pos rfl (ev_bind (spec_l07FitAll_ev ⟨n,l⟩ hl xs hx) (ev_some _))
theorem impl_object_ev (n:Int) (l:List S56) (hl:l.length≤1048576) (hs:riseP l) (a b:Int) (c:ByteArray) (d:Int) (hr:(decide (4≤a)&&decide (a≤6))=true):Ev (fun k=>impl_Heap_object.f k n l a b c d) (findI l d):=by
  simp only[impl_Heap_object.f]
  exact ev_bindc (impl_refers_eq _) (ev_pos hr (ev_bind (impl_find_ev n l hl hs d) (ev_some _)))
theorem idx_fold {β : Type} {g : Nat → β → Int → Option β} (n : Nat) (f : β → Nat → β) (h0 : ∀ b, Ev (fun k => g k b (n : Int)) b)
    (h1:∀i,i<n→∀b r,Ev (fun k=>g k (f b i) ((i:Int)+1)) r→Ev (fun k=>g k b (i:Int)) r) (b:β):Ev (fun k=>g k b 0) ((List.range' 0 n).foldl f b):=by
  suffices h:∀d i:Nat,i+d=n→∀b,Ev (fun k=>g k b (i:Int)) ((List.range' i d).foldl f b) from h n 0 (Nat.zero_add _) b
  intro d
  induction d with
  |zero=>
    intro i hi b
    have e:i=n:=by omega
    subst e
    exact h0 b
  |succ d ih=>
    intro i hi b
    rw[List.range'_succ,List.foldl_cons]
    exact h1 i (by omega) b _ (by simpa using ih (i+1) (by omega) (f b i))
theorem wrap_fine (x:Int): -9223372036854775808≤wrap64 x∧wrap64 x≤9223372036854775807:=by unfold wrap64;omega
theorem fold_fine (l:List Nat) (f:Int→Nat→Int) (h:∀b i,-9223372036854775808≤f b i∧f b i≤9223372036854775807) (b:Int) (hb: -9223372036854775808≤b∧b≤9223372036854775807): -9223372036854775808≤l.foldl f b∧l.foldl f b≤9223372036854775807:=by
  induction l generalizing b with
  |nil=>exact hb
  |cons a l ih=>exact ih (f b a) (h b a)
def addN (l:List S56) (b:Int) (i:Nat):Int:=wrap64 (b+wrap64 (((rd_T56 l (i:Int)).f4.length:Int)+((rd_T56 l (i:Int)).f5.length:Int)))
def sumH (l:List S56):Int:=(List.range' 0 l.length).foldl (addN l) 0
theorem sum_fine (l:List S56): -9223372036854775808≤sumH l∧sumH l≤9223372036854775807:=fold_fine _ _ (fun b i=>wrap_fine _) 0 (by omega)
end Go.Proofs.Ytengilknjiobiaa.PureFnExactPairsOf
