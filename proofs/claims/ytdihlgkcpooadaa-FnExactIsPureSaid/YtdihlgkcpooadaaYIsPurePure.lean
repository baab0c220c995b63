/- The program's IsPure returns what the reference's returns: both walk the names that a pattern reaches, ask whether each is known, and look at the kinds of the patterns reached; no condition. -/
import Derived.Test.YtdihlgkcpooadaaYIsPureO
import Derived.Test.YtdihlgkcpooadaaYIsPureVPats
import Derived.Test.YtdihlgkcpooadaaYIsPureVValues
namespace Go.Proofs.Ytdihlgkcpooadaa.Pure
open Go.Proofs.Ytdihlgkcpooadaa.PureFnExactIsPure Go.RowKit Go.Proofs.YtdihlgkcpooadaaG Go.Proofs.Ytdihlgkcpooadaa.PFnExactIsPure Go.Proofs.YtdihlgkcpooadaaW.PrintWords Go.Proofs.YtdihlgkcpooadaaW.PrintLast Go.Proofs.YtdihlgkcpooadaaW.PrintMore
set_option linter.unusedSimpArgs false
set_option linter.unusedVariables false
theorem cut1 (c:UInt8):(⟨#[]⟩:ByteArray)++(⟨#[c]⟩:ByteArray).extract (0:Int).toNat (wrap64 (0+1)).toNat=⟨#[c]⟩:=by
  apply ByteArray.ext;simp[wrap64]
theorem form_one (c:UInt8) (hc:¬((c.toNat:Int)=112)):Ev (fun k=>spec_l11Form.l0 k ⟨#[c]⟩ 0 ⟨#[]⟩ 0) (0,⟨#[c]⟩):=by
  have hs:((⟨#[c]⟩:ByteArray).size:Int)=1:=rfl
  refine ev_shift ?_
  simp only[spec_l11Form.l0]
  have hw:wrap64 (0+1)=1:=by unfold wrap64;omega
  rw[hs,cut1]
  refine ev_pos (by decide) (ev_pos (by decide) (ev_neg hc (ev_pos (by omega) (ev_pos (by omega) (ev_pos ?_ ?_)))))
  · rw[ByteArray.size_extract];show 0+_≤_;rw[hw];simp;omega
  refine ev_shift ?_
  simp only[spec_l11Form.l0]
  rw[hs]
  exact ev_neg (by omega) (ev_some _)
theorem form_none:Ev (fun k=>spec_l11Form.l0 k ⟨#[]⟩ 0 ⟨#[]⟩ 0) (0,⟨#[]⟩):=by
  refine ev_shift ?_
  simp only[spec_l11Form.l0]
  exact ev_neg (by decide) (ev_some _)
def leafForm (op:Int):ByteArray:=if 1≤op∧op≤5 then⟨#[115]⟩else if 6≤op∧op≤10 then⟨#[110]⟩else if op=23∨op=24 then⟨#[120]⟩else⟨#[]⟩
theorem form_leaf (op:Int) (h:(1≤op∧op≤17)∨op=23∨op=24):Ev (fun k=>spec_l11Form.f k op) (0,leafForm op):=by
  simp only[spec_l11Form.f,spec_l11Word.f]
  have hh:op=1∨op=2∨op=3∨op=4∨op=5∨op=6∨op=7∨op=8∨op=9∨op=10∨op=11∨op=12∨op=13∨op=14∨op=15∨op=16∨op=17∨op=23∨op=24:=by omega
  rcases hh with e|e|e|e|e|e|e|e|e|e|e|e|e|e|e|e|e|e|e<;>subst e
  · exact ev_pos rfl (ev_some _)
  all_goals(refine ev_neg (by decide) ?_;first|exact form_one 115 (by decide)|exact form_one 110 (by decide)|exact form_one 120 (by decide)|exact form_none)
theorem z_false {num:Int} (b:Bool) (n0:¬num=0):(num==0&&b)=false:=by rw[beq_false_of_ne n0];rfl
theorem nil_iff (t:ByteArray):(t.toList=([]:List UInt8))=(t.toList.isEmpty=true):=by rw[List.isEmpty_iff]
theorem idx_and2 {g : Nat → Int → Option Bool} (n : Nat) (P : Nat → Bool) (r0 : Bool) (h0 : (∀ i, i < n → P i = true) → Ev (fun k => g k (n : Int)) r0)
    (h1:∀i,i<n→P i=true→∀r,Ev (fun k=>g k ((i:Int)+1)) r→Ev (fun k=>g k (i:Int)) r)
    (h2:∀i,i<n→P i=false→Ev (fun k=>g k (i:Int)) false):Ev (fun k=>g k 0) (allN n P&&r0):=by
  suffices h:∀d i:Nat,i+d=n→(∀j,j<i→P j=true)→Ev (fun k=>g k (i:Int)) ((List.range' i d).all P&&r0) from h n 0 (Nat.zero_add _) (fun j hj=>absurd hj (by omega))
  intro d
  induction d with
  |zero=>
    intro i hi hb
    have e:i=n:=by omega
    subst e
    exact h0 hb
  |succ d ih=>
    intro i hi hb
    rw[List.range'_succ,List.all_cons]
    cases hp:P i with
    |false=>exact h2 i (by omega) hp
    |true=>exact h1 i (by omega) hp _ (by simpa using ih (i+1) (by omega) (fun j hj=>by rcases Nat.lt_succ_iff_lt_or_eq.1 hj with h|h;exact hb j h;rw[h];exact hp))
def kidsN (op:Int):Nat:=if op=18∨op=19 then 2 else if op=20∨op=21∨op=22 then 1 else 0
def argP (op num:Int) (t:ByteArray):Bool:=
  if op=1 then num==0&&decide (t.size≤200)
  else if 2≤op∧op≤5 then num==0&&(decide (t.size≤200)&& !t.toList.isEmpty)
  else if 6≤op∧op≤10 then t.toList.isEmpty&&(decide (0≤num)&&decide (num≤200))
  else if 21≤op∧op≤24 then num==0&&isNameS t
  else if 1≤op∧op≤24 then num==0&&t.toList.isEmpty
  else false
theorem form_p:Ev (fun k=>spec_l11Form.l0 k ⟨#[112]⟩ 0 ⟨#[]⟩ 0) (1,⟨#[]⟩):=by
  have hs:((⟨#[112]⟩:ByteArray).size:Int)=1:=rfl
  have hw:wrap64 (0+1)=1:=by unfold wrap64;omega
  have hb:bt (⟨#[112]⟩:ByteArray) 0=112:=rfl
  refine ev_shift ?_
  simp only[spec_l11Form.l0]
  rw[hs,hw,hb]
  refine ev_pos (by decide) (ev_pos (by decide) (ev_pos rfl (ev_shift ?_)))
  simp only[spec_l11Form.l0]
  rw[hs]
  exact ev_neg (by decide) (ev_some _)
theorem form_pp:Ev (fun k=>spec_l11Form.l0 k ⟨#[112,112]⟩ 0 ⟨#[]⟩ 0) (2,⟨#[]⟩):=by
  have hs:((⟨#[112,112]⟩:ByteArray).size:Int)=2:=rfl
  have hw:wrap64 (0+1)=1:=by unfold wrap64;omega
  have hw2:wrap64 (1+1)=2:=by unfold wrap64;omega
  have hb:bt (⟨#[112,112]⟩:ByteArray) 0=112:=rfl
  have hb2:bt (⟨#[112,112]⟩:ByteArray) 1=112:=rfl
  refine ev_shift ?_
  simp only[spec_l11Form.l0]
  rw[hs,hw,hb]
  refine ev_pos (by decide) (ev_pos (by decide) (ev_pos rfl (ev_shift ?_)))
  simp only[spec_l11Form.l0]
  rw[hs,hw2,hb2]
  refine ev_pos (by decide) (ev_pos (by decide) (ev_pos rfl (ev_shift ?_)))
  simp only[spec_l11Form.l0]
  rw[hs]
  exact ev_neg (by decide) (ev_some _)
theorem cut2:(⟨#[]⟩:ByteArray)++(⟨#[112,120]⟩:ByteArray).extract (1:Int).toNat (2:Int).toNat=⟨#[120]⟩:=by
  apply ByteArray.ext;simp
theorem form_px:Ev (fun k=>spec_l11Form.l0 k ⟨#[112,120]⟩ 0 ⟨#[]⟩ 0) (1,⟨#[120]⟩):=by
  have hs:((⟨#[112,120]⟩:ByteArray).size:Int)=2:=rfl
  have hw:wrap64 (0+1)=1:=by unfold wrap64;omega
  have hw2:wrap64 (1+1)=2:=by unfold wrap64;omega
  have hb:bt (⟨#[112,120]⟩:ByteArray) 0=112:=rfl
  have hb2:bt (⟨#[112,120]⟩:ByteArray) 1=120:=rfl
  refine ev_shift ?_
  simp only[spec_l11Form.l0]
  rw[hs,hw,hb]
  refine ev_pos (by decide) (ev_pos (by decide) (ev_pos rfl (ev_shift ?_)))
  simp only[spec_l11Form.l0]
  rw[hs,hw2,hb2,cut2]
  refine ev_pos (by decide) (ev_pos (by decide) (ev_neg (by decide) (ev_pos (by decide) (ev_pos (by decide) (ev_pos ?_ (ev_shift ?_))))))
  · rw[ByteArray.size_extract];show 0+_≤_;simp;omega
  simp only[spec_l11Form.l0]
  rw[hs]
  exact ev_neg (by decide) (ev_some _)
def restF (op:Int):ByteArray:=if op=21∨op=22 then⟨#[120]⟩else leafForm op
theorem form_all (op:Int) (h:1≤op∧op≤24):Ev (fun k=>spec_l11Form.f k op) ((kidsN op:Int),restF op):=by
  by_cases hl:(1≤op∧op≤17)∨op=23∨op=24
  · have := form_leaf op hl
    rw[show(kidsN op:Int)=0 from by unfold kidsN;rw[if_neg (by omega),if_neg (by omega)];rfl,show restF op=leafForm op from if_neg (by omega)]
    exact this
  · have hh : op = 18 ∨ op = 19 ∨ op = 20 ∨ op = 21 ∨ op = 22 := by omega
    simp only[spec_l11Form.f,spec_l11Word.f]
    rcases hh with e|e|e|e|e<;>subst e<;>refine ev_neg (by decide) ?_
    · exact form_pp
    · exact form_pp
    · exact form_p
    · exact form_px
    · exact form_px
theorem node_ev (op num:Int) (t:ByteArray) (l3:List S36):Ev (fun k=>spec_l11Node.f k op num t l3) (argP op num t&&decide (l3.length=kidsN op)):=by
  simp only[spec_l11Node.f]
  refine ev_bindc (spec_l00In_eq _ _ _) ?_
  by_cases hr:1≤op∧op≤24
  · refine ev_pos (by simpa using hr) (ev_bind (form_all op hr) ?_)
    by_cases hk:l3.length=kidsN op
    · rw [decide_eq_true hk, Bool.and_true]
      refine ev_pos (by simp only;omega) ?_
      simp only[nil_iff]
      have e1:((⟨#[115]⟩:ByteArray).toList=([115]:List UInt8)):=by rw[Go.ByteArray.toList_eq]
      have e2:((⟨#[110]⟩:ByteArray).toList=([110]:List UInt8)):=by rw[Go.ByteArray.toList_eq]
      have e3:((⟨#[120]⟩:ByteArray).toList=([120]:List UInt8)):=by rw[Go.ByteArray.toList_eq]
      have e4:((⟨#[]⟩:ByteArray).toList=([]:List UInt8)):=by rw[Go.ByteArray.toList_eq]
      by_cases c1:1≤op∧op≤5
      · rw [show restF op = ⟨#[115]⟩ from (if_neg (by omega)).trans (if_pos c1)]
        refine ev_pos e1 ?_
        by_cases c:op=1
        · have hv : argP op num t = (num == 0 && decide (t.size ≤ 200)) := if_pos c
          rw[hv]
          by_cases n0:num=0
          · by_cases s0 : t.size ≤ 200
            · refine ev_pos n0 (ev_pos (by omega) (ev_pos c ?_));simpa[n0,s0]using ev_some true
            · refine ev_pos n0 (ev_neg (by omega) ?_);simpa[n0,s0]using ev_some false
          · refine ev_neg n0 ?_;rw[z_false _ n0];exact ev_some false
        · have hv:argP op num t=(num==0&&(decide (t.size≤200)&& !t.toList.isEmpty)):=by
            unfold argP;rw[if_neg c,if_pos (by omega)]
          rw[hv]
          by_cases n0:num=0
          · by_cases s0 : t.size ≤ 200
            · refine ev_pos n0 (ev_pos (by omega) (ev_neg c ?_));simpa[n0,s0]using ev_some _
            · refine ev_pos n0 (ev_neg (by omega) ?_);simpa[n0,s0]using ev_some false
          · refine ev_neg n0 ?_;rw[z_false _ n0];exact ev_some false
      by_cases c2:6≤op∧op≤10
      · rw [show restF op = ⟨#[110]⟩ from (if_neg (by omega)).trans ((if_neg c1).trans (if_pos c2))]
        refine ev_neg (by rw[e2];decide) (ev_pos e2 ?_)
        have hv:argP op num t=(t.toList.isEmpty&&(decide (0≤num)&&decide (num≤200))):=by
          unfold argP;rw[if_neg (by omega),if_neg (by omega),if_pos c2]
        rw[hv]
        cases t.toList.isEmpty with
        |true=>exact ev_pos rfl (ev_bindc (spec_l00In_eq _ _ _) (by simpa using ev_some _))
        |false=>exact ev_neg (by decide) (by simpa using ev_some false)
      by_cases c3:21≤op∧op≤24
      · have hx:restF op=⟨#[120]⟩:=by
          unfold restF leafForm
          by_cases c:op=21∨op=22
          · exact if_pos c
          · rw[if_neg c,if_neg c1,if_neg c2,if_pos (by omega)]
        rw[hx]
        refine ev_neg (by rw[e3];decide) (ev_neg (by rw[e3];decide) (ev_pos e3 ?_))
        have hv:argP op num t=(num==0&&isNameS t):=by
          unfold argP;rw[if_neg (by omega),if_neg (by omega),if_neg (by omega),if_pos c3]
        rw[hv]
        by_cases n0:num=0
        · exact ev_pos n0 (ev_bind (spec_IsName_ev t) (by simpa[n0]using ev_some _))
        · exact ev_neg n0 (by rw[z_false _ n0];exact ev_some false)
      · have hx:restF op=⟨#[]⟩:=by
          unfold restF leafForm
          rw[if_neg (by omega),if_neg c1,if_neg c2,if_neg (by omega)]
        rw[hx]
        refine ev_neg (by rw[e4];decide) (ev_neg (by rw[e4];decide) (ev_neg (by rw[e4];decide) ?_))
        have hv:argP op num t=(num==0&&t.toList.isEmpty):=by
          unfold argP;rw[if_neg (by omega),if_neg (by omega),if_neg (by omega),if_neg c3,if_pos hr]
        rw[hv]
        by_cases n0:num=0
        · exact ev_pos n0 (by simpa[n0]using ev_some _)
        · exact ev_neg n0 (by rw[z_false _ n0];exact ev_some false)
    · rw [decide_eq_false hk, Bool.and_false]
      exact ev_neg (by simp only;omega) (ev_some _)
  · have hv:argP op num t=false:=by
      unfold argP;rw[if_neg (by omega),if_neg (by omega),if_neg (by omega),if_neg (by omega),if_neg hr]
    rw[hv,Bool.false_and]
    exact ev_neg (by simpa using hr) (ev_some _)
theorem isArgument_ev (op num:Int) (t:ByteArray):Ev (fun k=>impl_isArgument.f k op num t) (argP op num t):=by
  simp only[impl_isArgument.f,impl_isShort.f,impl_hasSet.f,impl_hasNumber.f,impl_hasName.f,impl_isPatternKind.f,impl_within_eq,Option.bind_some,nil_iff]
  have hq:((t.size:Int)≤200)=(t.size≤200):=by rw[eq_iff_iff];omega
  simp only[hq]
  by_cases c:op=1
  · rw [show argP op num t = (num == 0 && decide (t.size ≤ 200)) from if_pos c]
    refine ev_pos c ?_
    by_cases n0:num=0
    · exact ev_pos n0 (by simpa[n0]using ev_some _)
    · exact ev_neg n0 (by rw[z_false _ n0];exact ev_some false)
  refine ev_neg c ?_
  by_cases c1:2≤op∧op≤5
  · have hv:argP op num t=(num==0&&(decide (t.size≤200)&& !t.toList.isEmpty)):=by
      unfold argP;rw[if_neg c,if_pos (by omega)]
    rw[hv]
    refine ev_pos (by simpa using c1) ?_
    by_cases n0:num=0
    · refine ev_pos n0 ?_
      cases t.toList.isEmpty with
      |true=>exact ev_pos rfl (by simpa using ev_some false)
      |false=>exact ev_neg (by decide) (by simpa[n0]using ev_some _)
    · exact ev_neg n0 (by rw[z_false _ n0];exact ev_some false)
  refine ev_neg (by simpa using c1) ?_
  by_cases c2:6≤op∧op≤10
  · have hv:argP op num t=(t.toList.isEmpty&&(decide (0≤num)&&decide (num≤200))):=by
      unfold argP;rw[if_neg (by omega),if_neg (by omega),if_pos c2]
    rw[hv]
    refine ev_pos (by simpa using c2) ?_
    cases t.toList.isEmpty with
    |true=>exact ev_pos rfl (by simpa using ev_some _)
    |false=>exact ev_neg (by decide) (by simpa using ev_some false)
  refine ev_neg (by simpa using c2) ?_
  by_cases c3:21≤op∧op≤24
  · have hv:argP op num t=(num==0&&isNameS t):=by
      unfold argP;rw[if_neg (by omega),if_neg (by omega),if_neg (by omega),if_pos c3]
    rw[hv]
    refine ev_pos (by simpa using c3) ?_
    by_cases n0:num=0
    · exact ev_pos n0 (ev_bind (impl_IsName_ev t) (by simpa[n0]using ev_some _))
    · exact ev_neg n0 (by rw[z_false _ n0];exact ev_some false)
  refine ev_neg (by simpa using c3) ?_
  by_cases c4:1≤op∧op≤24
  · have hv:argP op num t=(num==0&&t.toList.isEmpty):=by
      unfold argP;rw[if_neg (by omega),if_neg (by omega),if_neg (by omega),if_neg c3,if_pos c4]
    rw[hv]
    refine ev_pos (by simpa using c4) ?_
    by_cases n0:num=0
    · exact ev_pos n0 (by simpa[n0]using ev_some _)
    · exact ev_neg n0 (by rw[z_false _ n0];exact ev_some false)
  · have hv:argP op num t=false:=by
      unfold argP;rw[if_neg (by omega),if_neg (by omega),if_neg (by omega),if_neg c3,if_neg c4]
    rw[hv];exact ev_neg (by simpa using c4) (ev_some _)
theorem kidsOf_ev (op:Int):Ev (fun k=>impl_kidsOf.f k op) (kidsN op:Int):=by
  refine⟨1,fun k hk=>?_⟩
  obtain⟨k,rfl⟩:∃m,k=m+1:=⟨k- 1,by omega⟩
  simp only[impl_kidsOf.f,impl_kidsOf.j0,kidsN]
  by_cases h1:op=18
  · subst h1;rfl
  by_cases h2:op=19
  · subst h2;rfl
  by_cases h3:op=20
  · subst h3;rfl
  by_cases h4:op=21
  · subst h4;rfl
  by_cases h5:op=22
  · subst h5;rfl
  rw[if_neg h1,if_neg (by simpa using h2),if_neg h3,if_neg h4,if_neg h5,if_neg (by omega),if_neg (by omega)];rfl
theorem rd36 (l:List S36) (i:Nat) (h:i<l.length):rd_T36 l (i:Int)=l[i]:=by
  unfold rd_T36;exact getD_get _ _ _ h
def okN : Nat → S36 → Prop
  |0,_=>False
  |n+1,p=>p.f3.length=kidsN p.f0∧argP p.f0 p.f1 p.f2=true∧∀y,y∈p.f3→okN n y
def nodesN : Nat → S36 → Nat
  |0,_=>0
  |n+1,p=>1+(p.f3.map (nodesN n)).sum
def Same (c v u:Int) (P:Prop):Prop:=(v= -1∧u=61)∨(1≤v∧u=c+v∧u≤60∧P)
theorem count_loop (n : Nat) (ih : ∀ (p : S36), smV n p → ∀ c : Int, 0 ≤ c → c ≤ 60 → ∃ v u, Ev (fun k => spec_l11Valid.f k p.f0 p.f1 p.f2 p.f3 (60 - c)) v ∧ Ev (fun k => impl_countPattern.f k p.f0 p.f1 p.f2 p.f3 c) u ∧ Same c v u (okN n p ∧ (nodesN n p : Int) = v))
    (l:List S36) (hl:l.length≤1048576) (h:∀y,y∈l→smV n y) (c:Int) (h0:0≤c) (f0 f1:Int) (f2:ByteArray):∀d i:Nat,i+d=l.length→∀m:Int,1≤m→c+m≤60→
    ∃v u,Ev (fun k=>spec_l11Valid.l0 k (60-c) m (i:Int) f0 f1 f2 l) v∧Ev (fun k=>impl_countPattern.l0 k (c+m) l (l.length:Int) (i:Int)) u∧Same c v u ((∀y,y∈l.drop i→okN n y)∧(((l.drop i).map (nodesN n)).sum:Nat)=v-m):=by
  intro d
  induction d with
  |zero=>
    intro i hi m hm hm1
    refine⟨m,c+m,ev_shift ?_,ev_shift ?_,Or.inr ⟨hm,rfl,hm1,(fun y hy=>by rw[List.drop_of_length_le (by omega)]at hy;cases hy),by rw[List.drop_of_length_le (by omega)];simp⟩⟩
    · simp only[spec_l11Valid.l0];exact ev_neg (by omega) (ev_some _)
    · simp only[impl_countPattern.l0];exact ev_neg (by omega) (ev_some _)
  |succ d ihd=>
    intro i hi m hm hm1
    have hlt:i<l.length:=by omega
    have hw:wrap64 ((i:Int)+1)=((i+1:Nat):Int):=by rw[wrap_up (by omega) (show(i:Int)<(l.length:Int) by omega) (by omega)];omega
    have hw2:wrap64 (60-c-m)=60-(c+m):=by rw[wrap_id (by omega) (by omega)];omega
    obtain⟨v,u,h1,h2,hs⟩:=ih l[i] (h _ (List.getElem_mem hlt)) (c+m) (by omega) hm1
    rcases hs with⟨hv,hu⟩|⟨hv,hu,hu2,hok,hnd⟩
    · refine ⟨-1, 61, ev_shift ?_, ev_shift ?_, Or.inl ⟨rfl, rfl⟩⟩
      · simp only [spec_l11Valid.l0]
        rw[rd36 l i hlt,hw2]
        exact ev_pos (by omega) (ev_pos (by omega) (ev_bind h1 (ev_pos (by omega) (ev_some _))))
      · simp only [impl_countPattern.l0]
        rw[rd36 l i hlt]
        refine ev_pos (by omega) (ev_pos (by omega) (ev_pos (by omega) (ev_bind h2 (ev_pos (by omega) ?_))))
        rw[hu];exact ev_some _
    · obtain ⟨v', u', k1, k2, ks⟩ := ihd (i + 1) (by omega) (m + v) (by omega) (by omega)
      refine⟨v',u',ev_shift ?_,ev_shift ?_,ks.imp id (fun h=>⟨h.1,h.2.1,h.2.2.1,(fun y hy=>by rw[List.drop_eq_getElem_cons hlt]at hy;rcases List.mem_cons.1 hy with e|e;exact e▸hok;exact h.2.2.2.1 y e),by rw[List.drop_eq_getElem_cons hlt,List.map_cons,List.sum_cons];have:=h.2.2.2.2;omega⟩)⟩
      · simp only [spec_l11Valid.l0]
        rw[rd36 l i hlt,hw2,hw]
        refine ev_pos (by omega) (ev_pos (by omega) (ev_bind h1 (ev_neg (by omega) ?_)))
        rw[wrap_id (by omega) (by omega)];exact k1
      · simp only [impl_countPattern.l0]
        rw[rd36 l i hlt,hw]
        refine ev_pos (by omega) (ev_pos (by omega) (ev_pos (by omega) (ev_bind h2 (ev_neg (by omega) ?_))))
        rw[hu,Int.add_assoc];exact k2
theorem count_lock:∀(n:Nat) (p:S36),smV n p→∀c:Int,0≤c→c≤60→∃v u,Ev (fun k=>spec_l11Valid.f k p.f0 p.f1 p.f2 p.f3 (60-c)) v∧Ev (fun k=>impl_countPattern.f k p.f0 p.f1 p.f2 p.f3 c) u∧Same c v u (okN n p∧(nodesN n p:Int)=v):=by
  intro n
  induction n with
  |zero=>exact fun p h=>False.elim h
  |succ n ih=>
    intro p h c h0 h1
    have hl:=h.2.1
    have badS:∀x:Int,Ev (fun k=>spec_l11Valid.j0 k x true p.f0 p.f1 p.f2 p.f3) (-1):=fun x=>by
      refine ev_shift ?_;simp only[spec_l11Valid.j0];exact ev_pos trivial (ev_some _)
    have badI:∀x:Int,Ev (fun k=>impl_countPattern.j0 k x true p.f0 p.f1 p.f2 p.f3) 61:=fun x=>by
      refine ev_shift ?_;simp only[impl_countPattern.j0];exact ev_pos trivial (ev_some _)
    have hw:wrap64 (c+1)=c+1:=wrap_id (by omega) (by omega)
    by_cases hc:c=60
    · refine ⟨-1, 61, ev_shift ?_, ev_shift ?_, Or.inl ⟨rfl, rfl⟩⟩
      · simp only[spec_l11Valid.f];exact ev_pos (by omega) (badS _)
      · simp only[impl_countPattern.f];rw[hw];exact ev_pos (by omega) (badI _)
    · cases ha : argP p.f0 p.f1 p.f2 with
      |false=>
        refine⟨-1,61,ev_shift ?_,ev_shift ?_,Or.inl ⟨rfl,rfl⟩⟩
        · simp only [spec_l11Valid.f]
          refine ev_neg (by omega) (ev_bind (node_ev _ _ _ _) ?_)
          rw[ha];exact badS _
        · simp only [impl_countPattern.f]; rw [hw]
          exact ev_neg (by omega) (ev_bind (isArgument_ev _ _ _) (ev_neg (by rw[ha];decide) (badI _)))
      |true=>
        by_cases hk:p.f3.length=kidsN p.f0
        · obtain ⟨v, u, k1, k2, ks⟩ := count_loop n ih p.f3 hl h.2.2 c h0 p.f0 p.f1 p.f2 p.f3.length 0 (by omega) 1 (by omega) (by omega)
          refine⟨v,u,ev_shift ?_,ev_shift ?_,ks.imp id (fun hh=>⟨hh.1,hh.2.1,hh.2.2.1,⟨hk,ha,fun y hy=>hh.2.2.2.1 y (by simpa using hy)⟩,by have h9:=hh.2.2.2.2;rw[List.drop_zero]at h9;show((1+(p.f3.map (nodesN n)).sum:Nat):Int)=v;omega⟩)⟩
          · simp only [spec_l11Valid.f]
            refine ev_neg (by omega) (ev_bind (node_ev _ _ _ _) ?_)
            rw[ha,decide_eq_true hk]
            refine ev_shift ?_;simp only[spec_l11Valid.j0]
            exact ev_neg (by decide) k1
          · simp only [impl_countPattern.f]; rw [hw]
            refine ev_neg (by omega) (ev_bind (isArgument_ev _ _ _) (ev_pos ha (ev_bind (kidsOf_ev _) ?_)))
            rw[show((p.f3.length:Int) !=(kidsN p.f0:Int))=false from by rw[hk];simp]
            refine ev_shift ?_;simp only[impl_countPattern.j0]
            exact ev_neg (by decide) k2
        · refine ⟨-1, 61, ev_shift ?_, ev_shift ?_, Or.inl ⟨rfl, rfl⟩⟩
          · simp only [spec_l11Valid.f]
            refine ev_neg (by omega) (ev_bind (node_ev _ _ _ _) ?_)
            rw[ha,decide_eq_false hk];exact badS _
          · simp only [impl_countPattern.f]; rw [hw]
            refine ev_neg (by omega) (ev_bind (isArgument_ev _ _ _) (ev_pos ha (ev_bind (kidsOf_ev _) ?_)))
            rw[show((p.f3.length:Int) !=(kidsN p.f0:Int))=true from by simp;omega];exact badI _
theorem validPattern_ev (n:Nat) (p:S36) (h:smV n p):∃b,Ev (fun k=>spec_ValidPattern.f k p.f0 p.f1 p.f2 p.f3) b∧Ev (fun k=>impl_ValidPattern.f k p.f0 p.f1 p.f2 p.f3) b∧(b=true→okN n p∧nodesN n p≤60):=by
  obtain⟨v,u,h1,h2,hs⟩:=count_lock n p h 0 (by omega) (by omega)
  refine⟨decide (v>0),?_,?_,fun hb=>by have:=of_decide_eq_true hb;unfold Same at hs;rcases hs with hs|hs;omega;exact⟨hs.2.2.2.1,by have:=hs.2.2.2.2;omega⟩⟩
  · simp only[spec_ValidPattern.f];exact ev_bind h1 (ev_some _)
  · simp only [impl_ValidPattern.f]
    refine ev_bind h2 ?_
    rw[show decide (v>0)=decide (u≤60) from by rw[Bool.eq_iff_iff];unfold Same at hs;simp;omega]
    exact ev_some _
def sameE (E:List S52) (j i:Nat):Bool:=decide ((rd_T52 E (j:Int)).f0.toList=(rd_T52 E (i:Int)).f0.toList)
def newE (E:List S52) (i:Nat):Bool:=allN i (fun j=> !sameE E j i)
theorem rd52 (E:List S52) (i:Nat) (h:i<E.length):rd_T52 E (i:Int)=E[i]:=by
  unfold rd_T52;exact getD_get _ _ _ h
theorem take52 (E:List S52) (i j:Nat) (hj:j<i) (hi:i≤E.length):rd_T52 (E.take i) (j:Int)=rd_T52 E (j:Int):=by
  rw[rd52 _ _ (by rw[List.length_take];omega),rd52 _ _ (by omega),List.getElem_take]
theorem dup_ev (E:List S52) (hm:E.length≤1048576) (i:Nat) (hi:i<E.length):∃r,Ev (fun k=>impl_lookup.f k (E.take i) (rd_T52 E (i:Int)).f0) r∧r.2.2.2.2= !newE E i:=by
  simp only[impl_lookup.f,impl_Named__impl_lookup_1.f]
  have hl:(E.take i).length=i:=by rw[List.length_take];omega
  rw[hl]
  have hp:∀j:Nat,j<i→impl_lookup_1.f (rd_T52 (E.take i) (j:Int)).f0 (rd_T52 (E.take i) (j:Int)).f1.f0 (rd_T52 (E.take i) (j:Int)).f1.f1 (rd_T52 (E.take i) (j:Int)).f1.f2 (rd_T52 (E.take i) (j:Int)).f1.f3 [(rd_T52 E (i:Int)).f0]=some (sameE E j i):=by
    intro j hj
    simp only[impl_lookup_1.f]
    rw[if_pos (by simp),take52 E i j hj (by omega)]
    congr 1
    rw[Bool.eq_iff_iff];simp[sameE];rfl
  obtain ⟨v, hv, hh⟩ := idx_find (g := fun k j => impl_Named__impl_lookup_1.l0 k (E.take i) [(rd_T52 E (i : Int)).f0] (i : Int) j) i (fun j => sameE E j i)
    (by refine ev_shift ?_;simp only[impl_Named__impl_lookup_1.l0];exact ev_neg (by omega) (ev_some _))
    (by
      intro j hj hq r hr
      refine ev_shift ?_;simp only[impl_Named__impl_lookup_1.l0]
      rw[hl,hp j hj,hq,wrap_up (by omega) (show(j:Int)<(E.length:Int) by omega) (by omega)]
      exact ev_pos (by omega) (ev_pos (by omega) (ev_pos (by omega) (ev_bindc rfl (ev_neg (by decide) hr)))))
    (by
      intro j hj hq
      refine ev_shift ?_;simp only[impl_Named__impl_lookup_1.l0]
      rw[hl,hp j hj,hq]
      exact ev_pos (by omega) (ev_pos (by omega) (ev_pos (by omega) (ev_bindc rfl (ev_pos rfl (ev_some _))))))
  rcases hh with⟨h1,h2⟩|⟨j,h1,h2,h3,_⟩
  · refine ⟨_, ev_bind hv (ev_pos (by omega) (ev_some _)), ?_⟩
    have:newE E i=true:=(allN_iff _ _).2 (fun j hj=>by rw[h2 j hj];rfl)
    rw[this];rfl
  · refine ⟨_, ev_bind hv (ev_neg (by omega) (ev_pos (by omega) (ev_pos (by omega) (ev_some _)))), ?_⟩
    have:newE E i=false:=by
      rw[Bool.eq_false_iff];intro h
      have:=(allN_iff _ _).1 h j h2
      simp[h3]at this
    rw[this];rfl
theorem validEnv_ev (n:Nat) (E:List S52) (h:smE n E):∃b,Ev (fun k=>spec_ValidEnv.f k E) b∧Ev (fun k=>impl_ValidEnv.f k E) b∧(b=true→E.length≤40∧∀i:Nat,i<E.length→(okN n (rd_T52 E (i:Int)).f1∧nodesN n (rd_T52 E (i:Int)).f1≤60)∧newE E i=true):=by
  have hm:=h.1
  have hpt:∀i:Nat,i<E.length→∃b,Ev (fun k=>spec_ValidPattern.f k (rd_T52 E (i:Int)).f1.f0 (rd_T52 E (i:Int)).f1.f1 (rd_T52 E (i:Int)).f1.f2 (rd_T52 E (i:Int)).f1.f3) b∧Ev (fun k=>impl_ValidPattern.f k (rd_T52 E (i:Int)).f1.f0 (rd_T52 E (i:Int)).f1.f1 (rd_T52 E (i:Int)).f1.f2 (rd_T52 E (i:Int)).f1.f3) b∧(b=true→okN n (rd_T52 E (i:Int)).f1∧nodesN n (rd_T52 E (i:Int)).f1≤60):=by
    intro i hi
    exact validPattern_ev n _ (by rw[rd52 E i hi];exact(h.2 _ (List.getElem_mem hi)).2)
  have hpt2:∀i:Nat,∃b,i<E.length→Ev (fun k=>spec_ValidPattern.f k (rd_T52 E (i:Int)).f1.f0 (rd_T52 E (i:Int)).f1.f1 (rd_T52 E (i:Int)).f1.f2 (rd_T52 E (i:Int)).f1.f3) b∧Ev (fun k=>impl_ValidPattern.f k (rd_T52 E (i:Int)).f1.f0 (rd_T52 E (i:Int)).f1.f1 (rd_T52 E (i:Int)).f1.f2 (rd_T52 E (i:Int)).f1.f3) b∧(b=true→okN n (rd_T52 E (i:Int)).f1∧nodesN n (rd_T52 E (i:Int)).f1≤60):=by
    intro i
    by_cases hi:i<E.length
    · obtain⟨b,hb⟩:=hpt i hi;exact⟨b,fun _=>hb⟩
    · exact⟨true,fun h=>absurd h hi⟩
  obtain⟨VP,hVP⟩:=Classical.axiomOfChoice hpt2
  by_cases h40:E.length≤40
  · refine ⟨allN E.length (fun i => (isNameS (rd_T52 E (i : Int)).f0 && VP i) && newE E i), ?_, ?_, fun hb => ⟨h40, fun i hi => by have := (allN_iff _ _).1 hb i hi; rw [Bool.and_eq_true, Bool.and_eq_true] at this; exact ⟨(hVP i hi).2.2 this.1.2, this.2⟩⟩⟩
    · simp only [spec_ValidEnv.f]
      refine ev_neg (by omega) ?_
      have inner:∀i:Nat,i<E.length→∀r,(newE E i=true→Ev (fun k=>spec_ValidEnv.l0 k E ((i:Int)+1)) r)→Ev (fun k=>spec_ValidEnv.l1 k E (i:Int) 0) (newE E i&&r):=by
        intro i hi r hr
        refine idx_and2 (g:=fun k j=>spec_ValidEnv.l1 k E (i:Int) j) i (fun j=> !sameE E j i) r ?_ ?_ ?_
        · intro hx
          refine ev_shift ?_;simp only[spec_ValidEnv.l1]
          rw[wrap_up (by omega) (show(i:Int)<(E.length:Int) by omega) (by omega)]
          exact ev_neg (by omega) (hr ((allN_iff _ _).2 hx))
        · intro j hj hp r' hr'
          refine ev_shift ?_;simp only[spec_ValidEnv.l1]
          rw[wrap_up (by omega) (show(j:Int)<(E.length:Int) by omega) (by omega)]
          exact ev_pos (by omega) (ev_pos (by omega) (ev_pos (by omega) (ev_pos (by omega) (ev_pos (by omega) (ev_neg (by simpa[sameE]using hp) hr')))))
        · intro j hj hp
          refine ev_shift ?_;simp only[spec_ValidEnv.l1]
          exact ev_pos (by omega) (ev_pos (by omega) (ev_pos (by omega) (ev_pos (by omega) (ev_pos (by omega) (ev_pos (by simpa[sameE]using hp) (ev_some _))))))
      have bad:∀i:Nat,Ev (fun k=>spec_ValidEnv.j1 k E (i:Int) true) false:=fun i=>by
        refine ev_shift ?_;simp only[spec_ValidEnv.j1];exact ev_pos trivial (ev_some _)
      refine idx_all (g:=fun k i=>spec_ValidEnv.l0 k E i) E.length _ ?_ ?_ ?_
      · refine ev_shift ?_;simp only[spec_ValidEnv.l0];exact ev_neg (by omega) (ev_some _)
      · intro i hi hp r hr
        rw[Bool.and_eq_true,Bool.and_eq_true]at hp
        refine ev_shift ?_;simp only[spec_ValidEnv.l0]
        refine ev_pos (by omega) (ev_pos (by omega) (ev_bind (spec_IsName_ev _) (ev_pos hp.1.1 (ev_bind (hVP i hi).1 ?_))))
        rw[hp.1.2]
        refine ev_shift ?_;simp only[spec_ValidEnv.j1]
        refine ev_neg (by decide) ?_
        have:=inner i hi r (fun _=>hr)
        rw[hp.2,Bool.true_and]at this;exact this
      · intro i hi hp
        refine ev_shift ?_;simp only[spec_ValidEnv.l0]
        refine ev_pos (by omega) (ev_pos (by omega) (ev_bind (spec_IsName_ev _) ?_))
        cases hN:isNameS (rd_T52 E (i:Int)).f0 with
        |false=>exact ev_neg (by decide) (bad i)
        |true=>
          refine ev_pos rfl (ev_bind (hVP i hi).1 ?_)
          cases hV:VP i with
          |false=>exact bad i
          |true=>
            rw[hN,hV]at hp
            refine ev_shift ?_;simp only[spec_ValidEnv.j1]
            refine ev_neg (by decide) ?_
            have:=inner i hi false (fun hx=>by rw[hx]at hp;cases hp)
            rw[Bool.and_false]at this;exact this
    · rw [allN_and E.length (fun i => isNameS (rd_T52 E (i : Int)).f0 && VP i) (newE E)]
      simp only[impl_ValidEnv.f]
      refine ev_neg (by omega) ?_
      have hall:Ev (fun k=>impl_Named__impl_ValidEnv_1.f k E) (allN E.length (fun i=>isNameS (rd_T52 E (i:Int)).f0&&VP i)):=by
        simp only[impl_Named__impl_ValidEnv_1.f]
        have one:∀i:Nat,i<E.length→Ev (fun k=>impl_ValidEnv_1.f k (rd_T52 E (i:Int)).f0 (rd_T52 E (i:Int)).f1.f0 (rd_T52 E (i:Int)).f1.f1 (rd_T52 E (i:Int)).f1.f2 (rd_T52 E (i:Int)).f1.f3) (isNameS (rd_T52 E (i:Int)).f0&&VP i):=by
          intro i hi
          simp only[impl_ValidEnv_1.f]
          refine ev_bind (impl_IsName_ev _) ?_
          cases hN:isNameS (rd_T52 E (i:Int)).f0 with
          |false=>exact ev_neg (by decide) (ev_some _)
          |true=>exact ev_pos rfl (ev_bind (hVP i hi).2.1 (by simpa using ev_some _))
        refine idx_all (g:=fun k i=>impl_Named__impl_ValidEnv_1.l0 k E (E.length:Int) i) E.length _ ?_ ?_ ?_
        · refine ev_shift ?_;simp only[impl_Named__impl_ValidEnv_1.l0];exact ev_neg (by omega) (ev_some _)
        · intro i hi hp r hr
          refine ev_shift ?_;simp only[impl_Named__impl_ValidEnv_1.l0]
          rw[wrap_up (by omega) (show(i:Int)<(E.length:Int) by omega) (by omega)]
          exact ev_pos (by omega) (ev_pos (by omega) (ev_pos (by omega) (ev_bind (one i hi) (ev_pos hp hr))))
        · intro i hi hp
          refine ev_shift ?_;simp only[impl_Named__impl_ValidEnv_1.l0]
          exact ev_pos (by omega) (ev_pos (by omega) (ev_pos (by omega) (ev_bind (one i hi) (ev_neg (by rw[hp];decide) (ev_some _)))))
      refine ev_bind hall ?_
      cases hA:allN E.length (fun i=>isNameS (rd_T52 E (i:Int)).f0&&VP i)with
      |false=>refine ev_shift ?_;simp only[impl_ValidEnv.j0];exact ev_pos rfl (ev_some _)
      |true=>
        refine ev_shift ?_;simp only[impl_ValidEnv.j0]
        refine ev_neg (by decide) ?_
        rw[Bool.true_and]
        refine idx_all (g:=fun k i=>impl_ValidEnv.l0 k E E (E.length:Int) i) E.length (newE E) ?_ ?_ ?_
        · refine ev_shift ?_;simp only[impl_ValidEnv.l0];exact ev_neg (by omega) (ev_some _)
        · intro i hi hp r hr
          obtain⟨q,h1,h2⟩:=dup_ev E hm i hi
          rw[hp]at h2
          refine ev_shift ?_;simp only[impl_ValidEnv.l0]
          rw[wrap_up (by omega) (show(i:Int)<(E.length:Int) by omega) (by omega),Int.toNat_natCast]
          exact ev_pos (by omega) (ev_pos (by omega) (ev_pos (by omega) (ev_pos (by omega) (ev_bind h1 (ev_neg (by rw[h2];decide) hr)))))
        · intro i hi hp
          obtain⟨q,h1,h2⟩:=dup_ev E hm i hi
          rw[hp]at h2
          refine ev_shift ?_;simp only[impl_ValidEnv.l0]
          rw[Int.toNat_natCast]
          exact ev_pos (by omega) (ev_pos (by omega) (ev_pos (by omega) (ev_pos (by omega) (ev_bind h1 (ev_pos h2 (ev_some _))))))
  · refine ⟨false, ?_, ?_, fun hb => by cases hb⟩
    · simp only[spec_ValidEnv.f];exact ev_pos (by omega) (ev_some _)
    · simp only [impl_ValidEnv.f]
      refine ev_pos (by omega) (ev_shift ?_)
      simp only[impl_ValidEnv.j0];exact ev_pos trivial (ev_some _)
def clN : Nat → S36 → Bool
  |0,_=>true
  |n+1,p=> !(decide (p.f0=14∨p.f0=15∨p.f0=17∨p.f0=22∨p.f0=23))&&p.f3.all (clN n)
theorem ev_kind {f:Nat→Option Bool} {a:Int} {b:Bool} (h:Ev f b):Ev (fun k=>if a=14 then(some false)else(if a=15 then(some false)else(if a=17 then(some false)else(if a=22 then(some false)else(if a=23 then(some false)else(f k)))))) (!(decide (a=14∨a=15∨a=17∨a=22∨a=23))&&b):=by
  by_cases c:a=14∨a=15∨a=17∨a=22∨a=23
  · rw [decide_eq_true c]
    by_cases c1:a=14
    · exact ev_pos c1 (ev_some false)
    by_cases c2:a=15
    · exact ev_neg c1 (ev_pos c2 (ev_some false))
    by_cases c3:a=17
    · exact ev_neg c1 (ev_neg c2 (ev_pos c3 (ev_some false)))
    by_cases c4:a=22
    · exact ev_neg c1 (ev_neg c2 (ev_neg c3 (ev_pos c4 (ev_some false))))
    · exact ev_neg c1 (ev_neg c2 (ev_neg c3 (ev_neg c4 (ev_pos (by omega) (ev_some false)))))
  · rw [decide_eq_false c]
    exact ev_neg (by omega) (ev_neg (by omega) (ev_neg (by omega) (ev_neg (by omega) (ev_neg (by omega) (by simpa using h)))))
theorem all_idx (l:List S36) (P:S36→Bool):l.all P=allN l.length (fun i=>P (rd_T36 l (i:Int))):=by
  rw[Bool.eq_iff_iff,allN_iff,List.all_eq_true]
  constructor
  · intro h i hi;rw[rd36 l i hi];exact h _ (List.getElem_mem hi)
  · intro h x hx
    obtain⟨i,hi,rfl⟩:=List.getElem_of_mem hx
    have:=h i hi;rw[rd36 l i hi]at this;exact this
theorem spec_clean:∀(n:Nat) (p:S36),smV n p→Ev (fun k=>spec_l15Clean.f k p.f0 p.f1 p.f2 p.f3) (clN n p):=by
  intro n
  induction n with
  |zero=>exact fun p h=>False.elim h
  |succ n ih=>
    intro p h
    have hl:=h.2.1
    refine ev_shift ?_;simp only[spec_l15Clean.f,clN]
    refine ev_kind ?_
    rw[all_idx]
    refine idx_all (g:=fun k i=>spec_l15Clean.l0 k i p.f0 p.f1 p.f2 p.f3) p.f3.length _ ?_ ?_ ?_
    · refine ev_shift ?_;simp only[spec_l15Clean.l0];exact ev_neg (by omega) (ev_some _)
    · intro i hi hp r hr
      have hh:=ih (rd_T36 p.f3 (i:Int)) (h.2.2 _ (by rw[rd36 p.f3 i hi];exact List.getElem_mem hi))
      refine ev_shift ?_;simp only[spec_l15Clean.l0]
      rw[wrap_up (by omega) (show(i:Int)<(p.f3.length:Int) by omega) (by omega)]
      exact ev_pos (by omega) (ev_pos (by omega) (ev_bind hh (ev_pos hp hr)))
    · intro i hi hp
      have hh:=ih (rd_T36 p.f3 (i:Int)) (h.2.2 _ (by rw[rd36 p.f3 i hi];exact List.getElem_mem hi))
      refine ev_shift ?_;simp only[spec_l15Clean.l0]
      exact ev_pos (by omega) (ev_pos (by omega) (ev_bind hh (ev_neg (by rw[hp];decide) (ev_some _))))
theorem impl_clean_list (n:Nat) (ih:∀p:S36,smV n p→Ev (fun k=>impl_Pattern_isPlainKind.f k p.f0 p.f1 p.f2 p.f3) (clN n p)) (l:List S36) (hl:l.length≤1048576) (h:∀y,y∈l→smV n y):Ev (fun k=>impl_Pattern__impl_Pattern_isPlainKind.f k l) (l.all (clN n)):=by
  refine ev_shift ?_;simp only[impl_Pattern__impl_Pattern_isPlainKind.f]
  rw[all_idx]
  refine idx_all (g:=fun k i=>impl_Pattern__impl_Pattern_isPlainKind.l0 k l (l.length:Int) i) l.length _ ?_ ?_ ?_
  · refine ev_shift ?_;simp only[impl_Pattern__impl_Pattern_isPlainKind.l0];exact ev_neg (by omega) (ev_some _)
  · intro i hi hp r hr
    have hh:=ih (rd_T36 l (i:Int)) (h _ (by rw[rd36 l i hi];exact List.getElem_mem hi))
    refine ev_shift ?_;simp only[impl_Pattern__impl_Pattern_isPlainKind.l0]
    rw[wrap_up (by omega) (show(i:Int)<(l.length:Int) by omega) (by omega)]
    exact ev_pos (by omega) (ev_pos (by omega) (ev_pos (by omega) (ev_bind hh (ev_pos hp hr))))
  · intro i hi hp
    have hh:=ih (rd_T36 l (i:Int)) (h _ (by rw[rd36 l i hi];exact List.getElem_mem hi))
    refine ev_shift ?_;simp only[impl_Pattern__impl_Pattern_isPlainKind.l0]
    exact ev_pos (by omega) (ev_pos (by omega) (ev_pos (by omega) (ev_bind hh (ev_neg (by rw[hp];decide) (ev_some _)))))
theorem impl_clean:∀(n:Nat) (p:S36),smV n p→Ev (fun k=>impl_Pattern_isPlainKind.f k p.f0 p.f1 p.f2 p.f3) (clN n p):=by
  intro n
  induction n with
  |zero=>exact fun p h=>False.elim h
  |succ n ih=>
    intro p h
    refine ev_shift ?_;simp only[impl_Pattern_isPlainKind.f,clN]
    exact ev_kind (ev_bind (impl_clean_list n ih p.f3 h.2.1 h.2.2) (ev_some _))
def inL (l:List ByteArray) (x:ByteArray):Bool:=l.any (fun y=>decide (y.toList=x.toList))
theorem inL_iff (l:List ByteArray) (x:ByteArray):inL l x=true↔x∈l:=by
  unfold inL;rw[List.any_eq_true]
  constructor
  · rintro⟨y,hy,e⟩;exact(toList_inj.1 (of_decide_eq_true e))▸hy
  · intro h;exact⟨x,h,decide_eq_true rfl⟩
def addName (l:List ByteArray) (x:ByteArray):List ByteArray:=if inL l x=true then l else l++[x]
def nmN : Nat → S36 → List ByteArray → List ByteArray
  |0,_,l=>l
  |n+1,p,l=>if p.f0=24 then addName l p.f2 else p.f3.foldl (fun a y=>nmN n y a) l
theorem addName_len (l:List ByteArray) (x:ByteArray):(addName l x).length≤l.length+1:=by
  unfold addName;split
  · omega
  · simp
theorem nm_len:∀(n:Nat) (p:S36) (l:List ByteArray),okN n p→(nmN n p l).length≤l.length+nodesN n p:=by
  intro n
  induction n with
  |zero=>exact fun p l h=>False.elim h
  |succ n ih=>
    intro p l h
    show(if p.f0=24 then addName l p.f2 else p.f3.foldl (fun a y=>nmN n y a) l).length≤l.length+(1+(p.f3.map (nodesN n)).sum)
    by_cases c:p.f0=24
    · rw[if_pos c];have:=addName_len l p.f2;omega
    · rw [if_neg c]
      have key:∀(ks:List S36) (l:List ByteArray),(∀y,y∈ks→okN n y)→(ks.foldl (fun a y=>nmN n y a) l).length≤l.length+(ks.map (nodesN n)).sum:=by
        intro ks
        induction ks with
        |nil=>intro l _;simp
        |cons y ks ihk=>
          intro l hk
          have h1:=ih y l (hk y (List.mem_cons_self ..))
          have h2:=ihk (nmN n y l) (fun z hz=>hk z (List.mem_cons_of_mem _ hz))
          rw[List.foldl_cons,List.map_cons,List.sum_cons];omega
      have:=key p.f3 l h.2.2
      omega
theorem find_name (l:List ByteArray) (hl:l.length≤1048576) (x:ByteArray):∃v,Ev (fun k=>slices_Contains_string_string.f k l x) v∧(v=true↔x∈l):=by
  simp only[slices_Contains_string_string.f,slices_Index_string_string.f]
  obtain ⟨v, hv, hh⟩ := idx_find (g := fun k i => slices_Index_string_string.l0 k l x (l.length : Int) i) l.length (fun i => decide (x.toList = (rdOf ByteArray.empty l (i : Int)).toList))
    (by refine ev_shift ?_;simp only[slices_Index_string_string.l0];exact ev_neg (by omega) (ev_some _))
    (by
      intro i hi hp r hr
      refine ev_shift ?_;simp only[slices_Index_string_string.l0]
      rw[wrap_up (by omega) (show(i:Int)<(l.length:Int) by omega) (by omega)]
      exact ev_pos (by omega) (ev_pos (by omega) (ev_pos (by omega) (ev_neg (of_decide_eq_false hp) hr))))
    (by
      intro i hi hp
      refine ev_shift ?_;simp only[slices_Index_string_string.l0]
      exact ev_pos (by omega) (ev_pos (by omega) (ev_pos (by omega) (ev_pos (of_decide_eq_true hp) (ev_some _)))))
  refine⟨_,ev_bind hv (ev_some _),?_⟩
  rcases hh with⟨h1,h2⟩|⟨i,h1,h2,h3,_⟩
  · constructor
    · intro h;have:=of_decide_eq_true h;omega
    · intro h
      obtain⟨i,hi,e⟩:=List.getElem_of_mem h
      have:=of_decide_eq_false (h2 i hi)
      rw[rdOf_get _ _ i hi,e]at this
      exact absurd rfl this
  · constructor
    · intro _
      have:=toList_inj.1 (of_decide_eq_true h3)
      rw[rdOf_get _ _ i h2]at this
      rw[this];exact List.getElem_mem h2
    · intro _;exact decide_eq_true (by omega)
theorem impl_names:∀(n:Nat) (p:S36),smV n p→okN n p→∀l:List ByteArray,l.length+nodesN n p≤1000000→Ev (fun k=>impl_Pattern_deferred.f k p.f0 p.f1 p.f2 p.f3 l) (nmN n p l):=by
  intro n
  induction n with
  |zero=>exact fun p h=>False.elim h
  |succ n ih=>
    intro p h ho l hl
    have hk:=h.2.1
    have hl':l.length+(1+(p.f3.map (nodesN n)).sum)≤1000000:=hl
    have loop:∀d i:Nat,i+d=p.f3.length→∀l:List ByteArray,l.length+((p.f3.drop i).map (nodesN n)).sum≤1000000→Ev (fun k=>impl_Pattern_deferred.l0 k l p.f3 (p.f3.length:Int) (i:Int)) ((p.f3.drop i).foldl (fun a y=>nmN n y a) l):=by
      intro d
      induction d with
      |zero=>
        intro i hi l _
        refine ev_shift ?_;simp only[impl_Pattern_deferred.l0]
        rw[List.drop_of_length_le (by omega)]
        exact ev_neg (by omega) (ev_some _)
      |succ d ihd=>
        intro i hi l hb
        have hlt:i<p.f3.length:=by omega
        rw[List.drop_eq_getElem_cons hlt,List.map_cons,List.sum_cons]at hb
        have hm:=List.getElem_mem hlt
        have hn:=nm_len n p.f3[i] l (ho.2.2 _ hm)
        refine ev_shift ?_;simp only[impl_Pattern_deferred.l0]
        rw[rd36 p.f3 i hlt,wrap_up (by omega) (show(i:Int)<(p.f3.length:Int) by omega) (by omega),List.drop_eq_getElem_cons hlt,List.foldl_cons]
        refine ev_pos (by omega) (ev_pos (by omega) (ev_pos (by omega) (ev_bind (ih _ (h.2.2 _ hm) (ho.2.2 _ hm) l (by omega)) ?_)))
        have:=ihd (i+1) (by omega) (nmN n p.f3[i] l) (by omega)
        rw[show(((i+1:Nat):Int))=(i:Int)+1 from by omega]at this
        exact this
    have j1:∀l:List ByteArray,l.length+(p.f3.map (nodesN n)).sum≤1000000→Ev (fun k=>impl_Pattern_deferred.j1 k l p.f0 p.f1 p.f2 p.f3) (p.f3.foldl (fun a y=>nmN n y a) l):=by
      intro l hb
      refine ev_shift ?_;simp only[impl_Pattern_deferred.j1]
      have:=loop p.f3.length 0 (by omega) l (by simpa using hb)
      simpa using this
    refine ev_shift ?_;simp only[impl_Pattern_deferred.f]
    show Ev _ (if p.f0=24 then addName l p.f2 else p.f3.foldl (fun a y=>nmN n y a) l)
    by_cases c:p.f0=24
    · rw [if_pos c]
      have hz:p.f3=[]:=by
        have:=ho.1;rw[c]at this;exact List.eq_nil_of_length_eq_zero this
      obtain⟨v,hv,hm⟩:=find_name l (by omega) p.f2
      refine ev_pos c (ev_bind hv (ev_shift ?_))
      simp only[impl_Pattern_deferred.j0]
      unfold addName
      cases v with
      |true=>
        rw[if_pos ((inL_iff _ _).2 (hm.1 rfl))]
        have:=j1 l (by omega)
        rw[hz]at this ⊢
        exact ev_neg (by decide) this
      |false=>
        rw[if_neg (fun hx=>by have:=hm.2 ((inL_iff _ _).1 hx);cases this)]
        have:=j1 (l++[p.f2]) (by rw[List.length_append,List.length_singleton];omega)
        rw[hz]at this ⊢
        exact ev_pos rfl (ev_pos (by omega) this)
    · rw [if_neg c]
      refine ev_neg c (ev_shift ?_)
      simp only[impl_Pattern_deferred.j0]
      exact ev_neg (by decide) (j1 l (by omega))
theorem spec_names:∀(n:Nat) (p:S36),smV n p→okN n p→∀l:List ByteArray,l.length+nodesN n p≤1000000→Ev (fun k=>spec_l11Names.f k p.f0 p.f1 p.f2 p.f3 l) (nmN n p l):=by
  intro n
  induction n with
  |zero=>exact fun p h=>False.elim h
  |succ n ih=>
    intro p h ho l hl
    have hk:=h.2.1
    have hl':l.length+(1+(p.f3.map (nodesN n)).sum)≤1000000:=hl
    have loop:∀d i:Nat,i+d=p.f3.length→∀l:List ByteArray,l.length+((p.f3.drop i).map (nodesN n)).sum≤1000000→Ev (fun k=>spec_l11Names.l1 k l (i:Int) p.f0 p.f1 p.f2 p.f3) ((p.f3.drop i).foldl (fun a y=>nmN n y a) l):=by
      intro d
      induction d with
      |zero=>
        intro i hi l _
        refine ev_shift ?_;simp only[spec_l11Names.l1]
        rw[List.drop_of_length_le (by omega)]
        exact ev_neg (by omega) (ev_some _)
      |succ d ihd=>
        intro i hi l hb
        have hlt:i<p.f3.length:=by omega
        rw[List.drop_eq_getElem_cons hlt,List.map_cons,List.sum_cons]at hb
        have hm:=List.getElem_mem hlt
        have hn:=nm_len n p.f3[i] l (ho.2.2 _ hm)
        refine ev_shift ?_;simp only[spec_l11Names.l1]
        rw[rd36 p.f3 i hlt,wrap_up (by omega) (show(i:Int)<(p.f3.length:Int) by omega) (by omega),List.drop_eq_getElem_cons hlt,List.foldl_cons]
        refine ev_pos (by omega) (ev_pos (by omega) (ev_bind (ih _ (h.2.2 _ hm) (ho.2.2 _ hm) l (by omega)) ?_))
        have:=ihd (i+1) (by omega) (nmN n p.f3[i] l) (by omega)
        rw[show(((i+1:Nat):Int))=(i:Int)+1 from by omega]at this
        exact this
    have find:∀d i:Nat,i+d=l.length→(∀j:Nat,j<i→∀hj:j<l.length,l[j]≠p.f2)→Ev (fun k=>spec_l11Names.l0 k l (i:Int) p.f0 p.f1 p.f2 p.f3) (addName l p.f2):=by
      intro d
      induction d with
      |zero=>
        intro i hi hb
        refine ev_shift ?_;simp only[spec_l11Names.l0]
        unfold addName
        refine ev_neg (by omega) (ev_pos (by omega) ?_)
        rw[if_neg (fun hx=>by obtain⟨j,hj,e⟩:=List.getElem_of_mem ((inL_iff _ _).1 hx);exact hb j (by omega) hj e)]
        exact ev_some _
      |succ d ihd=>
        intro i hi hb
        have hlt:i<l.length:=by omega
        refine ev_shift ?_;simp only[spec_l11Names.l0]
        rw[rdOf_get _ _ i hlt,wrap_up (by omega) (show(i:Int)<(l.length:Int) by omega) (by omega)]
        refine ev_pos (by omega) (ev_pos (by omega) ?_)
        by_cases c:l[i]=p.f2
        · unfold addName
          rw[if_pos ((inL_iff _ _).2 (c▸List.getElem_mem hlt))]
          exact ev_pos (toList_inj.2 c) (ev_some _)
        · refine ev_neg (fun hh => c (toList_inj.1 hh)) ?_
          have:=ihd (i+1) (by omega) (fun j hj hj2=>by rcases Nat.lt_succ_iff_lt_or_eq.1 hj with e|e;exact hb j e hj2;subst e;exact c)
          rw[show(((i+1:Nat):Int))=(i:Int)+1 from by omega]at this
          exact this
    refine ev_shift ?_;simp only[spec_l11Names.f]
    show Ev _ (if p.f0=24 then addName l p.f2 else p.f3.foldl (fun a y=>nmN n y a) l)
    by_cases c:p.f0=24
    · rw[if_pos c];exact ev_pos c (find l.length 0 (by omega) (fun j hj=>absurd hj (by omega)))
    · rw [if_neg c]
      have:=loop p.f3.length 0 (by omega) l (by simpa using(by omega:l.length+(p.f3.map (nodesN n)).sum≤1000000))
      exact ev_neg c (by simpa using this)
def Df : Nat → S36 → ByteArray → Prop
  |0,_,_=>False
  |n+1,p,x=>if p.f0=24 then x=p.f2 else ∃y,y∈p.f3∧Df n y x
theorem addName_mem (l:List ByteArray) (x y:ByteArray):y∈addName l x↔y∈l∨y=x:=by
  unfold addName
  by_cases h:inL l x=true
  · rw[if_pos h];exact⟨Or.inl,fun hh=>hh.elim id (fun e=>e▸(inL_iff _ _).1 h)⟩
  · rw[if_neg h];simp
theorem nm_mem:∀(n:Nat) (p:S36) (l:List ByteArray) (x:ByteArray),x∈nmN n p l↔x∈l∨Df n p x:=by
  intro n
  induction n with
  |zero=>intro p l x;exact⟨Or.inl,fun h=>h.elim id False.elim⟩
  |succ n ih=>
    intro p l x
    show x∈(if p.f0=24 then addName l p.f2 else p.f3.foldl (fun a y=>nmN n y a) l)↔x∈l∨(if p.f0=24 then x=p.f2 else ∃y,y∈p.f3∧Df n y x)
    by_cases c:p.f0=24
    · rw[if_pos c,if_pos c];exact addName_mem l p.f2 x
    · rw [if_neg c, if_neg c]
      have key:∀(ks:List S36) (l:List ByteArray),x∈ks.foldl (fun a y=>nmN n y a) l↔x∈l∨∃y,y∈ks∧Df n y x:=by
        intro ks
        induction ks with
        |nil=>intro l;simp
        |cons y ks ihk=>
          intro l
          rw[List.foldl_cons,ihk,ih]
          constructor
          · rintro ((h | h) | ⟨z, h, k⟩)
            · exact Or.inl h
            · exact Or.inr ⟨y,List.mem_cons_self ..,h⟩
            · exact Or.inr ⟨z,List.mem_cons_of_mem _ h,k⟩
          · rintro (h | ⟨z, h, k⟩)
            · exact Or.inl (Or.inl h)
            · rcases List.mem_cons.1 h with e | e
              · exact Or.inl (Or.inr (e▸k))
              · exact Or.inr ⟨z,e,k⟩
      exact key p.f3 l
theorem nm_nodup:∀(n:Nat) (p:S36) (l:List ByteArray),l.Nodup→(nmN n p l).Nodup:=by
  intro n
  induction n with
  |zero=>exact fun p l h=>h
  |succ n ih=>
    intro p l h
    show(if p.f0=24 then addName l p.f2 else p.f3.foldl (fun a y=>nmN n y a) l).Nodup
    by_cases c:p.f0=24
    · rw [if_pos c]; unfold addName
      by_cases hx:inL l p.f2=true
      · rw[if_pos hx];exact h
      · rw [if_neg hx]
        rw[List.nodup_append]
        exact⟨h,by simp,fun a ha b hb e=>hx ((inL_iff _ _).2 (by rw[List.mem_singleton.1 hb]at e;exact e▸ha))⟩
    · rw [if_neg c]
      have key:∀(ks:List S36) (l:List ByteArray),l.Nodup→(ks.foldl (fun a y=>nmN n y a) l).Nodup:=by
        intro ks
        induction ks with
        |nil=>exact fun l h=>h
        |cons y ks ihk=>exact fun l h=>ihk _ (ih y l h)
      exact key p.f3 l h
theorem nm_prefix:∀(n:Nat) (p:S36) (l:List ByteArray),∃m,nmN n p l=l++m:=by
  intro n
  induction n with
  |zero=>exact fun p l=>⟨[],(List.append_nil l).symm⟩
  |succ n ih=>
    intro p l
    show ∃m,(if p.f0=24 then addName l p.f2 else p.f3.foldl (fun a y=>nmN n y a) l)=l++m
    by_cases c:p.f0=24
    · rw [if_pos c]; unfold addName
      by_cases hx:inL l p.f2=true
      · rw[if_pos hx];exact⟨[],(List.append_nil l).symm⟩
      · rw[if_neg hx];exact⟨_,rfl⟩
    · rw [if_neg c]
      have key:∀(ks:List S36) (l:List ByteArray),∃m,ks.foldl (fun a y=>nmN n y a) l=l++m:=by
        intro ks
        induction ks with
        |nil=>exact fun l=>⟨[],(List.append_nil l).symm⟩
        |cons y ks ihk=>
          intro l
          obtain⟨m1,h1⟩:=ih y l
          obtain⟨m2,h2⟩:=ihk (nmN n y l)
          exact⟨m1++m2,by rw[List.foldl_cons,h2,h1,List.append_assoc]⟩
      exact key p.f3 l
theorem pigeon:∀(l m:List ByteArray),l.Nodup→(∀x,x∈l→x∈m)→l.length≤m.length:=by
  intro l
  induction l with
  |nil=>intro m _ _;exact Nat.zero_le _
  |cons a l ih=>
    intro m hn hs
    rw[List.nodup_cons]at hn
    obtain⟨m1,m2,rfl⟩:=List.append_of_mem (hs a (List.mem_cons_self ..))
    have:=ih (m1++m2) hn.2 (fun x hx=>by
      have h1:=hs x (List.mem_cons_of_mem _ hx)
      have hne:x≠a:=fun e=>hn.1 (e▸hx)
      rcases List.mem_append.1 h1 with h|h
      · exact List.mem_append_left _ h
      · rcases List.mem_cons.1 h with h | h
        · exact absurd h hne
        · exact List.mem_append_right _ h)
    simp only[List.length_append,List.length_cons]at this ⊢
    omega
section
variable (N:Nat) (E:List S52) (p0:S36)
def AtE (x:ByteArray) (t:Nat):Prop:=t<E.length∧(rd_T52 E (t:Int)).f0=x
inductive Reach : ByteArray → Prop
  |base {x:ByteArray} (h:Df N p0 x):Reach x
  |step {x y:ByteArray} {t:Nat} (h:Reach x) (a:AtE E x t) (d:Df N (rd_T52 E (t:Int)).f1 y):Reach y
theorem at_one (hd:∀i,i<E.length→newE E i=true) {x:ByteArray} {s t:Nat} (h:AtE E x s) (k:AtE E x t):s=t:=by
  have key:∀s t:Nat,s<t→AtE E x s→AtE E x t→False:=by
    intro s t hlt h k
    have:=(allN_iff _ _).1 (hd t k.1) s hlt
    unfold sameE at this
    rw[h.2,k.2]at this
    simp at this
  rcases Nat.lt_trichotomy s t with e|e|e
  · exact(key s t e h k).elim
  · exact e
  · exact(key t s e k h).elim
theorem find_ev (hm:E.length≤1048576) (x:ByteArray):∃v,Ev (fun k=>spec_l12Find.f k E x) v∧((v= -1∧∀t,¬AtE E x t)∨∃t:Nat,v=t∧AtE E x t):=by
  simp only[spec_l12Find.f]
  obtain ⟨v, hv, hh⟩ := idx_find (g := fun k i => spec_l12Find.l0 k E x i) E.length (fun i => decide ((rd_T52 E (i : Int)).f0.toList = x.toList))
    (by refine ev_shift ?_;simp only[spec_l12Find.l0];exact ev_neg (by omega) (ev_some _))
    (by
      intro i hi hp r hr
      refine ev_shift ?_;simp only[spec_l12Find.l0]
      rw[wrap_up (by omega) (show(i:Int)<(E.length:Int) by omega) (by omega)]
      exact ev_pos (by omega) (ev_pos (by omega) (ev_neg (of_decide_eq_false hp) hr)))
    (by
      intro i hi hp
      refine ev_shift ?_;simp only[spec_l12Find.l0]
      exact ev_pos (by omega) (ev_pos (by omega) (ev_pos (of_decide_eq_true hp) (ev_some _))))
  refine⟨v,hv,?_⟩
  rcases hh with⟨h1,h2⟩|⟨i,h1,h2,h3,_⟩
  · exact Or.inl ⟨h1,fun t ht=>of_decide_eq_false (h2 t ht.1) (by rw[ht.2])⟩
  · exact Or.inr ⟨i,h1,h2,toList_inj.1 (of_decide_eq_true h3)⟩
theorem lookup_ev (hm:E.length≤1048576) (x:ByteArray):(∃t,AtE E x t∧Ev (fun k=>impl_lookup.f k E x) ((rd_T52 E (t:Int)).f1.f0,(rd_T52 E (t:Int)).f1.f1,(rd_T52 E (t:Int)).f1.f2,(rd_T52 E (t:Int)).f1.f3,true))∨((∀t,¬AtE E x t)∧Ev (fun k=>impl_lookup.f k E x) (0,0,(⟨#[]⟩:ByteArray),([]:List S36),false)):=by
  simp only[impl_lookup.f,impl_Named__impl_lookup_1.f]
  have hp:∀j:Nat,j<E.length→impl_lookup_1.f (rd_T52 E (j:Int)).f0 (rd_T52 E (j:Int)).f1.f0 (rd_T52 E (j:Int)).f1.f1 (rd_T52 E (j:Int)).f1.f2 (rd_T52 E (j:Int)).f1.f3 [x]=some (decide ((rd_T52 E (j:Int)).f0.toList=x.toList)):=by
    intro j hj
    simp only[impl_lookup_1.f]
    rw[if_pos (by simp)]
    congr 1
    rw[Bool.eq_iff_iff];simp;rfl
  obtain ⟨v, hv, hh⟩ := idx_find (g := fun k j => impl_Named__impl_lookup_1.l0 k E [x] (E.length : Int) j) E.length (fun i => decide ((rd_T52 E (i : Int)).f0.toList = x.toList))
    (by refine ev_shift ?_;simp only[impl_Named__impl_lookup_1.l0];exact ev_neg (by omega) (ev_some _))
    (by
      intro j hj hq r hr
      refine ev_shift ?_;simp only[impl_Named__impl_lookup_1.l0]
      rw[hp j hj,wrap_up (by omega) (show(j:Int)<(E.length:Int) by omega) (by omega)]
      exact ev_pos (by omega) (ev_pos (by omega) (ev_pos (by omega) (ev_bindc rfl (ev_neg (by rw[hq];decide) hr)))))
    (by
      intro j hj hq
      refine ev_shift ?_;simp only[impl_Named__impl_lookup_1.l0]
      rw[hp j hj]
      exact ev_pos (by omega) (ev_pos (by omega) (ev_pos (by omega) (ev_bindc rfl (ev_pos hq (ev_some _))))))
  rcases hh with⟨h1,h2⟩|⟨i,h1,h2,h3,_⟩
  · exact Or.inr ⟨fun t ht=>of_decide_eq_false (h2 t ht.1) (by rw[ht.2]),ev_bind hv (ev_pos (by omega) (ev_some _))⟩
  · refine Or.inl ⟨i, ⟨h2, toList_inj.1 (of_decide_eq_true h3)⟩, ?_⟩
    rw[h1]at hv
    exact ev_bind hv (ev_neg (by omega) (ev_pos (by omega) (ev_pos (by omega) (ev_some _))))
end
theorem eta36 (x:S36):(⟨x.f0,x.f1,x.f2,x.f3⟩:S36)=x:=by cases x;rfl
structure EnvOk (N:Nat) (E:List S52):Prop where
  len:E.length≤40
  ok:∀i:Nat,i<E.length→okN N (rd_T52 E (i:Int)).f1
  nodes:∀i:Nat,i<E.length→nodesN N (rd_T52 E (i:Int)).f1≤60
  sm:∀i:Nat,i<E.length→smV N (rd_T52 E (i:Int)).f1
  new:∀i:Nat,i<E.length→newE E i=true
section
variable (N:Nat) (E:List S52) (p0:S36)
structure RefI (i:Nat) (names:List ByteArray) (out:List S36):Prop where
  nd:names.Nodup
  le:i≤names.length
  done:∀j x,j<i→names[j]?=some x→∃t,AtE E x t
  rch:∀x,x∈names→Reach N E p0 x
  base:∀x,Df N p0 x→x∈names
  clo:∀j x t,j<i→names[j]?=some x→AtE E x t→∀y,Df N (rd_T52 E (t:Int)).f1 y→y∈names
  outs:∀q,q∈out↔ ∃j x t,j<i∧names[j]?=some x∧AtE E x t∧q=(rd_T52 E (t:Int)).f1
  nlen:names.length≤60*(i+1)
  olen:out.length=i
def RefR (r:List S36×Bool):Prop:=(r=([],false)∧∃x,Reach N E p0 x∧∀t,¬AtE E x t)∨
  (r.2=true∧(∀x,Reach N E p0 x→∃t,AtE E x t)∧r.1.length≤1048576∧∀q,q∈r.1↔ ∃x t,Reach N E p0 x∧AtE E x t∧q=(rd_T52 E (t:Int)).f1)
theorem ref_le {i:Nat} {names:List ByteArray} {out:List S36} (h:RefI N E p0 i names out):i≤E.length:=by
  have:=pigeon (names.take i) (E.map (·.f0)) (h.nd.sublist (List.take_sublist _ _)) (fun x hx=>by
    obtain⟨j,hj,e⟩:=List.getElem_of_mem hx
    rw[List.length_take]at hj
    rw[List.getElem_take]at e
    obtain⟨t,ht⟩:=h.done j x (by omega) (by rw[List.getElem?_eq_getElem (by omega),e])
    have:=ht.2;rw[rd52 E t ht.1]at this
    exact List.mem_map.2 ⟨_,List.getElem_mem ht.1,this⟩)
  rw[List.length_take,List.length_map]at this
  have:=h.le;omega
theorem referred_loop (he:EnvOk N E):∀d i:Nat,i+d=E.length+1→∀names out,RefI N E p0 i names out→∃r,Ev (fun k=>impl_referred.l0 k E out names (i:Int)) r∧RefR N E p0 r:=by
  have hm:=he.len
  intro d
  induction d with
  |zero=>intro i hi names out h;have:=ref_le N E p0 h;omega
  |succ d ih=>
    intro i hi names out h
    have hle:=ref_le N E p0 h
    have hnl:=h.nlen
    have hol:=h.olen
    by_cases hlt:i<names.length
    · have hx := List.getElem?_eq_getElem hlt
      rcases lookup_ev E (by omega) names[i]with⟨t,ht,hl⟩|⟨hno,hl⟩
      · obtain ⟨m, hpre⟩ := nm_prefix N (rd_T52 E (t : Int)).f1 names
        have hln:=nm_len N (rd_T52 E (t:Int)).f1 names (he.ok t ht.1)
        have hnd:=he.nodes t ht.1
        have old:∀j x,j<i+1→(nmN N (rd_T52 E (t:Int)).f1 names)[j]?=some x→names[j]?=some x:=by
          intro j x hj hjx;rw[hpre,List.getElem?_append_left (by omega)]at hjx;exact hjx
        have new_:∀j x,j<i+1→names[j]?=some x→(nmN N (rd_T52 E (t:Int)).f1 names)[j]?=some x:=by
          intro j x hj hjx;rw[hpre,List.getElem?_append_left (by omega)];exact hjx
        have hI : RefI N E p0 (i + 1) (nmN N (rd_T52 E (t : Int)).f1 names) (out ++ [(rd_T52 E (t : Int)).f1]) := {
          nd:=nm_nodup N _ names h.nd
          le:=by rw[hpre,List.length_append];omega
          done:=fun j x hj hjx=>by
            have h1:=old j x hj hjx
            by_cases e:j=i
            · subst e;rw[hx]at h1;exact⟨t,Option.some.inj h1▸ht⟩
            · exact h.done j x (by omega) h1
          rch:=fun x hxm=>by
            rcases(nm_mem N _ names x).1 hxm with h1|h1
            · exact h.rch x h1
            · exact Reach.step (h.rch _ (List.getElem_mem hlt)) ht h1
          base:=fun x hxd=>(nm_mem N _ names x).2 (Or.inl (h.base x hxd))
          clo:=fun j x s hj hjx hs y hy=>by
            have h1:=old j x hj hjx
            by_cases e:j=i
            · subst e; rw [hx] at h1
              have e1:=Option.some.inj h1
              rw[←e1]at hs
              rw[at_one E he.new hs ht]at hy
              exact(nm_mem N _ names y).2 (Or.inr hy)
            · exact(nm_mem N _ names y).2 (Or.inl (h.clo j x s (by omega) h1 hs y hy))
          outs:=fun q=>by
            rw[List.mem_append,h.outs q]
            constructor
            · rintro (⟨j, x, s, hj, hjx, hs, e⟩ | hq)
              · exact⟨j,x,s,by omega,new_ j x (by omega) hjx,hs,e⟩
              · exact⟨i,names[i],t,by omega,new_ i _ (by omega) hx,ht,List.mem_singleton.1 hq⟩
            · rintro ⟨j, x, s, hj, hjx, hs, e⟩
              have h1:=old j x hj hjx
              by_cases ej:j=i
              · subst ej; rw [hx] at h1
                have e1:=Option.some.inj h1
                rw[←e1]at hs
                rw[at_one E he.new hs ht]at e
                exact Or.inr (List.mem_singleton.2 e)
              · exact Or.inl ⟨j,x,s,by omega,h1,hs,e⟩
          nlen:=by omega
          olen:=by rw[List.length_append,List.length_singleton];omega}
        obtain⟨r,hr,hR⟩:=ih (i+1) (by omega) _ _ hI
        refine⟨r,ev_shift ?_,hR⟩
        simp only[impl_referred.l0]
        rw[rdOf_get _ _ i hlt,wrap_up (by omega) (show(i:Int)<(names.length:Int) by omega) (by omega)]
        rw[show(((i+1:Nat):Int))=(i:Int)+1 from by omega]at hr
        have hr':Ev (fun k=>impl_referred.l0 k E (out++[(⟨(rd_T52 E (t:Int)).f1.f0,(rd_T52 E (t:Int)).f1.f1,(rd_T52 E (t:Int)).f1.f2,(rd_T52 E (t:Int)).f1.f3⟩:S36)]) (nmN N (rd_T52 E (t:Int)).f1 names) ((i:Int)+1)) r:=by rw[eta36];exact hr
        exact ev_pos (by omega) (ev_pos (by omega) (ev_bind hl (ev_pos rfl (ev_pos (by omega) (ev_bind (impl_names N _ (he.sm t ht.1) (he.ok t ht.1) names (by omega)) hr')))))
      · refine ⟨([], false), ev_shift ?_, Or.inl ⟨rfl, names[i], h.rch _ (List.getElem_mem hlt), hno⟩⟩
        simp only[impl_referred.l0]
        rw[rdOf_get _ _ i hlt]
        exact ev_pos (by omega) (ev_pos (by omega) (ev_bind hl (ev_neg (by decide) (ev_some _))))
    · have hend : i = names.length := by have := h.le; omega
      have all:∀x,Reach N E p0 x→x∈names:=by
        intro x hx
        induction hx with
        |base hd=>exact h.base _ hd
        |step _ a dd ihx=>
          obtain⟨j,hj,e⟩:=List.getElem_of_mem ihx
          exact h.clo j _ _ (by omega) (by rw[List.getElem?_eq_getElem hj,e]) a _ dd
      refine⟨(out,true),ev_shift ?_,Or.inr ⟨rfl,fun x hx=>?_,by show out.length≤1048576;omega,fun q=>?_⟩⟩
      · simp only[impl_referred.l0];exact ev_neg (by omega) (ev_some _)
      · obtain ⟨j, hj, e⟩ := List.getElem_of_mem (all x hx)
        exact h.done j x (by omega) (by rw[List.getElem?_eq_getElem hj,e])
      · rw [h.outs q]
        constructor
        · rintro ⟨j, x, t, hj, hjx, ht, e⟩
          exact⟨x,t,h.rch x (List.mem_of_getElem? hjx),ht,e⟩
        · rintro ⟨x, t, hx, ht, e⟩
          obtain⟨j,hj,ej⟩:=List.getElem_of_mem (all x hx)
          exact⟨j,x,t,by omega,by rw[List.getElem?_eq_getElem hj,ej],ht,e⟩
theorem referred_ev (he:EnvOk N E) (h1:smV N p0) (h2:okN N p0) (h3:nodesN N p0≤60):∃r,Ev (fun k=>impl_referred.f k E p0.f0 p0.f1 p0.f2 p0.f3) r∧RefR N E p0 r:=by
  have hl:=nm_len N p0 [] h2
  simp only[List.length_nil]at hl
  obtain ⟨r, hr, hR⟩ := referred_loop N E p0 he (E.length + 1) 0 (by omega) (nmN N p0 []) [] {
    nd:=nm_nodup N p0 [] List.nodup_nil
    le:=Nat.zero_le _
    done:=fun j x hj _=>absurd hj (by omega)
    rch:=fun x hx=>Reach.base (((nm_mem N p0 [] x).1 hx).resolve_left (by simp))
    base:=fun x hx=>(nm_mem N p0 [] x).2 (Or.inr hx)
    clo:=fun j x t hj _ _ _ _=>absurd hj (by omega)
    outs:=fun q=>⟨(fun h=>by cases h),(fun⟨j,_,_,hj,_⟩=>absurd hj (by omega))⟩
    nlen:=by omega
    olen:=rfl}
  refine⟨r,?_,hR⟩
  simp only[impl_referred.f]
  exact ev_bind (impl_names N p0 h1 h2 [] (by simp only[List.length_nil];omega)) hr
end
theorem eta52 (x:S52):(⟨x.f0,(⟨x.f1.f0,x.f1.f1,x.f1.f2,x.f1.f3⟩:S36)⟩:S52)=x:=by rcases x with⟨a,⟨b,c,d,e⟩⟩;rfl
theorem count_set:∀(l:List Bool) (t:Nat),l[t]?=some false→(l.set t true).count false+1=l.count false:=by
  intro l
  induction l with
  |nil=>intro t h;simp at h
  |cons a l ih=>
    intro t h
    cases t with
    |zero=>simp at h;subst h;simp
    |succ t=>
      simp only[List.getElem?_cons_succ]at h
      have:=ih t h
      simp only[List.set_cons_succ,List.count_cons]
      omega
theorem set_get (l:List Bool) (t s:Nat):(l.set t true)[s]?=some true↔(s=t∧t<l.length)∨l[s]?=some true:=by
  by_cases e:s=t
  · subst e
    by_cases h:s<l.length
    · rw[List.getElem?_set_self h];simp[h]
    · rw[List.getElem?_eq_none (by rw[List.length_set];omega),List.getElem?_eq_none (by omega)];simp[h]
  · rw[List.getElem?_set_ne (Ne.symm e)];simp[e]
section
variable (N:Nat) (E:List S52) (p0:S36)
structure SI (D:S36→Prop) (inn:List Bool) (todo:List S36):Prop where
  len:inn.length=E.length
  mar:∀t:Nat,inn[t]?=some true→Reach N E p0 (rd_T52 E (t:Int)).f0
  td:∀q,q∈todo→smV N q∧okN N q∧nodesN N q≤60
  tr:∀q,q∈todo→∀y,Df N q y→Reach N E p0 y
  clo:∀q,(q=p0∨∃t:Nat,inn[t]?=some true∧q=(rd_T52 E (t:Int)).f1)→q∈todo∨D q∨∀y t,Df N q y→AtE E y t→inn[t]?=some true
def SR (r:List S52):Prop:=r.length≤40∧∀y,y∈r↔ ∃x t,Reach N E p0 x∧AtE E x t∧y=rd_T52 E (t:Int)
theorem collect_ev (he:EnvOk N E) (inn:List Bool) (h:SI N E p0 (fun _=>False) inn []):∃r,Ev (fun k=>spec_l15Reached.l2 k E inn [] 0) r∧SR N E p0 r:=by
  have hm:=he.len
  have hl:=h.len
  refine⟨[]++flatN E.length (fun i=>if rdOf false inn (i:Int)=true then[rd_T52 E (i:Int)]else[]),idx_collect (g:=fun k acc i=>spec_l15Reached.l2 k E inn acc i) E.length 1000 _ ?_ ?_ ?_ [] (by simp only[List.length_nil];omega),?_,?_⟩
  · intro i hi
    by_cases c:rdOf false inn (i:Int)=true
    · rw[if_pos c];simp
    · rw[if_neg c];simp
  · intro acc
    refine ev_shift ?_;simp only[spec_l15Reached.l2]
    exact ev_neg (by omega) (ev_some _)
  · intro i hi acc ha r hr
    refine ev_shift ?_;simp only[spec_l15Reached.l2]
    rw[wrap_up (by omega) (show(i:Int)<(E.length:Int) by omega) (by omega),eta52]
    refine ev_pos (by omega) (ev_pos (by omega) (ev_pos (by omega) ?_))
    by_cases c:rdOf false inn (i:Int)=true
    · rw [if_pos c] at hr
      exact ev_pos c (ev_pos (by omega) hr)
    · rw [if_neg c, List.append_nil] at hr
      exact ev_neg c hr
  · rw [List.nil_append]
    have:=flatN_len E.length (fun i=>if rdOf false inn (i:Int)=true then[rd_T52 E (i:Int)]else[]) (fun i hi=>by
      show(if rdOf false inn (i:Int)=true then[rd_T52 E (i:Int)]else[]).length≤1
      by_cases c:rdOf false inn (i:Int)=true
      · rw[if_pos c];simp
      · rw[if_neg c];simp)
    omega
  · have all:∀x,Reach N E p0 x→∀t,AtE E x t→inn[t]?=some true:=by
      intro x hx
      induction hx with
      |base hd=>
        intro t ht
        rcases h.clo p0 (Or.inl rfl)with c|c|c
        · cases c
        · exact c.elim
        · exact c _ t hd ht
      |step _ a dd ihx=>
        intro s hs
        rcases h.clo _ (Or.inr ⟨_,ihx _ a,rfl⟩)with c|c|c
        · cases c
        · exact c.elim
        · exact c _ s dd hs
    intro y
    rw[List.nil_append]
    constructor
    · intro hy
      obtain⟨i,hi,hb⟩:=flatN_mem hy
      by_cases c:rdOf false inn (i:Int)=true
      · rw [if_pos c] at hb
        rw[rdOf_get _ _ i (by omega)]at c
        exact⟨_,i,h.mar i (by rw[List.getElem?_eq_getElem (by omega),c]),⟨hi,rfl⟩,List.mem_singleton.1 hb⟩
      · rw[if_neg c]at hb;cases hb
    · rintro ⟨x, t, hx, ht, rfl⟩
      have hk:=all x hx t ht
      refine List.mem_flatMap.2 ⟨t,by simpa[List.mem_range'_1]using ht.1,?_⟩
      have hlt:t<inn.length:=by have:=ht.1;omega
      rw[List.getElem?_eq_getElem hlt]at hk
      rw[if_pos (by rw[rdOf_get _ _ t hlt];exact Option.some.inj hk)]
      exact List.mem_singleton.2 rfl
theorem reached1 (he : EnvOk N E) (m : Nat) (hm40 : m ≤ 41) (K : ∀ inn todo, SI N E p0 (fun _ => False) inn todo → todo.length + inn.count false = m → ∃ r, Ev (fun k => spec_l15Reached.l0 k E inn todo) r ∧ SR N E p0 r)
    (q:S36) (l:List ByteArray) (hll:l.length≤1048576) (hq:∀y,y∈l↔Df N q y) (hr:∀y,y∈l→Reach N E p0 y):
    ∀d i:Nat,i+d=l.length→∀inn todo,SI N E p0 (fun z=>z=q) inn todo→(∀j x t,j<i→l[j]?=some x→AtE E x t→inn[t]?=some true)→todo.length+inn.count false=m→∃r,Ev (fun k=>spec_l15Reached.l1 k E inn todo l (i:Int)) r∧SR N E p0 r:=by
  have hm:=he.len
  intro d
  induction d with
  |zero=>
    intro i hi inn todo h hp hc
    have hclo:∀z,(z=p0∨∃t:Nat,inn[t]?=some true∧z=(rd_T52 E (t:Int)).f1)→z∈todo∨False∨∀y t,Df N z y→AtE E y t→inn[t]?=some true:=by
      intro z hz
      rcases h.clo z hz with c|c|c
      · exact Or.inl c
      · refine Or.inr (Or.inr (fun y t hy ht => ?_))
        rw[c]at hy
        obtain⟨j,hj,e⟩:=List.getElem_of_mem ((hq y).2 hy)
        exact hp j y t (by omega) (by rw[List.getElem?_eq_getElem hj,e]) ht
      · exact Or.inr (Or.inr c)
    obtain⟨r,hr1,hr2⟩:=K inn todo {len:=h.len,mar:=h.mar,td:=h.td,tr:=h.tr,clo:=hclo} hc
    refine⟨r,ev_shift ?_,hr2⟩
    simp only[spec_l15Reached.l1]
    exact ev_neg (by omega) hr1
  |succ d ih=>
    intro i hi inn todo h hp hc
    have hl:=h.len
    have hlt:i<l.length:=by omega
    have hx:=List.getElem?_eq_getElem hlt
    have hcast:((i+1:Nat):Int)=(i:Int)+1:=by omega
    have stay:∀inn' todo',SI N E p0 (fun z=>z=q) inn' todo'→(∀s:Nat,inn[s]?=some true→inn'[s]?=some true)→(∀t,AtE E l[i] t→inn'[t]?=some true)→todo'.length+inn'.count false=m→∃r,Ev (fun k=>spec_l15Reached.l1 k E inn' todo' l ((i:Int)+1)) r∧SR N E p0 r:=by
      intro inn' todo' h' hmono hnew hc'
      have:=ih (i+1) (by omega) inn' todo' h' (fun j x t hj hjx ht=>by
        by_cases e:j=i
        · subst e;rw[hx]at hjx;rw[←Option.some.inj hjx]at ht;exact hnew t ht
        · exact hmono t (hp j x t (by omega) hjx ht)) hc'
      rw[hcast]at this
      exact this
    obtain⟨v,hv,hh⟩:=find_ev E (by omega) l[i]
    rcases hh with⟨rfl,hno⟩|⟨t,rfl,ht⟩
    · obtain ⟨r, hr1, hr2⟩ := stay inn todo h (fun _ hs => hs) (fun t ht => absurd ht (hno t)) hc
      refine⟨r,ev_shift ?_,hr2⟩
      simp only[spec_l15Reached.l1]
      rw[rdOf_get _ _ i hlt]
      refine ev_pos (by omega) (ev_pos (by omega) (ev_bind hv (ev_neg (by omega) (ev_shift ?_))))
      simp only[spec_l15Reached.j2]
      rw[wrap_up (by omega) (show(i:Int)<(l.length:Int) by omega) (by omega)]
      exact ev_neg (by decide) hr1
    · have htl : t < inn.length := by have := ht.1; omega
      have htE:=ht.1
      have hgt:=List.getElem?_eq_getElem htl
      by_cases c:inn[t]=true
      · obtain ⟨r, hr1, hr2⟩ := stay inn todo h (fun _ hs => hs) (fun s hs => by rw [at_one E he.new hs ht, hgt, c]) hc
        refine⟨r,ev_shift ?_,hr2⟩
        simp only[spec_l15Reached.l1]
        rw[rdOf_get _ _ i hlt]
        refine ev_pos (by omega) (ev_pos (by omega) (ev_bind hv (ev_pos (by omega) (ev_pos (by omega) (ev_pos (by omega) (ev_shift ?_))))))
        simp only[spec_l15Reached.j2]
        rw[wrap_up (by omega) (show(i:Int)<(l.length:Int) by omega) (by omega)]
        exact ev_neg (by rw[rdOf_get _ _ t htl,c];decide) hr1
      · have c' : inn[t] = false := by simpa using c
        have hcs:=count_set inn t (by rw[hgt,c'])
        have hRx:Reach N E p0 l[i]:=hr _ (List.getElem_mem hlt)
        have hlen1:(todo++[(rd_T52 E (t:Int)).f1]).length=todo.length+1:=by rw[List.length_append,List.length_singleton]
        obtain ⟨r, hr1, hr2⟩ := stay (inn.set t true) (todo ++ [(rd_T52 E (t : Int)).f1]) {
          len:=by rw[List.length_set];exact hl
          mar:=fun s hs=>by
            rcases(set_get inn t s).1 hs with⟨e,_⟩|e
            · rw[e,ht.2];exact hRx
            · exact h.mar s e
          td:=fun z hz=>by
            rcases List.mem_append.1 hz with e|e
            · exact h.td z e
            · rw[List.mem_singleton.1 e];exact⟨he.sm t ht.1,he.ok t ht.1,he.nodes t ht.1⟩
          tr:=fun z hz y hy=>by
            rcases List.mem_append.1 hz with e|e
            · exact h.tr z e y hy
            · rw[List.mem_singleton.1 e]at hy;exact Reach.step hRx ht hy
          clo:=fun z hz=>by
            have old:(z=p0∨∃s:Nat,inn[s]?=some true∧z=(rd_T52 E (s:Int)).f1)→z∈todo++[(rd_T52 E (t:Int)).f1]∨z=q∨∀y s,Df N z y→AtE E y s→(inn.set t true)[s]?=some true:=by
              intro hz
              rcases h.clo z hz with a|a|a
              · exact Or.inl (List.mem_append_left _ a)
              · exact Or.inr (Or.inl a)
              · exact Or.inr (Or.inr (fun y s hy hs=>(set_get inn t s).2 (Or.inr (a y s hy hs))))
            rcases hz with a|⟨s,hs,a⟩
            · exact old (Or.inl a)
            · rcases (set_get inn t s).1 hs with ⟨e, _⟩ | e
              · subst e;exact Or.inl (List.mem_append_right _ (List.mem_singleton.2 a))
              · exact old (Or.inr ⟨s,e,a⟩)}
          (fun s hs=>(set_get inn t s).2 (Or.inr hs)) (fun s hs=>(set_get inn t s).2 (Or.inl ⟨at_one E he.new hs ht,htl⟩)) (by omega)
        refine⟨r,ev_shift ?_,hr2⟩
        simp only[spec_l15Reached.l1]
        rw[rdOf_get _ _ i hlt]
        refine ev_pos (by omega) (ev_pos (by omega) (ev_bind hv (ev_pos (by omega) (ev_pos (by omega) (ev_pos (by omega) (ev_shift ?_))))))
        simp only[spec_l15Reached.j2]
        rw[wrap_up (by omega) (show(i:Int)<(l.length:Int) by omega) (by omega),eta36,Int.toNat_natCast]
        exact ev_pos (by rw[rdOf_get _ _ t htl,c'];decide) (ev_pos (by omega) (ev_pos (by omega) (ev_pos (by omega) (ev_pos (by omega) hr1))))
theorem reached0 (he:EnvOk N E):∀m:Nat,m≤41→∀inn todo,SI N E p0 (fun _=>False) inn todo→todo.length+inn.count false=m→∃r,Ev (fun k=>spec_l15Reached.l0 k E inn todo) r∧SR N E p0 r:=by
  intro m
  induction m with
  |zero=>
    intro _ inn todo h hc
    have:todo=[]:=List.eq_nil_of_length_eq_zero (by omega)
    subst this
    obtain⟨r,hr1,hr2⟩:=collect_ev N E p0 he inn h
    refine⟨r,ev_shift ?_,hr2⟩
    simp only[spec_l15Reached.l0]
    exact ev_neg (by simp) hr1
  |succ m ih=>
    intro hm inn todo h hc
    cases todo with
    |nil=>
      obtain⟨r,hr1,hr2⟩:=collect_ev N E p0 he inn h
      refine⟨r,ev_shift ?_,hr2⟩
      simp only[spec_l15Reached.l0]
      exact ev_neg (by simp) hr1
    |cons q rest=>
      obtain⟨q1,q2,q3⟩:=h.td q (List.mem_cons_self ..)
      have hln:=nm_len N q [] q2
      simp only[List.length_nil]at hln
      rw[List.length_cons]at hc
      have hmem:∀y,y∈nmN N q []↔Df N q y:=fun y=>⟨fun hy=>((nm_mem N q [] y).1 hy).resolve_left (by simp),fun hy=>(nm_mem N q [] y).2 (Or.inr hy)⟩
      obtain ⟨r, hr1, hr2⟩ := reached1 N E p0 he m (by omega) (ih (by omega)) q (nmN N q []) (by omega) hmem (fun y hy => h.tr q (List.mem_cons_self ..) y ((hmem y).1 hy)) (nmN N q []).length 0 (by omega) inn rest {
        len:=h.len,mar:=h.mar,td:=fun z hz=>h.td z (List.mem_cons_of_mem _ hz),tr:=fun z hz=>h.tr z (List.mem_cons_of_mem _ hz)
        clo:=fun z hz=>by
          rcases h.clo z hz with a|a|a
          · rcases List.mem_cons.1 a with e | e
            · exact Or.inr (Or.inl e)
            · exact Or.inl e
          · exact a.elim
          · exact Or.inr (Or.inr a)} (fun j x t hj _ _=>absurd hj (by omega)) (by omega)
      refine⟨r,ev_shift ?_,hr2⟩
      simp only[spec_l15Reached.l0]
      have hcons:rd_T36 (q::rest) 0=q:=rfl
      rw[hcons,List.length_cons]
      exact ev_pos (by omega) (ev_pos (by omega) (ev_bind (spec_names N q q1 q2 [] (by simp only[List.length_nil];omega)) (ev_pos (by omega) hr1)))
theorem reached_ev (he:EnvOk N E) (h1:smV N p0) (h2:okN N p0) (h3:nodesN N p0≤60):∃r,Ev (fun k=>spec_l15Reached.f k E p0.f0 p0.f1 p0.f2 p0.f3) r∧SR N E p0 r:=by
  have hm:=he.len
  have hnone:∀t:Nat,¬(List.replicate E.length false)[t]?=some true:=by
    intro t ht
    have:=List.mem_of_getElem? ht
    have:=List.eq_of_mem_replicate this
    cases this
  obtain ⟨r, hr1, hr2⟩ := reached0 N E p0 he (1 + (List.replicate E.length false).count false) (by rw [List.count_replicate_self]; omega) (List.replicate E.length false) [p0] {
    len:=List.length_replicate ..
    mar:=fun t ht=>absurd ht (hnone t)
    td:=fun q hq=>by rw[List.mem_singleton.1 hq];exact⟨h1,h2,h3⟩
    tr:=fun q hq y hy=>by rw[List.mem_singleton.1 hq]at hy;exact Reach.base hy
    clo:=fun q hq=>by
      rcases hq with e|⟨t,ht,_⟩
      · exact Or.inl (List.mem_singleton.2 e)
      · exact absurd ht (hnone t)} rfl
  refine⟨r,?_,hr2⟩
  simp only[spec_l15Reached.f]
  rw[Int.toNat_natCast,eta36]
  exact ev_pos (by omega) (ev_pos (by omega) hr1)
def Def_ (p:S36):Prop:=∀y,Df N p y→∃t,AtE E y t
theorem defined_ev (hm:E.length≤1048576) (p:S36) (h1:smV N p) (h2:okN N p) (h3:nodesN N p≤60):∃b,Ev (fun k=>spec_l15Defined.f k E p.f0 p.f1 p.f2 p.f3) b∧(b=true↔Def_ N E p):=by
  have hln:=nm_len N p [] h2
  simp only[List.length_nil]at hln
  have hmem:∀y,y∈nmN N p []↔Df N p y:=fun y=>⟨fun hy=>((nm_mem N p [] y).1 hy).resolve_left (by simp),fun hy=>(nm_mem N p [] y).2 (Or.inr hy)⟩
  refine⟨allN (nmN N p []).length (fun i=>@decide (∃t,AtE E (rdOf ByteArray.empty (nmN N p []) (i:Int)) t) (Classical.propDecidable _)),?_,?_⟩
  · simp only [spec_l15Defined.f]
    refine ev_bind (spec_names N p h1 h2 [] (by simp only[List.length_nil];omega)) ?_
    refine idx_all (g:=fun k i=>spec_l15Defined.l0 k E (nmN N p []) i) (nmN N p []).length _ ?_ ?_ ?_
    · refine ev_shift ?_;simp only[spec_l15Defined.l0];exact ev_neg (by omega) (ev_some _)
    · intro i hi hp r hr
      obtain⟨t,ht⟩:=@of_decide_eq_true _ (Classical.propDecidable _) hp
      obtain⟨v,hv,hh⟩:=find_ev E hm (rdOf ByteArray.empty (nmN N p []) (i:Int))
      refine ev_shift ?_;simp only[spec_l15Defined.l0]
      rw[wrap_up (by omega) (show(i:Int)<((nmN N p []).length:Int) by omega) (by omega)]
      rcases hh with⟨_,hno⟩|⟨s,rfl,_⟩
      · exact absurd ht (hno t)
      · exact ev_pos (by omega) (ev_pos (by omega) (ev_bind hv (ev_neg (by omega) hr)))
    · intro i hi hp
      have hno:=@of_decide_eq_false _ (Classical.propDecidable _) hp
      obtain⟨v,hv,hh⟩:=find_ev E hm (rdOf ByteArray.empty (nmN N p []) (i:Int))
      refine ev_shift ?_;simp only[spec_l15Defined.l0]
      rcases hh with⟨rfl,_⟩|⟨s,rfl,hs⟩
      · exact ev_pos (by omega) (ev_pos (by omega) (ev_bind hv (ev_pos (by decide) (ev_some _))))
      · exact absurd ⟨s,hs⟩ hno
  · rw [allN_iff]
    constructor
    · intro h y hy
      obtain⟨i,hi,e⟩:=List.getElem_of_mem ((hmem y).2 hy)
      have:=@of_decide_eq_true _ (Classical.propDecidable _) (h i hi)
      rw[rdOf_get _ _ i hi,e]at this
      exact this
    · intro h i hi
      refine @decide_eq_true _ (Classical.propDecidable _) ?_
      rw[rdOf_get _ _ i hi]
      exact h _ ((hmem _).1 (List.getElem_mem hi))
def AskR (r:List S52×Int):Prop:=(r=([],5)∧∃x,Reach N E p0 x∧∀t,¬AtE E x t)∨(r.2=0∧(∀x,Reach N E p0 x→∃t,AtE E x t)∧SR N E p0 r.1)
theorem not_def {q:S36} (h:¬Def_ N E q):∃y,Df N q y∧∀t,¬AtE E y t:=by
  refine Classical.byContradiction fun hn=>h (fun y hy=>Classical.byContradiction fun hc=>hn ⟨y,hy,fun t ht=>hc ⟨t,ht⟩⟩)
theorem ask_ev (he:EnvOk N E) (h1:smV N p0) (h2:okN N p0) (h3:nodesN N p0≤60):∃r,Ev (fun k=>spec_l15Ask.j0 k E false p0.f0 p0.f1 p0.f2 p0.f3) r∧AskR N E p0 r:=by
  have hm:=he.len
  obtain⟨part,hpart,hS⟩:=reached_ev N E p0 he h1 h2 h3
  obtain⟨b,hb,hd⟩:=defined_ev N E (by omega) p0 h1 h2 h3
  have hplen:=hS.1
  cases b with
  |false=>
    refine⟨([],5),ev_shift ?_,Or.inl ⟨rfl,?_⟩⟩
    · simp only [spec_l15Ask.j0]
      exact ev_neg (by decide) (ev_bind hpart (ev_bind hb (ev_neg (by decide) (ev_some _))))
    · obtain ⟨y, hy, hn⟩ := not_def N E (fun hh => by have := hd.2 hh; cases this)
      exact⟨y,Reach.base hy,hn⟩
  |true=>
    have D0:=hd.1 rfl
    have loop:∀d i:Nat,i+d=part.length→(∀j:Nat,j<i→Def_ N E (rd_T52 part (j:Int)).f1)→∃r,Ev (fun k=>spec_l15Ask.l0 k E part (i:Int)) r∧AskR N E p0 r:=by
      intro d
      induction d with
      |zero=>
        intro i hi hb
        refine⟨(part,0),ev_shift ?_,Or.inr ⟨rfl,?_,hS⟩⟩
        · simp only[spec_l15Ask.l0];exact ev_neg (by omega) (ev_some _)
        · intro x hx
          cases hx with
          |base hd=>exact D0 x hd
          |step hx' a dd=>
            obtain⟨j,hj,e⟩:=List.getElem_of_mem ((hS.2 _).2 ⟨_,_,hx',a,rfl⟩)
            have:=hb j (by omega)
            rw[rd52 part j hj,e]at this
            exact this x dd
      |succ d ih=>
        intro i hi hb
        have hlt:i<part.length:=by omega
        obtain⟨x,t,hx,ht,e⟩:=(hS.2 _).1 (List.getElem_mem hlt)
        rw[←rd52 part i hlt]at e
        obtain⟨b,hb1,hb2⟩:=defined_ev N E (by omega) (rd_T52 part (i:Int)).f1 (by rw[e];exact he.sm t ht.1) (by rw[e];exact he.ok t ht.1) (by rw[e];exact he.nodes t ht.1)
        cases b with
        |false=>
          refine⟨([],5),ev_shift ?_,Or.inl ⟨rfl,?_⟩⟩
          · simp only [spec_l15Ask.l0]
            exact ev_pos (by omega) (ev_pos (by omega) (ev_bind hb1 (ev_neg (by decide) (ev_some _))))
          · obtain ⟨y, hy, hn⟩ := not_def N E (fun hh => by have := hb2.2 hh; cases this)
            rw[e]at hy
            exact⟨y,Reach.step hx ht hy,hn⟩
        |true=>
          obtain⟨r,hr1,hr2⟩:=ih (i+1) (by omega) (fun j hj=>by rcases Nat.lt_succ_iff_lt_or_eq.1 hj with c|c;exact hb j c;subst c;exact hb2.1 rfl)
          refine⟨r,ev_shift ?_,hr2⟩
          simp only[spec_l15Ask.l0]
          rw[wrap_up (by omega) (show(i:Int)<(part.length:Int) by omega) (by omega)]
          rw[show(((i+1:Nat):Int))=(i:Int)+1 from by omega]at hr1
          exact ev_pos (by omega) (ev_pos (by omega) (ev_bind hb1 (ev_pos rfl hr1)))
    obtain⟨r,hr1,hr2⟩:=loop part.length 0 (by omega) (fun j hj=>absurd hj (by omega))
    refine⟨r,ev_shift ?_,hr2⟩
    simp only[spec_l15Ask.j0]
    exact ev_neg (by decide) (ev_bind hpart (ev_bind hb (ev_pos rfl hr1)))
end
section
variable (N:Nat) (E:List S52) (p0:S36)
theorem spec_pure_loop (he:EnvOk N E) (part:List S52) (hS:SR N E p0 part):Ev (fun k=>spec_IsPure.l0 k part 0) (allN part.length (fun i=>clN N (rd_T52 part (i:Int)).f1)):=by
  have hl:=hS.1
  have sm:∀i:Nat,i<part.length→smV N (rd_T52 part (i:Int)).f1:=by
    intro i hi
    obtain⟨x,t,hx,ht,e⟩:=(hS.2 _).1 (List.getElem_mem hi)
    rw[rd52 part i hi,e];exact he.sm t ht.1
  refine idx_all (g:=fun k i=>spec_IsPure.l0 k part i) part.length _ ?_ ?_ ?_
  · refine ev_shift ?_;simp only[spec_IsPure.l0];exact ev_neg (by omega) (ev_some _)
  · intro i hi hp r hr
    refine ev_shift ?_;simp only[spec_IsPure.l0]
    rw[wrap_up (by omega) (show(i:Int)<(part.length:Int) by omega) (by omega)]
    exact ev_pos (by omega) (ev_pos (by omega) (ev_bind (spec_clean N _ (sm i hi)) (ev_pos hp hr)))
  · intro i hi hp
    refine ev_shift ?_;simp only[spec_IsPure.l0]
    exact ev_pos (by omega) (ev_pos (by omega) (ev_bind (spec_clean N _ (sm i hi)) (ev_neg (by rw[hp];decide) (ev_some _))))
theorem pure_both (he:EnvOk N E) (h1:smV N p0) (h2:okN N p0) (h3:nodesN N p0≤60):∃b,
    Ev (fun k=>(spec_l15Ask.j0 k E false p0.f0 p0.f1 p0.f2 p0.f3).bind fun bt=>(if bt.2=0 then((spec_l15Clean.f k p0.f0 p0.f1 p0.f2 p0.f3).bind fun t=>(spec_IsPure.j0 k bt.1 (!t)))else(spec_IsPure.j0 k bt.1 true))) b∧
    Ev (fun k=>(impl_checkReferred.j0 k E false p0.f0 p0.f1 p0.f2 p0.f3).bind fun t=>(if t=0 then((impl_referred.f k E p0.f0 p0.f1 p0.f2 p0.f3).bind fun bt=>((impl_Pattern_isPlainKind.f k p0.f0 p0.f1 p0.f2 p0.f3).bind fun t1=>(if t1=true then((impl_Pattern__impl_Pattern_isPlainKind.f k bt.1).bind fun t2=>(some t2))else(some false))))else(some false))) b:=by
  obtain⟨a,ha,hA⟩:=ask_ev N E p0 he h1 h2 h3
  obtain⟨r,hr,hR⟩:=referred_ev N E p0 he h1 h2 h3
  have hcheck:Ev (fun k=>impl_checkReferred.j0 k E false p0.f0 p0.f1 p0.f2 p0.f3) (if r.2=true then 0 else 5):=by
    refine ev_shift ?_;simp only[impl_checkReferred.j0,impl_unless.f]
    refine ev_neg (by decide) (ev_bind hr ?_)
    by_cases c:r.2=true
    · simp only[if_pos c];exact ev_some _
    · simp only[if_neg c];exact ev_some _
  rcases hA with⟨ea,x,hx,hno⟩|⟨ea,hall,hS⟩
  · subst ea
    rcases hR with⟨er,_⟩|⟨_,hal,_⟩
    · subst er
      refine⟨false,ev_bind ha (ev_neg (by decide) (ev_shift ?_)),ev_bind hcheck (ev_neg (by decide) (ev_some _))⟩
      simp only[spec_IsPure.j0]
      exact ev_pos trivial (ev_some _)
    · obtain ⟨t, ht⟩ := hal x hx
      exact absurd ht (hno t)
  · rcases hR with ⟨_, x, hx, hno⟩ | ⟨er, _, hrl, hrm⟩
    · obtain ⟨t, ht⟩ := hall x hx
      exact absurd ht (hno t)
    · rw [if_pos er] at hcheck
      have hsm:∀y,y∈r.1→smV N y:=by
        intro y hy
        obtain⟨x,t,_,ht,e⟩:=(hrm y).1 hy
        rw[e];exact he.sm t ht.1
      cases hc:clN N p0 with
      |false=>
        have hcl:=spec_clean N p0 h1
        have hci:=impl_clean N p0 h1
        rw[hc]at hcl hci
        refine⟨false,ev_bind ha (ev_pos ea (ev_bind hcl (ev_shift ?_))),ev_bind hcheck (ev_pos rfl (ev_bind hr (ev_bind hci (ev_neg (by decide) (ev_some _)))))⟩
        simp only[spec_IsPure.j0]
        exact ev_pos rfl (ev_some _)
      |true=>
        have hcl:=spec_clean N p0 h1
        have hci:=impl_clean N p0 h1
        rw[hc]at hcl hci
        have same:allN a.1.length (fun i=>clN N (rd_T52 a.1 (i:Int)).f1)=r.1.all (clN N):=by
          rw[Bool.eq_iff_iff,allN_iff,List.all_eq_true]
          constructor
          · intro h y hy
            obtain⟨x,t,hx,ht,e⟩:=(hrm y).1 hy
            obtain⟨i,hi,e2⟩:=List.getElem_of_mem ((hS.2 _).2 ⟨x,t,hx,ht,rfl⟩)
            have:=h i hi
            rw[rd52 a.1 i hi,e2, ←e]at this
            exact this
          · intro h i hi
            obtain⟨x,t,hx,ht,e⟩:=(hS.2 _).1 (List.getElem_mem hi)
            rw[rd52 a.1 i hi,e]
            exact h _ ((hrm _).2 ⟨x,t,hx,ht,rfl⟩)
        refine⟨r.1.all (clN N),ev_bind ha (ev_pos ea (ev_bind hcl (ev_shift ?_))),ev_bind hcheck (ev_pos rfl (ev_bind hr (ev_bind hci (ev_pos rfl (ev_bind (impl_clean_list N (fun p=>impl_clean N p) r.1 hrl hsm) (ev_some _))))))⟩
        simp only[spec_IsPure.j0]
        rw[←same]
        exact ev_neg (by decide) (spec_pure_loop N E p0 he a.1 hS)
end
theorem isPure_ev (N:Nat) (E:List S52) (p:S36) (hE:smE N E) (hp:smV N p):∃b,Ev (fun k=>spec_IsPure.f k E p.f0 p.f1 p.f2 p.f3) b∧Ev (fun k=>impl_IsPure.f k E p.f0 p.f1 p.f2 p.f3) b:=by
  have bad:Ev (fun k=>(spec_l15Ask.j0 k E true p.f0 p.f1 p.f2 p.f3).bind fun bt=>(if bt.2=0 then((spec_l15Clean.f k p.f0 p.f1 p.f2 p.f3).bind fun t=>(spec_IsPure.j0 k bt.1 (!t)))else(spec_IsPure.j0 k bt.1 true))) false:=by
    refine ev_bind (a:=(([]:List S52),(1:Int))) (ev_shift ?_) (ev_neg (by decide) (ev_shift ?_))
    · simp only[spec_l15Ask.j0];exact ev_pos trivial (ev_some _)
    · simp only[spec_IsPure.j0];exact ev_pos trivial (ev_some _)
  have bad2:Ev (fun k=>(impl_checkReferred.j0 k E true p.f0 p.f1 p.f2 p.f3).bind fun t=>(if t=0 then((impl_referred.f k E p.f0 p.f1 p.f2 p.f3).bind fun bt=>((impl_Pattern_isPlainKind.f k p.f0 p.f1 p.f2 p.f3).bind fun t1=>(if t1=true then((impl_Pattern__impl_Pattern_isPlainKind.f k bt.1).bind fun t2=>(some t2))else(some false))))else(some false))) false:=by
    refine ev_bind (a:=(1:Int)) (ev_shift ?_) (ev_neg (by decide) (ev_some _))
    simp only[impl_checkReferred.j0];exact ev_pos trivial (ev_some _)
  obtain⟨b,hb1,hb2,hb⟩:=validEnv_ev N E hE
  obtain⟨c,hc1,hc2,hc⟩:=validPattern_ev N p hp
  simp only[spec_IsPure.f,impl_IsPure.f,spec_l15Ask.f,impl_checkReferred.f,Option.bind_assoc]
  cases b with
  |false=>
    exact⟨false,ev_bind hb1 (Ev.congr (fun _=>by rw[if_neg (by decide)]) bad),ev_bind hb2 (Ev.congr (fun _=>by rw[if_neg (by decide)]) bad2)⟩
  |true=>
    cases c with
    |false=>
      refine⟨false,ev_bind hb1 (Ev.congr (fun _=>by rw[if_pos rfl,Option.bind_assoc]) (ev_bind hc1 bad)),ev_bind hb2 (Ev.congr (fun _=>by rw[if_pos rfl,Option.bind_assoc]) (ev_bind hc2 bad2))⟩
    |true=>
      obtain⟨e1,e2⟩:=hb rfl
      obtain⟨p1,p2⟩:=hc rfl
      have he:EnvOk N E:=⟨e1,fun i hi=>(e2 i hi).1.1,fun i hi=>(e2 i hi).1.2,fun i hi=>by rw[rd52 E i hi];exact(hE.2 _ (List.getElem_mem hi)).2,fun i hi=>(e2 i hi).2⟩
      obtain⟨r,hr1,hr2⟩:=pure_both N E p he hp p1 p2
      exact⟨r,ev_bind hb1 (Ev.congr (fun _=>by rw[if_pos rfl,Option.bind_assoc]) (ev_bind hc1 hr1)),ev_bind hb2 (Ev.congr (fun _=>by rw[if_pos rfl,Option.bind_assoc]) (ev_bind hc2 hr2))⟩
theorem FnExactIsPure:laws_FnExactIsPure.Pure:=by
  intro x0 x1 w0 w1
  suffices hh:Ev (fun k=>laws_FnExactIsPure.f k x0 x1.f0 x1.f1 x1.f2 x1.f3) true by
    obtain⟨K,hK⟩:=hh
    exact⟨K,hK K (Nat.le_refl _)⟩
  simp only[laws_FnExactIsPure.f]
  obtain⟨t1,e1,b1,q1⟩:=sz_env x0 w0 1048576 (by omega) (by omega)
  refine ev_bind e1 (ev_skip fun c1=>?_)
  have q:=q1 (by omega)
  obtain⟨t2,e2,b2,q2⟩:=sz_pat x1 w1 t1 (by omega) (by omega)
  refine ev_bind e2 (ev_skip fun c2=>?_)
  have qq:smG 1048577 x1:=smG_le (by omega) (q2 (by omega))
  obtain⟨E,h0,s0⟩:=to_env 1048577 x0 q.1 q.2
  obtain⟨p,h1,s1⟩:=to_pat 1048577 x1 qq
  obtain⟨b,hs,hi⟩:=isPure_ev _ E p s0 s1
  refine ev_bind h0 (ev_bind h1 (ev_bind hs (ev_bind h0 (ev_bind h1 (ev_bind hi (ev_neg (bne_ff _) ?_))))))
  refine ev_bind h0 (ev_bind (eq_env _ E s0) (ev_pos rfl ?_))
  exact ev_bind h1 (ev_bind (eq_pat _ p s1) (ev_pos rfl (ev_some _)))
end Go.Proofs.Ytdihlgkcpooadaa.Pure
