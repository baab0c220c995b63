/- The program's ValidEnv returns what the reference's returns: both ask each name and each pattern, count its nodes, and ask that no name comes twice; no condition. -/
import Derived.Test.YtdihlgkcpooadaaYValidEnvO
import Derived.Test.YtdihlgkcpooadaaYValidEnvVPats
import Derived.Test.YtdihlgkcpooadaaYValidEnvVValues
namespace Go.Proofs.Ytdihlgkcpooadaa.Pure
open Go.Proofs.Ytdihlgkcpooadaa.PureFnExactValidEnv Go.RowKit Go.Proofs.YtdihlgkcpooadaaG Go.Proofs.Ytdihlgkcpooadaa.PFnExactValidEnv Go.Proofs.YtdihlgkcpooadaaW.PrintWords Go.Proofs.YtdihlgkcpooadaaW.PrintLast Go.Proofs.YtdihlgkcpooadaaW.PrintMore
set_option linter.unusedSimpArgs false
set_option linter.unusedVariables false
theorem cut1 (c:UInt8):(⟨#[]⟩:ByteArray)++(⟨#[c]⟩:ByteArray).extract (0:Int).toNat (wrap64 (0+1)).toNat=⟨#[c]⟩:=by
  apply ByteArray.ext;simp[wrap64]
theorem form_one (c:UInt8) (hc:¬((c.toNat:Int)=112)):Ev (fun k=>spec_l11Form.l0 k ⟨#[c]⟩ 0 ⟨#[]⟩ 0) (0,⟨#[c]⟩):=by
  have hs:((⟨#[c]⟩:ByteArray).size:Int)=1:=rfl
  refine ev_shift ?_
  simp only[spec_l11Form.l0]
  have hw:wrap64 (0+1)=1:=by unfold wrap64;omega
  rw[hs,cut1]
  refine ev_pos (by decide) (ev_pos (by decide) (ev_neg hc (ev_pos (by omega) (ev_pos (by omega) (ev_pos ?_ ?_)))))
  · rw[ByteArray.size_extract];show 0+_≤_;rw[hw];simp;omega
  refine ev_shift ?_
  simp only[spec_l11Form.l0]
  rw[hs]
  exact ev_neg (by omega) (ev_some _)
theorem form_none:Ev (fun k=>spec_l11Form.l0 k ⟨#[]⟩ 0 ⟨#[]⟩ 0) (0,⟨#[]⟩):=by
  refine ev_shift ?_
  simp only[spec_l11Form.l0]
  exact ev_neg (by decide) (ev_some _)
def leafForm (op:Int):ByteArray:=if 1≤op∧op≤5 then⟨#[115]⟩else if 6≤op∧op≤10 then⟨#[110]⟩else if op=23∨op=24 then⟨#[120]⟩else⟨#[]⟩
theorem form_leaf (op:Int) (h:(1≤op∧op≤17)∨op=23∨op=24):Ev (fun k=>spec_l11Form.f k op) (0,leafForm op):=by
  simp only[spec_l11Form.f,spec_l11Word.f]
  have hh:op=1∨op=2∨op=3∨op=4∨op=5∨op=6∨op=7∨op=8∨op=9∨op=10∨op=11∨op=12∨op=13∨op=14∨op=15∨op=16∨op=17∨op=23∨op=24:=by omega
  rcases hh with e|e|e|e|e|e|e|e|e|e|e|e|e|e|e|e|e|e|e<;>subst e
  · exact ev_pos rfl (ev_some _)
  all_goals(refine ev_neg (by decide) ?_;first|exact form_one 115 (by decide)|exact form_one 110 (by decide)|exact form_one 120 (by decide)|exact form_none)
theorem z_false {num:Int} (b:Bool) (n0:¬num=0):(num==0&&b)=false:=by rw[beq_false_of_ne n0];rfl
theorem nil_iff (t:ByteArray):(t.toList=([]:List UInt8))=(t.toList.isEmpty=true):=by rw[List.isEmpty_iff]
theorem idx_and2 {g : Nat → Int → Option Bool} (n : Nat) (P : Nat → Bool) (r0 : Bool) (h0 : (∀ i, i < n → P i = true) → Ev (fun k => g k (n : Int)) r0)
    (h1:∀i,i<n→P i=true→∀r,Ev (fun k=>g k ((i:Int)+1)) r→Ev (fun k=>g k (i:Int)) r)
    (h2:∀i,i<n→P i=false→Ev (fun k=>g k (i:Int)) false):Ev (fun k=>g k 0) (allN n P&&r0):=by
  suffices h:∀d i:Nat,i+d=n→(∀j,j<i→P j=true)→Ev (fun k=>g k (i:Int)) ((List.range' i d).all P&&r0) from h n 0 (Nat.zero_add _) (fun j hj=>absurd hj (by omega))
  intro d
  induction d with
  |zero=>
    intro i hi hb
    have e:i=n:=by omega
    subst e
    exact h0 hb
  |succ d ih=>
    intro i hi hb
    rw[List.range'_succ,List.all_cons]
    cases hp:P i with
    |false=>exact h2 i (by omega) hp
    |true=>exact h1 i (by omega) hp _ (by simpa using ih (i+1) (by omega) (fun j hj=>by rcases Nat.lt_succ_iff_lt_or_eq.1 hj with h|h;exact hb j h;rw[h];exact hp))
def kidsN (op:Int):Nat:=if op=18∨op=19 then 2 else if op=20∨op=21∨op=22 then 1 else 0
def argP (op num:Int) (t:ByteArray):Bool:=
  if op=1 then num==0&&decide (t.size≤200)
  else if 2≤op∧op≤5 then num==0&&(decide (t.size≤200)&& !t.toList.isEmpty)
  else if 6≤op∧op≤10 then t.toList.isEmpty&&(decide (0≤num)&&decide (num≤200))
  else if 21≤op∧op≤24 then num==0&&isNameS t
  else if 1≤op∧op≤24 then num==0&&t.toList.isEmpty
  else false
theorem form_p:Ev (fun k=>spec_l11Form.l0 k ⟨#[112]⟩ 0 ⟨#[]⟩ 0) (1,⟨#[]⟩):=by
  have hs:((⟨#[112]⟩:ByteArray).size:Int)=1:=rfl
  have hw:wrap64 (0+1)=1:=by unfold wrap64;omega
  have hb:bt (⟨#[112]⟩:ByteArray) 0=112:=rfl
  refine ev_shift ?_
  simp only[spec_l11Form.l0]
  rw[hs,hw,hb]
  refine ev_pos (by decide) (ev_pos (by decide) (ev_pos rfl (ev_shift ?_)))
  simp only[spec_l11Form.l0]
  rw[hs]
  exact ev_neg (by decide) (ev_some _)
theorem form_pp:Ev (fun k=>spec_l11Form.l0 k ⟨#[112,112]⟩ 0 ⟨#[]⟩ 0) (2,⟨#[]⟩):=by
  have hs:((⟨#[112,112]⟩:ByteArray).size:Int)=2:=rfl
  have hw:wrap64 (0+1)=1:=by unfold wrap64;omega
  have hw2:wrap64 (1+1)=2:=by unfold wrap64;omega
  have hb:bt (⟨#[112,112]⟩:ByteArray) 0=112:=rfl
  have hb2:bt (⟨#[112,112]⟩:ByteArray) 1=112:=rfl
  refine ev_shift ?_
  simp only[spec_l11Form.l0]
  rw[hs,hw,hb]
  refine ev_pos (by decide) (ev_pos (by decide) (ev_pos rfl (ev_shift ?_)))
  simp only[spec_l11Form.l0]
  rw[hs,hw2,hb2]
  refine ev_pos (by decide) (ev_pos (by decide) (ev_pos rfl (ev_shift ?_)))
  simp only[spec_l11Form.l0]
  rw[hs]
  exact ev_neg (by decide) (ev_some _)
theorem cut2:(⟨#[]⟩:ByteArray)++(⟨#[112,120]⟩:ByteArray).extract (1:Int).toNat (2:Int).toNat=⟨#[120]⟩:=by
  apply ByteArray.ext;simp
theorem form_px:Ev (fun k=>spec_l11Form.l0 k ⟨#[112,120]⟩ 0 ⟨#[]⟩ 0) (1,⟨#[120]⟩):=by
  have hs:((⟨#[112,120]⟩:ByteArray).size:Int)=2:=rfl
  have hw:wrap64 (0+1)=1:=by unfold wrap64;omega
  have hw2:wrap64 (1+1)=2:=by unfold wrap64;omega
  have hb:bt (⟨#[112,120]⟩:ByteArray) 0=112:=rfl
  have hb2:bt (⟨#[112,120]⟩:ByteArray) 1=120:=rfl
  refine ev_shift ?_
  simp only[spec_l11Form.l0]
  rw[hs,hw,hb]
  refine ev_pos (by decide) (ev_pos (by decide) (ev_pos rfl (ev_shift ?_)))
  simp only[spec_l11Form.l0]
  rw[hs,hw2,hb2,cut2]
  refine ev_pos (by decide) (ev_pos (by decide) (ev_neg (by decide) (ev_pos (by decide) (ev_pos (by decide) (ev_pos ?_ (ev_shift ?_))))))
  · rw[ByteArray.size_extract];show 0+_≤_;simp;omega
  simp only[spec_l11Form.l0]
  rw[hs]
  exact ev_neg (by decide) (ev_some _)
def restF (op:Int):ByteArray:=if op=21∨op=22 then⟨#[120]⟩else leafForm op
theorem form_all (op:Int) (h:1≤op∧op≤24):Ev (fun k=>spec_l11Form.f k op) ((kidsN op:Int),restF op):=by
  by_cases hl:(1≤op∧op≤17)∨op=23∨op=24
  · have := form_leaf op hl
    rw[show(kidsN op:Int)=0 from by unfold kidsN;rw[if_neg (by omega),if_neg (by omega)];rfl,show restF op=leafForm op from if_neg (by omega)]
    exact this
  · have hh : op = 18 ∨ op = 19 ∨ op = 20 ∨ op = 21 ∨ op = 22 := by omega
    simp only[spec_l11Form.f,spec_l11Word.f]
    rcases hh with e|e|e|e|e<;>subst e<;>refine ev_neg (by decide) ?_
    · exact form_pp
    · exact form_pp
    · exact form_p
    · exact form_px
    · exact form_px
theorem node_ev (op num:Int) (t:ByteArray) (l3:List S36):Ev (fun k=>spec_l11Node.f k op num t l3) (argP op num t&&decide (l3.length=kidsN op)):=by
  simp only[spec_l11Node.f]
  refine ev_bindc (spec_l00In_eq _ _ _) ?_
  by_cases hr:1≤op∧op≤24
  · refine ev_pos (by simpa using hr) (ev_bind (form_all op hr) ?_)
    by_cases hk:l3.length=kidsN op
    · rw [decide_eq_true hk, Bool.and_true]
      refine ev_pos (by simp only;omega) ?_
      simp only[nil_iff]
      have e1:((⟨#[115]⟩:ByteArray).toList=([115]:List UInt8)):=by rw[Go.ByteArray.toList_eq]
      have e2:((⟨#[110]⟩:ByteArray).toList=([110]:List UInt8)):=by rw[Go.ByteArray.toList_eq]
      have e3:((⟨#[120]⟩:ByteArray).toList=([120]:List UInt8)):=by rw[Go.ByteArray.toList_eq]
      have e4:((⟨#[]⟩:ByteArray).toList=([]:List UInt8)):=by rw[Go.ByteArray.toList_eq]
      by_cases c1:1≤op∧op≤5
      · rw [show restF op = ⟨#[115]⟩ from (if_neg (by omega)).trans (if_pos c1)]
        refine ev_pos e1 ?_
        by_cases c:op=1
        · have hv : argP op num t = (num == 0 && decide (t.size ≤ 200)) := if_pos c
          rw[hv]
          by_cases n0:num=0
          · by_cases s0 : t.size ≤ 200
            · refine ev_pos n0 (ev_pos (by omega) (ev_pos c ?_));simpa[n0,s0]using ev_some true
            · refine ev_pos n0 (ev_neg (by omega) ?_);simpa[n0,s0]using ev_some false
          · refine ev_neg n0 ?_;rw[z_false _ n0];exact ev_some false
        · have hv:argP op num t=(num==0&&(decide (t.size≤200)&& !t.toList.isEmpty)):=by
            unfold argP;rw[if_neg c,if_pos (by omega)]
          rw[hv]
          by_cases n0:num=0
          · by_cases s0 : t.size ≤ 200
            · refine ev_pos n0 (ev_pos (by omega) (ev_neg c ?_));simpa[n0,s0]using ev_some _
            · refine ev_pos n0 (ev_neg (by omega) ?_);simpa[n0,s0]using ev_some false
          · refine ev_neg n0 ?_;rw[z_false _ n0];exact ev_some false
      by_cases c2:6≤op∧op≤10
      · rw [show restF op = ⟨#[110]⟩ from (if_neg (by omega)).trans ((if_neg c1).trans (if_pos c2))]
        refine ev_neg (by rw[e2];decide) (ev_pos e2 ?_)
        have hv:argP op num t=(t.toList.isEmpty&&(decide (0≤num)&&decide (num≤200))):=by
          unfold argP;rw[if_neg (by omega),if_neg (by omega),if_pos c2]
        rw[hv]
        cases t.toList.isEmpty with
        |true=>exact ev_pos rfl (ev_bindc (spec_l00In_eq _ _ _) (by simpa using ev_some _))
        |false=>exact ev_neg (by decide) (by simpa using ev_some false)
      by_cases c3:21≤op∧op≤24
      · have hx:restF op=⟨#[120]⟩:=by
          unfold restF leafForm
          by_cases c:op=21∨op=22
          · exact if_pos c
          · rw[if_neg c,if_neg c1,if_neg c2,if_pos (by omega)]
        rw[hx]
        refine ev_neg (by rw[e3];decide) (ev_neg (by rw[e3];decide) (ev_pos e3 ?_))
        have hv:argP op num t=(num==0&&isNameS t):=by
          unfold argP;rw[if_neg (by omega),if_neg (by omega),if_neg (by omega),if_pos c3]
        rw[hv]
        by_cases n0:num=0
        · exact ev_pos n0 (ev_bind (spec_IsName_ev t) (by simpa[n0]using ev_some _))
        · exact ev_neg n0 (by rw[z_false _ n0];exact ev_some false)
      · have hx:restF op=⟨#[]⟩:=by
          unfold restF leafForm
          rw[if_neg (by omega),if_neg c1,if_neg c2,if_neg (by omega)]
        rw[hx]
        refine ev_neg (by rw[e4];decide) (ev_neg (by rw[e4];decide) (ev_neg (by rw[e4];decide) ?_))
        have hv:argP op num t=(num==0&&t.toList.isEmpty):=by
          unfold argP;rw[if_neg (by omega),if_neg (by omega),if_neg (by omega),if_neg c3,if_pos hr]
        rw[hv]
        by_cases n0:num=0
        · exact ev_pos n0 (by simpa[n0]using ev_some _)
        · exact ev_neg n0 (by rw[z_false _ n0];exact ev_some false)
    · rw [decide_eq_false hk, Bool.and_false]
      exact ev_neg (by simp only;omega) (ev_some _)
  · have hv:argP op num t=false:=by
      unfold argP;rw[if_neg (by omega),if_neg (by omega),if_neg (by omega),if_neg (by omega),if_neg hr]
    rw[hv,Bool.false_and]
    exact ev_neg (by simpa using hr) (ev_some _)
theorem isArgument_ev (op num:Int) (t:ByteArray):Ev (fun k=>impl_isArgument.f k op num t) (argP op num t):=by
  simp only[impl_isArgument.f,impl_isShort.f,impl_hasSet.f,impl_hasNumber.f,impl_hasName.f,impl_isPatternKind.f,impl_within_eq,Option.bind_some,nil_iff]
  have hq:((t.size:Int)≤200)=(t.size≤200):=by rw[eq_iff_iff];omega
  simp only[hq]
  by_cases c:op=1
  · rw [show argP op num t = (num == 0 && decide (t.size ≤ 200)) from if_pos c]
    refine ev_pos c ?_
    by_cases n0:num=0
    · exact ev_pos n0 (by simpa[n0]using ev_some _)
    · exact ev_neg n0 (by rw[z_false _ n0];exact ev_some false)
  refine ev_neg c ?_
  by_cases c1:2≤op∧op≤5
  · have hv:argP op num t=(num==0&&(decide (t.size≤200)&& !t.toList.isEmpty)):=by
      unfold argP;rw[if_neg c,if_pos (by omega)]
    rw[hv]
    refine ev_pos (by simpa using c1) ?_
    by_cases n0:num=0
    · refine ev_pos n0 ?_
      cases t.toList.isEmpty with
      |true=>exact ev_pos rfl (by simpa using ev_some false)
      |false=>exact ev_neg (by decide) (by simpa[n0]using ev_some _)
    · exact ev_neg n0 (by rw[z_false _ n0];exact ev_some false)
  refine ev_neg (by simpa using c1) ?_
  by_cases c2:6≤op∧op≤10
  · have hv:argP op num t=(t.toList.isEmpty&&(decide (0≤num)&&decide (num≤200))):=by
      unfold argP;rw[if_neg (by omega),if_neg (by omega),if_pos c2]
    rw[hv]
    refine ev_pos (by simpa using c2) ?_
    cases t.toList.isEmpty with
    |true=>exact ev_pos rfl (by simpa using ev_some _)
    |false=>exact ev_neg (by decide) (by simpa using ev_some false)
  refine ev_neg (by simpa using c2) ?_
  by_cases c3:21≤op∧op≤24
  · have hv:argP op num t=(num==0&&isNameS t):=by
      unfold argP;rw[if_neg (by omega),if_neg (by omega),if_neg (by omega),if_pos c3]
    rw[hv]
    refine ev_pos (by simpa using c3) ?_
    by_cases n0:num=0
    · exact ev_pos n0 (ev_bind (impl_IsName_ev t) (by simpa[n0]using ev_some _))
    · exact ev_neg n0 (by rw[z_false _ n0];exact ev_some false)
  refine ev_neg (by simpa using c3) ?_
  by_cases c4:1≤op∧op≤24
  · have hv:argP op num t=(num==0&&t.toList.isEmpty):=by
      unfold argP;rw[if_neg (by omega),if_neg (by omega),if_neg (by omega),if_neg c3,if_pos c4]
    rw[hv]
    refine ev_pos (by simpa using c4) ?_
    by_cases n0:num=0
    · exact ev_pos n0 (by simpa[n0]using ev_some _)
    · exact ev_neg n0 (by rw[z_false _ n0];exact ev_some false)
  · have hv:argP op num t=false:=by
      unfold argP;rw[if_neg (by omega),if_neg (by omega),if_neg (by omega),if_neg c3,if_neg c4]
    rw[hv];exact ev_neg (by simpa using c4) (ev_some _)
theorem kidsOf_ev (op:Int):Ev (fun k=>impl_kidsOf.f k op) (kidsN op:Int):=by
  refine⟨1,fun k hk=>?_⟩
  obtain⟨k,rfl⟩:∃m,k=m+1:=⟨k- 1,by omega⟩
  simp only[impl_kidsOf.f,impl_kidsOf.j0,kidsN]
  by_cases h1:op=18
  · subst h1;rfl
  by_cases h2:op=19
  · subst h2;rfl
  by_cases h3:op=20
  · subst h3;rfl
  by_cases h4:op=21
  · subst h4;rfl
  by_cases h5:op=22
  · subst h5;rfl
  rw[if_neg h1,if_neg (by simpa using h2),if_neg h3,if_neg h4,if_neg h5,if_neg (by omega),if_neg (by omega)];rfl
theorem rd36 (l:List S36) (i:Nat) (h:i<l.length):rd_T36 l (i:Int)=l[i]:=by
  unfold rd_T36;exact getD_get _ _ _ h
def Same (c v u:Int):Prop:=(v= -1∧u=61)∨(1≤v∧u=c+v∧u≤60)
theorem count_loop (n : Nat) (ih : ∀ (p : S36), smV n p → ∀ c : Int, 0 ≤ c → c ≤ 60 → ∃ v u, Ev (fun k => spec_l11Valid.f k p.f0 p.f1 p.f2 p.f3 (60 - c)) v ∧ Ev (fun k => impl_countPattern.f k p.f0 p.f1 p.f2 p.f3 c) u ∧ Same c v u)
    (l:List S36) (hl:l.length≤1048576) (h:∀y,y∈l→smV n y) (c:Int) (h0:0≤c) (f0 f1:Int) (f2:ByteArray):∀d i:Nat,i+d=l.length→∀m:Int,1≤m→c+m≤60→
    ∃v u,Ev (fun k=>spec_l11Valid.l0 k (60-c) m (i:Int) f0 f1 f2 l) v∧Ev (fun k=>impl_countPattern.l0 k (c+m) l (l.length:Int) (i:Int)) u∧Same c v u:=by
  intro d
  induction d with
  |zero=>
    intro i hi m hm hm1
    refine⟨m,c+m,ev_shift ?_,ev_shift ?_,Or.inr ⟨hm,rfl,hm1⟩⟩
    · simp only[spec_l11Valid.l0];exact ev_neg (by omega) (ev_some _)
    · simp only[impl_countPattern.l0];exact ev_neg (by omega) (ev_some _)
  |succ d ihd=>
    intro i hi m hm hm1
    have hlt:i<l.length:=by omega
    have hw:wrap64 ((i:Int)+1)=((i+1:Nat):Int):=by rw[wrap_up (by omega) (show(i:Int)<(l.length:Int) by omega) (by omega)];omega
    have hw2:wrap64 (60-c-m)=60-(c+m):=by rw[wrap_id (by omega) (by omega)];omega
    obtain⟨v,u,h1,h2,hs⟩:=ih l[i] (h _ (List.getElem_mem hlt)) (c+m) (by omega) hm1
    rcases hs with⟨hv,hu⟩|⟨hv,hu,hu2⟩
    · refine ⟨-1, 61, ev_shift ?_, ev_shift ?_, Or.inl ⟨rfl, rfl⟩⟩
      · simp only [spec_l11Valid.l0]
        rw[rd36 l i hlt,hw2]
        exact ev_pos (by omega) (ev_pos (by omega) (ev_bind h1 (ev_pos (by omega) (ev_some _))))
      · simp only [impl_countPattern.l0]
        rw[rd36 l i hlt]
        refine ev_pos (by omega) (ev_pos (by omega) (ev_pos (by omega) (ev_bind h2 (ev_pos (by omega) ?_))))
        rw[hu];exact ev_some _
    · obtain ⟨v', u', k1, k2, ks⟩ := ihd (i + 1) (by omega) (m + v) (by omega) (by omega)
      refine⟨v',u',ev_shift ?_,ev_shift ?_,ks⟩
      · simp only [spec_l11Valid.l0]
        rw[rd36 l i hlt,hw2,hw]
        refine ev_pos (by omega) (ev_pos (by omega) (ev_bind h1 (ev_neg (by omega) ?_)))
        rw[wrap_id (by omega) (by omega)];exact k1
      · simp only [impl_countPattern.l0]
        rw[rd36 l i hlt,hw]
        refine ev_pos (by omega) (ev_pos (by omega) (ev_pos (by omega) (ev_bind h2 (ev_neg (by omega) ?_))))
        rw[hu,Int.add_assoc];exact k2
theorem count_lock:∀(n:Nat) (p:S36),smV n p→∀c:Int,0≤c→c≤60→∃v u,Ev (fun k=>spec_l11Valid.f k p.f0 p.f1 p.f2 p.f3 (60-c)) v∧Ev (fun k=>impl_countPattern.f k p.f0 p.f1 p.f2 p.f3 c) u∧Same c v u:=by
  intro n
  induction n with
  |zero=>exact fun p h=>False.elim h
  |succ n ih=>
    intro p h c h0 h1
    have hl:=h.2.1
    have badS:∀x:Int,Ev (fun k=>spec_l11Valid.j0 k x true p.f0 p.f1 p.f2 p.f3) (-1):=fun x=>by
      refine ev_shift ?_;simp only[spec_l11Valid.j0];exact ev_pos trivial (ev_some _)
    have badI:∀x:Int,Ev (fun k=>impl_countPattern.j0 k x true p.f0 p.f1 p.f2 p.f3) 61:=fun x=>by
      refine ev_shift ?_;simp only[impl_countPattern.j0];exact ev_pos trivial (ev_some _)
    have hw:wrap64 (c+1)=c+1:=wrap_id (by omega) (by omega)
    by_cases hc:c=60
    · refine ⟨-1, 61, ev_shift ?_, ev_shift ?_, Or.inl ⟨rfl, rfl⟩⟩
      · simp only[spec_l11Valid.f];exact ev_pos (by omega) (badS _)
      · simp only[impl_countPattern.f];rw[hw];exact ev_pos (by omega) (badI _)
    · cases ha : argP p.f0 p.f1 p.f2 with
      |false=>
        refine⟨-1,61,ev_shift ?_,ev_shift ?_,Or.inl ⟨rfl,rfl⟩⟩
        · simp only [spec_l11Valid.f]
          refine ev_neg (by omega) (ev_bind (node_ev _ _ _ _) ?_)
          rw[ha];exact badS _
        · simp only [impl_countPattern.f]; rw [hw]
          exact ev_neg (by omega) (ev_bind (isArgument_ev _ _ _) (ev_neg (by rw[ha];decide) (badI _)))
      |true=>
        by_cases hk:p.f3.length=kidsN p.f0
        · obtain ⟨v, u, k1, k2, ks⟩ := count_loop n ih p.f3 hl h.2.2 c h0 p.f0 p.f1 p.f2 p.f3.length 0 (by omega) 1 (by omega) (by omega)
          refine⟨v,u,ev_shift ?_,ev_shift ?_,ks⟩
          · simp only [spec_l11Valid.f]
            refine ev_neg (by omega) (ev_bind (node_ev _ _ _ _) ?_)
            rw[ha,decide_eq_true hk]
            refine ev_shift ?_;simp only[spec_l11Valid.j0]
            exact ev_neg (by decide) k1
          · simp only [impl_countPattern.f]; rw [hw]
            refine ev_neg (by omega) (ev_bind (isArgument_ev _ _ _) (ev_pos ha (ev_bind (kidsOf_ev _) ?_)))
            rw[show((p.f3.length:Int) !=(kidsN p.f0:Int))=false from by rw[hk];simp]
            refine ev_shift ?_;simp only[impl_countPattern.j0]
            exact ev_neg (by decide) k2
        · refine ⟨-1, 61, ev_shift ?_, ev_shift ?_, Or.inl ⟨rfl, rfl⟩⟩
          · simp only [spec_l11Valid.f]
            refine ev_neg (by omega) (ev_bind (node_ev _ _ _ _) ?_)
            rw[ha,decide_eq_false hk];exact badS _
          · simp only [impl_countPattern.f]; rw [hw]
            refine ev_neg (by omega) (ev_bind (isArgument_ev _ _ _) (ev_pos ha (ev_bind (kidsOf_ev _) ?_)))
            rw[show((p.f3.length:Int) !=(kidsN p.f0:Int))=true from by simp;omega];exact badI _
theorem validPattern_ev (n:Nat) (p:S36) (h:smV n p):∃b,Ev (fun k=>spec_ValidPattern.f k p.f0 p.f1 p.f2 p.f3) b∧Ev (fun k=>impl_ValidPattern.f k p.f0 p.f1 p.f2 p.f3) b:=by
  obtain⟨v,u,h1,h2,hs⟩:=count_lock n p h 0 (by omega) (by omega)
  refine⟨decide (v>0),?_,?_⟩
  · simp only[spec_ValidPattern.f];exact ev_bind h1 (ev_some _)
  · simp only [impl_ValidPattern.f]
    refine ev_bind h2 ?_
    rw[show decide (v>0)=decide (u≤60) from by rw[Bool.eq_iff_iff];unfold Same at hs;simp;omega]
    exact ev_some _
def sameE (E:List S52) (j i:Nat):Bool:=decide ((rd_T52 E (j:Int)).f0.toList=(rd_T52 E (i:Int)).f0.toList)
def newE (E:List S52) (i:Nat):Bool:=allN i (fun j=> !sameE E j i)
theorem rd52 (E:List S52) (i:Nat) (h:i<E.length):rd_T52 E (i:Int)=E[i]:=by
  unfold rd_T52;exact getD_get _ _ _ h
theorem take52 (E:List S52) (i j:Nat) (hj:j<i) (hi:i≤E.length):rd_T52 (E.take i) (j:Int)=rd_T52 E (j:Int):=by
  rw[rd52 _ _ (by rw[List.length_take];omega),rd52 _ _ (by omega),List.getElem_take]
theorem dup_ev (E:List S52) (hm:E.length≤1048576) (i:Nat) (hi:i<E.length):∃r,Ev (fun k=>impl_lookup.f k (E.take i) (rd_T52 E (i:Int)).f0) r∧r.2.2.2.2= !newE E i:=by
  simp only[impl_lookup.f,impl_Named__impl_lookup_1.f]
  have hl:(E.take i).length=i:=by rw[List.length_take];omega
  rw[hl]
  have hp:∀j:Nat,j<i→impl_lookup_1.f (rd_T52 (E.take i) (j:Int)).f0 (rd_T52 (E.take i) (j:Int)).f1.f0 (rd_T52 (E.take i) (j:Int)).f1.f1 (rd_T52 (E.take i) (j:Int)).f1.f2 (rd_T52 (E.take i) (j:Int)).f1.f3 [(rd_T52 E (i:Int)).f0]=some (sameE E j i):=by
    intro j hj
    simp only[impl_lookup_1.f]
    rw[if_pos (by simp),take52 E i j hj (by omega)]
    congr 1
    rw[Bool.eq_iff_iff];simp[sameE];rfl
  obtain ⟨v, hv, hh⟩ := idx_find (g := fun k j => impl_Named__impl_lookup_1.l0 k (E.take i) [(rd_T52 E (i : Int)).f0] (i : Int) j) i (fun j => sameE E j i)
    (by refine ev_shift ?_;simp only[impl_Named__impl_lookup_1.l0];exact ev_neg (by omega) (ev_some _))
    (by
      intro j hj hq r hr
      refine ev_shift ?_;simp only[impl_Named__impl_lookup_1.l0]
      rw[hl,hp j hj,hq,wrap_up (by omega) (show(j:Int)<(E.length:Int) by omega) (by omega)]
      exact ev_pos (by omega) (ev_pos (by omega) (ev_pos (by omega) (ev_bindc rfl (ev_neg (by decide) hr)))))
    (by
      intro j hj hq
      refine ev_shift ?_;simp only[impl_Named__impl_lookup_1.l0]
      rw[hl,hp j hj,hq]
      exact ev_pos (by omega) (ev_pos (by omega) (ev_pos (by omega) (ev_bindc rfl (ev_pos rfl (ev_some _))))))
  rcases hh with⟨h1,h2⟩|⟨j,h1,h2,h3,_⟩
  · refine ⟨_, ev_bind hv (ev_pos (by omega) (ev_some _)), ?_⟩
    have:newE E i=true:=(allN_iff _ _).2 (fun j hj=>by rw[h2 j hj];rfl)
    rw[this];rfl
  · refine ⟨_, ev_bind hv (ev_neg (by omega) (ev_pos (by omega) (ev_pos (by omega) (ev_some _)))), ?_⟩
    have:newE E i=false:=by
      rw[Bool.eq_false_iff];intro h
      have:=(allN_iff _ _).1 h j h2
      simp[h3]at this
    rw[this];rfl
theorem validEnv_ev (n:Nat) (E:List S52) (h:smE n E):∃b,Ev (fun k=>spec_ValidEnv.f k E) b∧Ev (fun k=>impl_ValidEnv.f k E) b:=by
  have hm:=h.1
  have hpt:∀i:Nat,i<E.length→∃b,Ev (fun k=>spec_ValidPattern.f k (rd_T52 E (i:Int)).f1.f0 (rd_T52 E (i:Int)).f1.f1 (rd_T52 E (i:Int)).f1.f2 (rd_T52 E (i:Int)).f1.f3) b∧Ev (fun k=>impl_ValidPattern.f k (rd_T52 E (i:Int)).f1.f0 (rd_T52 E (i:Int)).f1.f1 (rd_T52 E (i:Int)).f1.f2 (rd_T52 E (i:Int)).f1.f3) b:=by
    intro i hi
    exact validPattern_ev n _ (by rw[rd52 E i hi];exact(h.2 _ (List.getElem_mem hi)).2)
  have hpt2:∀i:Nat,∃b,i<E.length→Ev (fun k=>spec_ValidPattern.f k (rd_T52 E (i:Int)).f1.f0 (rd_T52 E (i:Int)).f1.f1 (rd_T52 E (i:Int)).f1.f2 (rd_T52 E (i:Int)).f1.f3) b∧Ev (fun k=>impl_ValidPattern.f k (rd_T52 E (i:Int)).f1.f0 (rd_T52 E (i:Int)).f1.f1 (rd_T52 E (i:Int)).f1.f2 (rd_T52 E (i:Int)).f1.f3) b:=by
    intro i
    by_cases hi:i<E.length
    · obtain⟨b,hb⟩:=hpt i hi;exact⟨b,fun _=>hb⟩
    · exact⟨true,fun h=>absurd h hi⟩
  obtain⟨VP,hVP⟩:=Classical.axiomOfChoice hpt2
  by_cases h40:E.length≤40
  · refine ⟨allN E.length (fun i => (isNameS (rd_T52 E (i : Int)).f0 && VP i) && newE E i), ?_, ?_⟩
    · simp only [spec_ValidEnv.f]
      refine ev_neg (by omega) ?_
      have inner:∀i:Nat,i<E.length→∀r,(newE E i=true→Ev (fun k=>spec_ValidEnv.l0 k E ((i:Int)+1)) r)→Ev (fun k=>spec_ValidEnv.l1 k E (i:Int) 0) (newE E i&&r):=by
        intro i hi r hr
        refine idx_and2 (g:=fun k j=>spec_ValidEnv.l1 k E (i:Int) j) i (fun j=> !sameE E j i) r ?_ ?_ ?_
        · intro hx
          refine ev_shift ?_;simp only[spec_ValidEnv.l1]
          rw[wrap_up (by omega) (show(i:Int)<(E.length:Int) by omega) (by omega)]
          exact ev_neg (by omega) (hr ((allN_iff _ _).2 hx))
        · intro j hj hp r' hr'
          refine ev_shift ?_;simp only[spec_ValidEnv.l1]
          rw[wrap_up (by omega) (show(j:Int)<(E.length:Int) by omega) (by omega)]
          exact ev_pos (by omega) (ev_pos (by omega) (ev_pos (by omega) (ev_pos (by omega) (ev_pos (by omega) (ev_neg (by simpa[sameE]using hp) hr')))))
        · intro j hj hp
          refine ev_shift ?_;simp only[spec_ValidEnv.l1]
          exact ev_pos (by omega) (ev_pos (by omega) (ev_pos (by omega) (ev_pos (by omega) (ev_pos (by omega) (ev_pos (by simpa[sameE]using hp) (ev_some _))))))
      have bad:∀i:Nat,Ev (fun k=>spec_ValidEnv.j1 k E (i:Int) true) false:=fun i=>by
        refine ev_shift ?_;simp only[spec_ValidEnv.j1];exact ev_pos trivial (ev_some _)
      refine idx_all (g:=fun k i=>spec_ValidEnv.l0 k E i) E.length _ ?_ ?_ ?_
      · refine ev_shift ?_;simp only[spec_ValidEnv.l0];exact ev_neg (by omega) (ev_some _)
      · intro i hi hp r hr
        rw[Bool.and_eq_true,Bool.and_eq_true]at hp
        refine ev_shift ?_;simp only[spec_ValidEnv.l0]
        refine ev_pos (by omega) (ev_pos (by omega) (ev_bind (spec_IsName_ev _) (ev_pos hp.1.1 (ev_bind (hVP i hi).1 ?_))))
        rw[hp.1.2]
        refine ev_shift ?_;simp only[spec_ValidEnv.j1]
        refine ev_neg (by decide) ?_
        have:=inner i hi r (fun _=>hr)
        rw[hp.2,Bool.true_and]at this;exact this
      · intro i hi hp
        refine ev_shift ?_;simp only[spec_ValidEnv.l0]
        refine ev_pos (by omega) (ev_pos (by omega) (ev_bind (spec_IsName_ev _) ?_))
        cases hN:isNameS (rd_T52 E (i:Int)).f0 with
        |false=>exact ev_neg (by decide) (bad i)
        |true=>
          refine ev_pos rfl (ev_bind (hVP i hi).1 ?_)
          cases hV:VP i with
          |false=>exact bad i
          |true=>
            rw[hN,hV]at hp
            refine ev_shift ?_;simp only[spec_ValidEnv.j1]
            refine ev_neg (by decide) ?_
            have:=inner i hi false (fun hx=>by rw[hx]at hp;cases hp)
            rw[Bool.and_false]at this;exact this
    · rw [allN_and E.length (fun i => isNameS (rd_T52 E (i : Int)).f0 && VP i) (newE E)]
      simp only[impl_ValidEnv.f]
      refine ev_neg (by omega) ?_
      have hall:Ev (fun k=>impl_Named__impl_ValidEnv_1.f k E) (allN E.length (fun i=>isNameS (rd_T52 E (i:Int)).f0&&VP i)):=by
        simp only[impl_Named__impl_ValidEnv_1.f]
        have one:∀i:Nat,i<E.length→Ev (fun k=>impl_ValidEnv_1.f k (rd_T52 E (i:Int)).f0 (rd_T52 E (i:Int)).f1.f0 (rd_T52 E (i:Int)).f1.f1 (rd_T52 E (i:Int)).f1.f2 (rd_T52 E (i:Int)).f1.f3) (isNameS (rd_T52 E (i:Int)).f0&&VP i):=by
          intro i hi
          simp only[impl_ValidEnv_1.f]
          refine ev_bind (impl_IsName_ev _) ?_
          cases hN:isNameS (rd_T52 E (i:Int)).f0 with
          |false=>exact ev_neg (by decide) (ev_some _)
          |true=>exact ev_pos rfl (ev_bind (hVP i hi).2 (by simpa using ev_some _))
        refine idx_all (g:=fun k i=>impl_Named__impl_ValidEnv_1.l0 k E (E.length:Int) i) E.length _ ?_ ?_ ?_
        · refine ev_shift ?_;simp only[impl_Named__impl_ValidEnv_1.l0];exact ev_neg (by omega) (ev_some _)
        · intro i hi hp r hr
          refine ev_shift ?_;simp only[impl_Named__impl_ValidEnv_1.l0]
          rw[wrap_up (by omega) (show(i:Int)<(E.length:Int) by omega) (by omega)]
          exact ev_pos (by omega) (ev_pos (by omega) (ev_pos (by omega) (ev_bind (one i hi) (ev_pos hp hr))))
        · intro i hi hp
          refine ev_shift ?_;simp only[impl_Named__impl_ValidEnv_1.l0]
          exact ev_pos (by omega) (ev_pos (by omega) (ev_pos (by omega) (ev_bind (one i hi) (ev_neg (by rw[hp];decide) (ev_some _)))))
      refine ev_bind hall ?_
      cases hA:allN E.length (fun i=>isNameS (rd_T52 E (i:Int)).f0&&VP i)with
      |false=>refine ev_shift ?_;simp only[impl_ValidEnv.j0];exact ev_pos rfl (ev_some _)
      |true=>
        refine ev_shift ?_;simp only[impl_ValidEnv.j0]
        refine ev_neg (by decide) ?_
        rw[Bool.true_and]
        refine idx_all (g:=fun k i=>impl_ValidEnv.l0 k E E (E.length:Int) i) E.length (newE E) ?_ ?_ ?_
        · refine ev_shift ?_;simp only[impl_ValidEnv.l0];exact ev_neg (by omega) (ev_some _)
        · intro i hi hp r hr
          obtain⟨q,h1,h2⟩:=dup_ev E hm i hi
          rw[hp]at h2
          refine ev_shift ?_;simp only[impl_ValidEnv.l0]
          rw[wrap_up (by omega) (show(i:Int)<(E.length:Int) by omega) (by omega),Int.toNat_natCast]
          exact ev_pos (by omega) (ev_pos (by omega) (ev_pos (by omega) (ev_pos (by omega) (ev_bind h1 (ev_neg (by rw[h2];decide) hr)))))
        · intro i hi hp
          obtain⟨q,h1,h2⟩:=dup_ev E hm i hi
          rw[hp]at h2
          refine ev_shift ?_;simp only[impl_ValidEnv.l0]
          rw[Int.toNat_natCast]
          exact ev_pos (by omega) (ev_pos (by omega) (ev_pos (by omega) (ev_pos (by omega) (ev_bind h1 (ev_pos h2 (ev_some _))))))
  · refine ⟨false, ?_, ?_⟩
    · simp only[spec_ValidEnv.f];exact ev_pos (by omega) (ev_some _)
    · simp only [impl_ValidEnv.f]
      refine ev_pos (by omega) (ev_shift ?_)
      simp only[impl_ValidEnv.j0];exact ev_pos trivial (ev_some _)
theorem FnExactValidEnv:laws_FnExactValidEnv.Pure:=by
  intro x0 w0
  suffices hh:Ev (fun k=>laws_FnExactValidEnv.f k x0) true by
    obtain⟨K,hK⟩:=hh
    exact⟨K,hK K (Nat.le_refl _)⟩
  simp only[laws_FnExactValidEnv.f]
  obtain⟨t1,e1,b1,q1⟩:=sz_env x0 w0 1048576 (by omega) (by omega)
  refine ev_bind e1 (ev_skip fun c1=>?_)
  have q:=q1 (by omega)
  obtain⟨E,h0,s0⟩:=to_env 1048577 x0 q.1 q.2
  obtain⟨b,hs,hi⟩:=validEnv_ev _ E s0
  refine ev_bind h0 (ev_bind hs (ev_bind h0 (ev_bind hi (ev_neg (bne_ff _) ?_))))
  exact ev_bind h0 (ev_bind (eq_env _ E s0) (ev_pos rfl (ev_some _)))
end Go.Proofs.Ytdihlgkcpooadaa.Pure
