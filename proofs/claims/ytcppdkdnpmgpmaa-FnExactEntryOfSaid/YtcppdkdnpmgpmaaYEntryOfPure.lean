/- The program's EntryOf returns what the reference's returns: both ask the same of the code's shape, and both worklists take the same steps, in the same order; no condition. -/
import Derived.Test.YtcppdkdnpmgpmaaYEntryOfA
import Derived.Test.YtcppdkdnpmgpmaaYEntryOfVValues
namespace Go.Proofs.Ytcppdkdnpmgpmaa.Pure
open Go.Proofs.Ytcppdkdnpmgpmaa.PureFnExactEntryOf Go.RowKit Go.Proofs.YtcppdkdnpmgpmaaG Go.Proofs.Ytcppdkdnpmgpmaa.PFnExactEntryOf Go.Proofs.YtcppdkdnpmgpmaaW.PrintWords Go.Proofs.YtcppdkdnpmgpmaaW.PrintLast Go.Proofs.YtcppdkdnpmgpmaaW.PrintMore
set_option linter.unusedSimpArgs false
set_option linter.unusedVariables false
theorem cut1 (c:UInt8):(⟨#[]⟩:ByteArray)++(⟨#[c]⟩:ByteArray).extract (0:Int).toNat (wrap64 (0+1)).toNat=⟨#[c]⟩:=by
  apply ByteArray.ext;simp[wrap64]
theorem form_one (c:UInt8) (hc:¬((c.toNat:Int)=112)):Ev (fun k=>spec_l11Form.l0 k ⟨#[c]⟩ 0 ⟨#[]⟩ 0) (0,⟨#[c]⟩):=by
  have hs:((⟨#[c]⟩:ByteArray).size:Int)=1:=rfl
  refine ev_shift ?_
  simp only[spec_l11Form.l0]
  have hw:wrap64 (0+1)=1:=by unfold wrap64;omega
  rw[hs,cut1]
  refine ev_pos (by decide) (ev_pos (by decide) (ev_neg hc (ev_pos (by omega) (ev_pos (by omega) (ev_pos ?_ ?_)))))
  · rw[ByteArray.size_extract];show 0+_≤_;rw[hw];simp;omega
  refine ev_shift ?_
  simp only[spec_l11Form.l0]
  rw[hs]
  exact ev_neg (by omega) (ev_some _)
theorem form_none:Ev (fun k=>spec_l11Form.l0 k ⟨#[]⟩ 0 ⟨#[]⟩ 0) (0,⟨#[]⟩):=by
  refine ev_shift ?_
  simp only[spec_l11Form.l0]
  exact ev_neg (by decide) (ev_some _)
def leafForm (op:Int):ByteArray:=if 1≤op∧op≤5 then⟨#[115]⟩else if 6≤op∧op≤10 then⟨#[110]⟩else if op=23∨op=24 then⟨#[120]⟩else⟨#[]⟩
theorem form_leaf (op:Int) (h:(1≤op∧op≤17)∨op=23∨op=24):Ev (fun k=>spec_l11Form.f k op) (0,leafForm op):=by
  simp only[spec_l11Form.f,spec_l11Word.f]
  have hh:op=1∨op=2∨op=3∨op=4∨op=5∨op=6∨op=7∨op=8∨op=9∨op=10∨op=11∨op=12∨op=13∨op=14∨op=15∨op=16∨op=17∨op=23∨op=24:=by omega
  rcases hh with e|e|e|e|e|e|e|e|e|e|e|e|e|e|e|e|e|e|e<;>subst e
  · exact ev_pos rfl (ev_some _)
  all_goals(refine ev_neg (by decide) ?_;first|exact form_one 115 (by decide)|exact form_one 110 (by decide)|exact form_one 120 (by decide)|exact form_none)
def validP (op num:Int) (t:ByteArray):Bool:=
  if op=31∨op=34∨op=38∨op=39 then num==0&&t.toList.isEmpty
  else if op=32∨op=33∨op=37 then decide (0≤num)&&(decide (num≤12999)&&t.toList.isEmpty)
  else if op=35∨op=36 then num==0&&isNameS t
  else if op=1 then num==0&&decide (t.size≤200)
  else if 2≤op∧op≤5 then num==0&&(decide (t.size≤200)&& !t.toList.isEmpty)
  else if 6≤op∧op≤10 then t.toList.isEmpty&&(decide (0≤num)&&decide (num≤200))
  else if op=23∨op=24 then num==0&&isNameS t
  else if 11≤op∧op≤17 then num==0&&t.toList.isEmpty
  else false
theorem z_false {num:Int} (b:Bool) (n0:¬num=0):(num==0&&b)=false:=by rw[beq_false_of_ne n0];rfl
theorem nil_iff (t:ByteArray):(t.toList=([]:List UInt8))=(t.toList.isEmpty=true):=by rw[List.isEmpty_iff]
theorem node_ev (op num:Int) (t:ByteArray) (h:(1≤op∧op≤17)∨op=23∨op=24):Ev (fun k=>spec_l11Node.f k op num t ([]:List S75)) (validP op num t):=by
  simp only[spec_l11Node.f]
  refine ev_bindc (spec_l00In_eq _ _ _) (ev_pos (by simp;omega) (ev_bind (form_leaf op h) (ev_pos rfl ?_)))
  simp only[nil_iff]
  have e1:((⟨#[115]⟩:ByteArray).toList=([115]:List UInt8)):=by rw[Go.ByteArray.toList_eq]
  have e2:((⟨#[110]⟩:ByteArray).toList=([110]:List UInt8)):=by rw[Go.ByteArray.toList_eq]
  have e3:((⟨#[120]⟩:ByteArray).toList=([120]:List UInt8)):=by rw[Go.ByteArray.toList_eq]
  have e4:((⟨#[]⟩:ByteArray).toList=([]:List UInt8)):=by rw[Go.ByteArray.toList_eq]
  by_cases c1:1≤op∧op≤5
  · rw [show leafForm op = ⟨#[115]⟩ from if_pos c1]
    refine ev_pos e1 ?_
    by_cases c:op=1
    · subst c
      by_cases n0:num=0
      · by_cases s0 : t.size ≤ 200
        · refine ev_pos n0 (ev_pos (by omega) (ev_pos rfl ?_));simpa[validP,n0,s0]using ev_some true
        · refine ev_pos n0 (ev_neg (by omega) ?_);simpa[validP,n0,s0]using ev_some false
      · refine ev_neg n0 ?_;rw[show validP 1 num t=(num==0&&decide (t.size≤200)) from rfl,z_false _ n0];exact ev_some false
    · have hv:validP op num t=(num==0&&(decide (t.size≤200)&& !t.toList.isEmpty)):=by
        unfold validP;rw[if_neg (by omega),if_neg (by omega),if_neg (by omega),if_neg c,if_pos (by omega)]
      rw[hv]
      by_cases n0:num=0
      · by_cases s0 : t.size ≤ 200
        · refine ev_pos n0 (ev_pos (by omega) (ev_neg c ?_));simpa[n0,s0]using ev_some _
        · refine ev_pos n0 (ev_neg (by omega) ?_);simpa[n0,s0]using ev_some false
      · refine ev_neg n0 ?_;rw[z_false _ n0];exact ev_some false
  by_cases c2:6≤op∧op≤10
  · rw [show leafForm op = ⟨#[110]⟩ from (if_neg c1).trans (if_pos c2)]
    refine ev_neg (by rw[e2];decide) (ev_pos e2 ?_)
    have hv:validP op num t=(t.toList.isEmpty&&(decide (0≤num)&&decide (num≤200))):=by
      unfold validP;rw[if_neg (by omega),if_neg (by omega),if_neg (by omega),if_neg (by omega),if_neg (by omega),if_pos c2]
    rw[hv]
    cases t.toList.isEmpty with
    |true=>exact ev_pos rfl (ev_bindc (spec_l00In_eq _ _ _) (by simpa using ev_some _))
    |false=>exact ev_neg (by decide) (by simpa using ev_some false)
  by_cases c3:op=23∨op=24
  · rw [show leafForm op = ⟨#[120]⟩ from (if_neg c1).trans ((if_neg c2).trans (if_pos c3))]
    refine ev_neg (by rw[e3];decide) (ev_neg (by rw[e3];decide) (ev_pos e3 ?_))
    have hv:validP op num t=(num==0&&isNameS t):=by
      unfold validP;rw[if_neg (by omega),if_neg (by omega),if_neg (by omega),if_neg (by omega),if_neg (by omega),if_neg (by omega),if_pos c3]
    rw[hv]
    by_cases n0:num=0
    · exact ev_pos n0 (ev_bind (spec_IsName_ev t) (by simpa[n0]using ev_some _))
    · exact ev_neg n0 (by rw[z_false _ n0];exact ev_some false)
  · rw [show leafForm op = ⟨#[]⟩ from (if_neg c1).trans ((if_neg c2).trans (if_neg c3))]
    refine ev_neg (by rw[e4];decide) (ev_neg (by rw[e4];decide) (ev_neg (by rw[e4];decide) ?_))
    have hv:validP op num t=(num==0&&t.toList.isEmpty):=by
      unfold validP;rw[if_neg (by omega),if_neg (by omega),if_neg (by omega),if_neg (by omega),if_neg (by omega),if_neg (by omega),if_neg (by omega),if_pos (by omega)]
    rw[hv]
    by_cases n0:num=0
    · exact ev_pos n0 (by simpa[n0]using ev_some _)
    · exact ev_neg n0 (by rw[z_false _ n0];exact ev_some false)
theorem leaf_spec (op:Int):spec_l13Leaf.f op=some (decide ((1≤op∧op≤17)∨op=23∨op=24)):=by
  simp only[spec_l13Leaf.f,spec_l00In_eq,Option.bind_some]
  by_cases h:1≤op∧op≤17
  · rw[if_pos (by simpa using h),decide_eq_true (Or.inl h)]
  · rw [if_neg (by simpa using h)]
    by_cases h2:op=23
    · rw[if_pos h2,decide_eq_true (Or.inr (Or.inl h2))]
    · rw[if_neg h2];congr 1;rw[Bool.eq_iff_iff];simp[h2];omega
theorem spec_ValidIns_ev (op num:Int) (t:ByteArray):Ev (fun k=>spec_ValidIns.f k op num t) (validP op num t):=by
  have j2:∀b:Bool,¬(op=31∨op=34∨op=38∨op=39)→¬(op=32∨op=33∨op=37)→(b=true↔op=35∨op=36)→Ev (fun k=>spec_ValidIns.j2 k b op num t) (validP op num t):=by
    intro b n1 n2 hb
    refine ev_shift ?_;simp only[spec_ValidIns.j2]
    by_cases c:op=35∨op=36
    · have hv:validP op num t=(num==0&&isNameS t):=by
        unfold validP;rw[if_neg n1,if_neg n2,if_pos c]
      rw[hv]
      refine ev_pos (hb.2 c) ?_
      by_cases n0:num=0
      · exact ev_pos n0 (ev_bind (spec_IsName_ev t) (by simpa[n0]using ev_some _))
      · exact ev_neg n0 (by rw[z_false _ n0];exact ev_some false)
    · refine ev_neg (fun h => c (hb.1 h)) (ev_bindc (leaf_spec op) ?_)
      by_cases l:(1≤op∧op≤17)∨op=23∨op=24
      · exact ev_pos (by simpa using l) (ev_bind (node_ev op num t l) (ev_some _))
      · have hv:validP op num t=false:=by
          unfold validP;rw[if_neg n1,if_neg n2,if_neg c,if_neg (by omega),if_neg (by omega),if_neg (by omega),if_neg (by omega),if_neg (by omega)]
        rw[hv];exact ev_neg (by simpa using l) (ev_some _)
  have j1:∀b:Bool,¬(op=31∨op=34∨op=38∨op=39)→(b=true↔op=32∨op=33∨op=37)→Ev (fun k=>spec_ValidIns.j1 k op b op num t) (validP op num t):=by
    intro b n1 hb
    refine ev_shift ?_;simp only[spec_ValidIns.j1]
    by_cases c:op=32∨op=33∨op=37
    · have hv:validP op num t=(decide (0≤num)&&(decide (num≤12999)&&t.toList.isEmpty)):=by
        unfold validP;rw[if_neg n1,if_pos c]
      rw[hv]
      refine ev_pos (hb.2 c) (ev_bindc (spec_l00In_eq _ _ _) ?_)
      by_cases n0:0≤num
      · by_cases n9 : num ≤ 12999
        · exact ev_pos (by simp[n0,n9]) (by simpa[n0,n9]using ev_some _)
        · exact ev_neg (by simp[n9]) (by simpa[n9]using ev_some false)
      · exact ev_neg (by simp[n0]) (by simpa[n0]using ev_some false)
    · refine ev_neg (fun h => c (hb.1 h)) ?_
      by_cases c5:op=35
      · exact ev_pos c5 (j2 _ n1 c (by simp[c5]))
      · exact ev_neg c5 (j2 _ n1 c (by simp[c5]))
  have j0:∀b:Bool,(b=true↔op=31∨op=34∨op=38∨op=39)→Ev (fun k=>spec_ValidIns.j0 k op b op num t) (validP op num t):=by
    intro b hb
    refine ev_shift ?_;simp only[spec_ValidIns.j0]
    by_cases c:op=31∨op=34∨op=38∨op=39
    · have hv:validP op num t=(num==0&&t.toList.isEmpty):=by
        unfold validP;rw[if_pos c]
      rw[hv]
      refine ev_pos (hb.2 c) ?_
      by_cases n0:num=0
      · exact ev_pos n0 (by simpa[n0]using ev_some _)
      · exact ev_neg n0 (by rw[z_false _ n0];exact ev_some false)
    · refine ev_neg (fun h => c (hb.1 h)) ?_
      by_cases c2:op=32
      · exact ev_pos c2 (j1 _ c (by simp[c2]))
      · by_cases c3 : op = 33
        · exact ev_neg c2 (ev_pos c3 (j1 _ c (by simp[c3])))
        · exact ev_neg c2 (ev_neg c3 (j1 _ c (by simp[c2,c3])))
  simp only[spec_ValidIns.f]
  by_cases c1:op=31
  · exact ev_pos c1 (j0 _ (by simp[c1]))
  refine ev_neg c1 ?_
  by_cases c2:op=34
  · exact ev_pos c2 (j0 _ (by simp[c2]))
  refine ev_neg c2 ?_
  by_cases c3:op=38
  · exact ev_pos c3 (j0 _ (by simp[c3]))
  · exact ev_neg c3 (j0 _ (by simp[c1,c2,c3]))
theorem isLeaf_ev (op:Int):Ev (fun k=>impl_isLeaf.f k op) (decide ((1≤op∧op≤17)∨op=23∨op=24)):=by
  refine⟨1,fun k hk=>?_⟩
  obtain⟨k,rfl⟩:∃m,k=m+1:=⟨k- 1,by omega⟩
  simp only[impl_isLeaf.f,impl_isPatternKind.f,impl_within_eq,Option.bind_some,impl_kidsOf.f,impl_kidsOf.j0]
  by_cases h:1≤op∧op≤24
  · rw [if_pos (by simpa using h)]
    by_cases h1:op=18
    · subst h1;rfl
    by_cases h2:op=19
    · subst h2;rfl
    rw[if_neg h1,if_neg (by simpa using h2)]
    by_cases h3:op=20
    · subst h3;rfl
    by_cases h4:op=21
    · subst h4;rfl
    by_cases h5:op=22
    · subst h5;rfl
    rw[if_neg h3,if_neg h4,if_neg h5,Option.bind_some,decide_eq_true (by omega)];rfl
  · rw[if_neg (by simpa using h),decide_eq_false (by omega)]
theorem isArgument_ev (op num:Int) (t:ByteArray) (h:(1≤op∧op≤17)∨op=23∨op=24):Ev (fun k=>impl_isArgument.f k op num t) (validP op num t):=by
  simp only[impl_isArgument.f,impl_isShort.f,impl_hasSet.f,impl_hasNumber.f,impl_hasName.f,impl_isPatternKind.f,impl_within_eq,Option.bind_some,nil_iff]
  have hq:((t.size:Int)≤200)=(t.size≤200):=by rw[eq_iff_iff];omega
  simp only[hq]
  by_cases c:op=1
  · rw [show validP op num t = (num == 0 && decide (t.size ≤ 200)) from by rw [c]; rfl]
    refine ev_pos c ?_
    by_cases n0:num=0
    · exact ev_pos n0 (by simpa[n0]using ev_some _)
    · exact ev_neg n0 (by rw[z_false _ n0];exact ev_some false)
  refine ev_neg c ?_
  by_cases c1:2≤op∧op≤5
  · have hv:validP op num t=(num==0&&(decide (t.size≤200)&& !t.toList.isEmpty)):=by
      unfold validP;rw[if_neg (by omega),if_neg (by omega),if_neg (by omega),if_neg c,if_pos (by omega)]
    rw[hv]
    refine ev_pos (by simpa using c1) ?_
    by_cases n0:num=0
    · refine ev_pos n0 ?_
      cases t.toList.isEmpty with
      |true=>exact ev_pos rfl (by simpa using ev_some false)
      |false=>exact ev_neg (by decide) (by simpa[n0]using ev_some _)
    · exact ev_neg n0 (by rw[z_false _ n0];exact ev_some false)
  refine ev_neg (by simpa using c1) ?_
  by_cases c2:6≤op∧op≤10
  · have hv:validP op num t=(t.toList.isEmpty&&(decide (0≤num)&&decide (num≤200))):=by
      unfold validP;rw[if_neg (by omega),if_neg (by omega),if_neg (by omega),if_neg (by omega),if_neg (by omega),if_pos c2]
    rw[hv]
    refine ev_pos (by simpa using c2) ?_
    cases t.toList.isEmpty with
    |true=>exact ev_pos rfl (by simpa using ev_some _)
    |false=>exact ev_neg (by decide) (by simpa using ev_some false)
  refine ev_neg (by simpa using c2) ?_
  by_cases c3:op=23∨op=24
  · have hv:validP op num t=(num==0&&isNameS t):=by
      unfold validP;rw[if_neg (by omega),if_neg (by omega),if_neg (by omega),if_neg (by omega),if_neg (by omega),if_neg (by omega),if_pos c3]
    rw[hv]
    refine ev_pos (by simp;omega) ?_
    by_cases n0:num=0
    · exact ev_pos n0 (ev_bind (impl_IsName_ev t) (by simpa[n0]using ev_some _))
    · exact ev_neg n0 (by rw[z_false _ n0];exact ev_some false)
  · have hv:validP op num t=(num==0&&t.toList.isEmpty):=by
      unfold validP;rw[if_neg (by omega),if_neg (by omega),if_neg (by omega),if_neg (by omega),if_neg (by omega),if_neg (by omega),if_neg (by omega),if_pos (by omega)]
    rw[hv]
    refine ev_neg (by simp;omega) (ev_pos (by simp;omega) ?_)
    by_cases n0:num=0
    · exact ev_pos n0 (by simpa[n0]using ev_some _)
    · exact ev_neg n0 (by rw[z_false _ n0];exact ev_some false)
theorem hasAddress_eq (op:Int):impl_hasAddress.f op=some (decide (op=32∨op=33∨op=37)):=by
  simp only[impl_hasAddress.f]
  by_cases h1:op=32
  · rw[if_pos h1];simp[h1]
  by_cases h2:op=33
  · rw[if_neg h1,if_pos h2];simp[h2]
  · rw[if_neg h1,if_neg h2];congr 1;rw[Bool.eq_iff_iff];simp[h1,h2]
theorem isCapture_eq (op:Int):impl_isCapture.f op=some (decide (op=35∨op=36)):=by
  simp only[impl_isCapture.f]
  by_cases h1:op=35
  · rw[if_pos h1];simp[h1]
  · rw[if_neg h1];congr 1;rw[Bool.eq_iff_iff];simp[h1]
theorem isLast_eq (op:Int):impl_isLast.f op=some (decide (op=39∨op=38)):=by
  simp only[impl_isLast.f]
  by_cases h1:op=39
  · rw[if_pos h1];simp[h1]
  · rw[if_neg h1];congr 1;rw[Bool.eq_iff_iff];simp[h1]
theorem isIndex_eq (a b:Int):impl_isIndex.f a b=some (decide (0≤a)&&decide (a<b)):=by
  simp only[impl_isIndex.f]
  by_cases h1:a≥0
  · rw[if_pos h1];simp[show 0≤a from h1]
  · rw[if_neg h1];congr 1;rw[decide_eq_false (by omega)];rfl
theorem impl_ValidIns_ev (op num:Int) (t:ByteArray):Ev (fun k=>impl_ValidIns.f k op num t) (validP op num t):=by
  simp only[impl_ValidIns.f,hasAddress_eq,isCapture_eq,isIndex_eq,impl_within_eq,nil_iff]
  refine ev_bind (isLeaf_ev op) ?_
  by_cases l:(1≤op∧op≤17)∨op=23∨op=24
  · exact ev_pos (by simpa using l) (ev_bind (isArgument_ev op num t l) (ev_some _))
  refine ev_neg (by simpa using l) (ev_bindc rfl ?_)
  by_cases c1:op=32∨op=33∨op=37
  · have hv:validP op num t=(decide (0≤num)&&(decide (num≤12999)&&t.toList.isEmpty)):=by
      unfold validP;rw[if_neg (by omega),if_pos c1]
    rw[hv]
    refine ev_pos (by simpa using c1) ?_
    cases t.toList.isEmpty with
    |true=>exact ev_pos rfl (ev_bindc rfl (by rw[show decide (num<13000)=decide (num≤12999) from by simp;omega];simpa using ev_some _))
    |false=>exact ev_neg (by decide) (by simpa using ev_some false)
  refine ev_neg (by simpa using c1) (ev_bindc rfl ?_)
  by_cases c2:op=35∨op=36
  · have hv:validP op num t=(num==0&&isNameS t):=by
      unfold validP;rw[if_neg (by omega),if_neg (by omega),if_pos c2]
    rw[hv]
    refine ev_pos (by simpa using c2) ?_
    by_cases n0:num=0
    · exact ev_pos n0 (ev_bind (impl_IsName_ev t) (by simpa[n0]using ev_some _))
    · exact ev_neg n0 (by rw[z_false _ n0];exact ev_some false)
  refine ev_neg (by simpa using c2) (ev_bindc rfl ?_)
  by_cases c3:31≤op∧op≤39
  · have hv:validP op num t=(num==0&&t.toList.isEmpty):=by
      unfold validP;rw[if_pos (by omega)]
    rw[hv]
    refine ev_pos (by simpa using c3) ?_
    by_cases n0:num=0
    · exact ev_pos n0 (by simpa[n0]using ev_some _)
    · exact ev_neg n0 (by rw[z_false _ n0];exact ev_some false)
  · have hv:validP op num t=false:=by
      unfold validP;rw[if_neg (by omega),if_neg c1,if_neg c2,if_neg (by omega),if_neg (by omega),if_neg (by omega),if_neg (by omega),if_neg (by omega)]
    rw[hv];exact ev_neg (by simpa using c3) (ev_some _)
theorem idx_and2 {g : Nat → Int → Option Bool} (n : Nat) (P : Nat → Bool) (r0 : Bool) (h0 : (∀ i, i < n → P i = true) → Ev (fun k => g k (n : Int)) r0)
    (h1:∀i,i<n→P i=true→∀r,Ev (fun k=>g k ((i:Int)+1)) r→Ev (fun k=>g k (i:Int)) r)
    (h2:∀i,i<n→P i=false→Ev (fun k=>g k (i:Int)) false):Ev (fun k=>g k 0) (allN n P&&r0):=by
  suffices h:∀d i:Nat,i+d=n→(∀j,j<i→P j=true)→Ev (fun k=>g k (i:Int)) ((List.range' i d).all P&&r0) from h n 0 (Nat.zero_add _) (fun j hj=>absurd hj (by omega))
  intro d
  induction d with
  |zero=>
    intro i hi hb
    have e:i=n:=by omega
    subst e
    exact h0 hb
  |succ d ih=>
    intro i hi hb
    rw[List.range'_succ,List.all_cons]
    cases hp:P i with
    |false=>exact h2 i (by omega) hp
    |true=>exact h1 i (by omega) hp _ (by simpa using ih (i+1) (by omega) (fun j hj=>by rcases Nat.lt_succ_iff_lt_or_eq.1 hj with h|h;exact hb j h;rw[h];exact hp))
def sameE (E:List S51) (j i:Nat):Bool:=decide ((rd_T51 E (j:Int)).f0.toList=(rd_T51 E (i:Int)).f0.toList)
def newE (E:List S51) (i:Nat):Bool:=allN i (fun j=> !sameE E j i)
def lastE (E : List S51) : Nat → Int
  |0=>0
  |i+1=>(rd_T51 E (i:Int)).f1
def entI (E:List S51) (n:Int) (i:Nat):Bool:=newE E i&&(isNameS (rd_T51 E (i:Int)).f0&&(!decide ((rd_T51 E (i:Int)).f1≤lastE E i)&&(decide (0≤(rd_T51 E (i:Int)).f1)&&decide ((rd_T51 E (i:Int)).f1<n))))
def upE (E:List S51) (i:Nat):Bool:=if 0<i then decide ((rd_T51 E ((i:Int)- 1)).f1≥(rd_T51 E (i:Int)).f1)else false
def preE (E:List S51) (n:Int) (i:Nat):Bool:=isNameS (rd_T51 E (i:Int)).f0&&((decide (1≤(rd_T51 E (i:Int)).f1)&&decide ((rd_T51 E (i:Int)).f1≤n- 1))&& !upE E i)
def entS (E:List S51) (n:Int) (i:Nat):Bool:=preE E n i&&newE E i
theorem entI_iff (E:List S51) (n:Int) (i:Nat):entI E n i=true↔newE E i=true∧isNameS (rd_T51 E (i:Int)).f0=true∧lastE E i<(rd_T51 E (i:Int)).f1∧0≤(rd_T51 E (i:Int)).f1∧(rd_T51 E (i:Int)).f1<n:=by
  simp[entI]
theorem entS_iff (E:List S51) (n:Int) (i:Nat):entS E n i=true↔newE E i=true∧isNameS (rd_T51 E (i:Int)).f0=true∧(0<i→lastE E i<(rd_T51 E (i:Int)).f1)∧1≤(rd_T51 E (i:Int)).f1∧(rd_T51 E (i:Int)).f1≤n- 1:=by
  unfold entS preE upE
  cases i with
  |zero=>simp[lastE];constructor<;>(intro h;simp_all)
  |succ i=>
    rw[if_pos (by omega),show(((i+1:Nat):Int)- 1)=(i:Int) from by omega]
    simp[lastE]
    constructor<;>(intro h;simp_all)
theorem ents_same (E:List S51) (n:Int) (m:Nat):allN m (entS E n)=allN m (entI E n):=by
  rw[Bool.eq_iff_iff,allN_iff,allN_iff]
  constructor
  · intro h i hi
    obtain⟨a,b,c,d,e⟩:=(entS_iff E n i).1 (h i hi)
    refine(entI_iff E n i).2 ⟨a,b,?_,by omega,by omega⟩
    cases i with
    |zero=>show(0:Int)<_;omega
    |succ i=>exact c (by omega)
  · intro h
    have hp:∀i,i<m→1≤(rd_T51 E (i:Int)).f1:=by
      intro i
      induction i with
      |zero=>intro hi;have:=((entI_iff E n 0).1 (h 0 hi)).2.2.1;simp only[lastE]at this;omega
      |succ i ih=>intro hi;have:=((entI_iff E n (i+1)).1 (h _ hi)).2.2.1;simp only[lastE]at this;have:=ih (by omega);omega
    intro i hi
    obtain⟨a,b,c,d,e⟩:=(entI_iff E n i).1 (h i hi)
    exact(entS_iff E n i).2 ⟨a,b,fun _=>c,hp i hi,by omega⟩
section
variable (C:List S55) (E:List S51)
theorem shape_l1 (hm:E.length≤1048576) (n:Int) (i:Nat) (hi:i<E.length) (r:Bool) (hr:newE E i=true→Ev (fun k=>spec_l13Shape.l0 k n ((i:Int)+1) C E) r):
    Ev (fun k=>spec_l13Shape.l1 k n (i:Int) 0 C E (rd_T51 E (i:Int)).f0 (rd_T51 E (i:Int)).f1) (newE E i&&r):=by
  refine idx_and2 (g:=fun k j=>spec_l13Shape.l1 k n (i:Int) j C E (rd_T51 E (i:Int)).f0 (rd_T51 E (i:Int)).f1) i (fun j=> !sameE E j i) r ?_ ?_ ?_
  · intro h
    refine ev_shift ?_;simp only[spec_l13Shape.l1]
    rw[wrap_up (by omega) (show(i:Int)<(E.length:Int) by omega) (by omega)]
    exact ev_neg (by omega) (hr ((allN_iff _ _).2 h))
  · intro j hj hp r' hr'
    refine ev_shift ?_;simp only[spec_l13Shape.l1]
    rw[wrap_up (by omega) (show(j:Int)<(E.length:Int) by omega) (by omega)]
    exact ev_pos (by omega) (ev_pos (by omega) (ev_pos (by omega) (ev_neg (by simpa[sameE]using hp) hr')))
  · intro j hj hp
    refine ev_shift ?_;simp only[spec_l13Shape.l1]
    exact ev_pos (by omega) (ev_pos (by omega) (ev_pos (by omega) (ev_pos (by simpa[sameE]using hp) (ev_some _))))
theorem shape_reach (hm:E.length≤1048576) (n:Nat) (hn:1≤n) (hn2:n≤1048576) (i:Nat) (hi:i<E.length):∃b,(b= !preE E n i)∧∀r,Ev (fun k=>spec_l13Shape.j2 k (n:Int) (i:Int) b C E (rd_T51 E (i:Int)).f0 (rd_T51 E (i:Int)).f1) r→Ev (fun k=>spec_l13Shape.l0 k (n:Int) (i:Int) C E) r:=by
  refine⟨_,rfl,fun r hr=>?_⟩
  refine ev_shift ?_;simp only[spec_l13Shape.l0]
  refine ev_pos (by omega) (ev_pos (by omega) (ev_bind (spec_IsName_ev _) ?_))
  unfold preE at hr
  cases hN:isNameS (rd_T51 E (i:Int)).f0 with
  |false=>rw[hN]at hr;exact ev_neg (by decide) (by simpa using hr)
  |true=>
    rw[hN]at hr
    refine ev_pos rfl (ev_bindc (spec_l00In_eq _ _ _) ?_)
    rw[wrap_id (by omega) (by omega)]
    cases hI:(decide (1≤(rd_T51 E (i:Int)).f1)&&decide ((rd_T51 E (i:Int)).f1≤(n:Int)- 1))with
    |false=>rw[hI]at hr;exact ev_neg (by decide) (by simpa using hr)
    |true=>
      rw[hI]at hr
      refine ev_pos rfl ?_
      by_cases h0:0<i
      · rw [wrap_id (by omega) (by omega)]
        refine ev_pos (by omega) (ev_pos (by omega) (ev_pos (by omega) ?_))
        unfold upE at hr;rw[if_pos h0]at hr;simpa using hr
      · refine ev_neg (by omega) ?_
        unfold upE at hr;rw[if_neg h0]at hr;simpa using hr
theorem shape_l0 (hm:E.length≤1048576) (n:Nat) (hn:1≤n) (hn2:n≤1048576) (r:Bool) (hr:(∀i,i<E.length→entS E n i=true)→Ev (fun k=>spec_l13Shape.l2 k (n:Int) 0 (-1) 0 C E) r):
    Ev (fun k=>spec_l13Shape.l0 k (n:Int) 0 C E) (allN E.length (entS E n)&&r):=by
  refine idx_and2 (g:=fun k i=>spec_l13Shape.l0 k (n:Int) i C E) E.length (entS E n) r ?_ ?_ ?_
  · intro h
    refine ev_shift ?_;simp only[spec_l13Shape.l0]
    exact ev_neg (by omega) (hr h)
  · intro i hi hp r' hr'
    obtain⟨b,hb,hh⟩:=shape_reach C E hm n hn hn2 i hi
    unfold entS at hp;rw[Bool.and_eq_true]at hp
    rw[hp.1]at hb;subst hb
    refine hh _ (ev_shift ?_);simp only[spec_l13Shape.j2]
    refine ev_neg (by decide) ?_
    have:=shape_l1 C E hm n i hi r' (fun _=>hr')
    rw[hp.2,Bool.true_and]at this;exact this
  · intro i hi hp
    obtain⟨b,hb,hh⟩:=shape_reach C E hm n hn hn2 i hi
    refine hh _ (ev_shift ?_);simp only[spec_l13Shape.j2]
    unfold entS at hp
    cases hq:preE E n i with
    |false=>rw[hq]at hb;exact ev_pos hb (ev_some _)
    |true=>
      rw[hq]at hb hp;rw[hb]
      refine ev_neg (by decide) ?_
      have:=shape_l1 C E hm n i hi false (fun h=>by rw[h]at hp;cases hp)
      rw[Bool.and_false]at this;exact this
end
def regFrom (n : Int) : Int → List S51 → Int → Int × Int
  |low0,[],_=>(low0,n- 1)
  |low0,e::es,at_=>if e.f1≤at_ then regFrom n e.f1 es at_ else(low0,e.f1- 1)
theorem regFrom_stay (n:Int) (a b:Int) (h:a≤b):∀(es:List S51) (low0:Int),b≤(regFrom n low0 es a).2→regFrom n low0 es b=regFrom n low0 es a:=by
  intro es
  induction es with
  |nil=>intro low0 _;rfl
  |cons e es ih=>
    intro low0 hb
    simp only[regFrom]at hb ⊢
    by_cases c:e.f1≤a
    · rw[if_pos c]at hb ⊢;rw[if_pos (by omega)];exact ih _ hb
    · rw[if_neg c]at hb ⊢;rw[if_neg (by simp only at hb;omega)]
theorem regFrom_low (n a:Int):∀(es:List S51) (low0:Int),0≤low0→(∀e,e∈es→1≤e.f1)→0≤(regFrom n low0 es a).1:=by
  intro es
  induction es with
  |nil=>intro low0 h _;exact h
  |cons e es ih=>
    intro low0 h hb
    simp only[regFrom]
    split
    · exact ih _ (by have:=hb e (List.mem_cons_self ..);omega) (fun x hx=>hb x (List.mem_cons_of_mem _ hx))
    · exact h
theorem regFrom_high (n a:Int) (ha:a<n):∀(es:List S51) (low0:Int),(∀e,e∈es→e.f1≤n)→a≤(regFrom n low0 es a).2∧(regFrom n low0 es a).2≤n- 1:=by
  intro es
  induction es with
  |nil=>intro low0 _;simp only[regFrom];omega
  |cons e es ih=>
    intro low0 hb
    simp only[regFrom]
    have:=hb e (List.mem_cons_self ..)
    split
    · exact ih _ (fun x hx=>hb x (List.mem_cons_of_mem _ hx))
    · simp only;omega
theorem rd51 (E:List S51) (i:Nat) (h:i<E.length):rd_T51 E (i:Int)=E[i]:=by
  unfold rd_T51;exact getD_get _ _ _ h
theorem rd55 (C:List S55) (i:Nat) (h:i<C.length):rd_T55 C (i:Int)=C[i]:=by
  unfold rd_T55;exact getD_get _ _ _ h
section
variable (C:List S55) (E:List S51)
theorem region_ev (hn:C.length≤1048576) (hm:E.length≤1048576) (hf:∀e,e∈E→e.f1≤9223372036854775807) (at_:Int) (h0:0≤at_):
    Ev (fun k=>spec_l13Region.f k C E at_) (regFrom C.length 0 E at_):=by
  simp only[spec_l13Region.f]
  rw[wrap_id (by omega) (by omega)]
  suffices h:∀d i:Nat,i+d=E.length→∀low0,Ev (fun k=>spec_l13Region.l0 k at_ low0 ((C.length:Int)- 1) (i:Int) C E) (regFrom C.length low0 (E.drop i) at_) by
    simpa using h E.length 0 (by omega) 0
  intro d
  induction d with
  |zero=>
    intro i hi low0
    refine ev_shift ?_;simp only[spec_l13Region.l0]
    rw[List.drop_of_length_le (by omega)]
    exact ev_neg (by omega) (ev_some _)
  |succ d ih=>
    intro i hi low0
    have hlt:i<E.length:=by omega
    refine ev_shift ?_;simp only[spec_l13Region.l0]
    rw[List.drop_eq_getElem_cons hlt,rd51 E i hlt,wrap_up (by omega) (show(i:Int)<(E.length:Int) by omega) (by omega)]
    simp only[regFrom]
    refine ev_pos (by omega) (ev_pos (by omega) ?_)
    have hx:=hf E[i] (List.getElem_mem hlt)
    by_cases c:E[i].f1≤at_
    · rw[if_pos c];exact ev_pos c (by simpa using ih (i+1) (by omega) E[i].f1)
    · rw [if_neg c]; refine ev_neg c ?_
      rw[wrap_id (by omega) (by omega)];exact ev_some _
def okI (low high kind:Int) (i:Nat):Bool:=
  if(rd_T55 C (i:Int)).f0=39∨(rd_T55 C (i:Int)).f0=38 then decide ((i:Int)=high)&&decide ((rd_T55 C (i:Int)).f0=kind)
  else if(i:Int)=high then false
  else if(rd_T55 C (i:Int)).f0=37 then decide (low≤(rd_T55 C (i:Int)).f1)&&(decide ((rd_T55 C (i:Int)).f1<i)&&decide ((rd_T55 C (rd_T55 C (i:Int)).f1).f0=31))
  else if(rd_T55 C (i:Int)).f0=32∨(rd_T55 C (i:Int)).f0=33 then decide ((i:Int)<(rd_T55 C (i:Int)).f1)&&decide ((rd_T55 C (i:Int)).f1≤high)
  else true
def kindOf (low:Int):Int:=if low=0 then 39 else 38
theorem kind_of (low:Int):kindOf low=39∨kindOf low=38:=by unfold kindOf;split<;>simp
def validAt (i:Nat):Bool:=validP (rd_T55 C (i:Int)).f0 (rd_T55 C (i:Int)).f1 (rd_T55 C (i:Int)).f2
def okAt (i:Nat):Bool:=validAt C i&&okI C (regFrom C.length 0 E (i:Int)).1 (regFrom C.length 0 E (i:Int)).2 (kindOf (regFrom C.length 0 E (i:Int)).1) i
theorem j8_ev (hn : C.length ≤ 1048576) (i : Nat) (hi : i < C.length) (low high : Int) (h1 : (i : Int) < high) (h2 : high < C.length) (h0 : 0 ≤ low) (r : Bool)
    (ho:¬((rd_T55 C (i:Int)).f0=39∨(rd_T55 C (i:Int)).f0=38)) (kind:Int)
    (hr:okI C low high kind i=true→Ev (fun k=>spec_l13Shape.l2 k C.length low high ((i:Int)+1) C E) r) (b:Bool) (hb:b=true↔(rd_T55 C (i:Int)).f0=32∨(rd_T55 C (i:Int)).f0=33):
    Ev (fun k=>spec_l13Shape.j8 k C.length low high (i:Int) (rd_T55 C (i:Int)).f0 b C E (rd_T55 C (i:Int)).f0 (rd_T55 C (i:Int)).f1 (rd_T55 C (i:Int)).f2) (okI C low high kind i&&r):=by
  refine ev_shift ?_;simp only[spec_l13Shape.j8]
  rw[wrap_up (by omega) (show(i:Int)<(C.length:Int) by omega) (by omega),wrap_id (x:=(i:Int)- 1) (by omega) (by omega)]
  unfold okI at hr ⊢
  rw[if_neg ho,if_neg (by omega)]at hr ⊢
  by_cases c:(rd_T55 C (i:Int)).f0=32∨(rd_T55 C (i:Int)).f0=33
  · rw [if_neg (by omega), if_pos c] at hr ⊢
    refine ev_pos (hb.2 c) (ev_bindc (spec_l00In_eq _ _ _) ?_)
    rw[show decide ((i:Int)+1≤(rd_T55 C (i:Int)).f1)=decide ((i:Int)<(rd_T55 C (i:Int)).f1) from by rw[Bool.eq_iff_iff];simp;omega]
    cases hq:(decide ((i:Int)<(rd_T55 C (i:Int)).f1)&&decide ((rd_T55 C (i:Int)).f1≤high))with
    |true=>exact ev_pos rfl (by simpa using hr hq)
    |false=>exact ev_neg (by decide) (by simpa using ev_some false)
  · refine ev_neg (fun h => c (hb.1 h)) ?_
    by_cases c7:(rd_T55 C (i:Int)).f0=37
    · rw [if_pos c7] at hr ⊢
      refine ev_pos c7 (ev_bindc (spec_l00In_eq _ _ _) ?_)
      cases hq:decide (low≤(rd_T55 C (i:Int)).f1)with
      |false=>exact ev_neg (by simp) (ev_shift (by simp only[spec_l13Shape.j9];exact ev_pos trivial (by simpa using ev_some false)))
      |true=>
        have q1:=of_decide_eq_true hq
        rw[hq]at hr
        cases hq2:decide ((rd_T55 C (i:Int)).f1<(i:Int))with
        |false=>
          have q2:=of_decide_eq_false hq2
          exact ev_neg (by simp;omega) (ev_shift (by simp only[spec_l13Shape.j9];exact ev_pos trivial (by simpa using ev_some false)))
        |true=>
          have q2:=of_decide_eq_true hq2
          rw[hq2]at hr
          refine ev_pos (by simp;omega) (ev_pos (by omega) (ev_pos (by omega) (ev_shift ?_)))
          simp only[spec_l13Shape.j9]
          rw[wrap_up (by omega) (show(i:Int)<(C.length:Int) by omega) (by omega)]
          by_cases q3:(rd_T55 C (rd_T55 C (i:Int)).f1).f0=31
          · exact ev_neg (by simp[q3]) (by simpa[q3]using hr (by simp[q3]))
          · exact ev_pos (by simpa using q3) (by simpa[q3]using ev_some false)
    · rw [if_neg c7, if_neg c] at hr ⊢
      exact ev_neg c7 (by simpa using hr rfl)
theorem j5_ev (hn : C.length ≤ 1048576) (i : Nat) (hi : i < C.length) (low high : Int) (h1 : (i : Int) ≤ high) (h2 : high < C.length) (h0 : 0 ≤ low) (r : Bool)
    (hr:(validAt C i&&okI C low high (kindOf low) i)=true→Ev (fun k=>spec_l13Shape.l2 k C.length low high ((i:Int)+1) C E) r):
    Ev (fun k=>spec_l13Shape.j5 k C.length low high (i:Int) C E) ((validAt C i&&okI C low high (kindOf low) i)&&r):=by
  have j7t:Ev (fun k=>spec_l13Shape.j7 k C.length low high (i:Int) true C E (rd_T55 C (i:Int)).f0 (rd_T55 C (i:Int)).f1 (rd_T55 C (i:Int)).f2) false:=by
    refine ev_shift ?_;simp only[spec_l13Shape.j7];exact ev_pos trivial (ev_some _)
  suffices h:Ev (fun k=>spec_l13Shape.j6 k C.length low high (i:Int) (kindOf low) C E (rd_T55 C (i:Int)).f0 (rd_T55 C (i:Int)).f1 (rd_T55 C (i:Int)).f2) ((validAt C i&&okI C low high (kindOf low) i)&&r) by
    refine ev_shift ?_;simp only[spec_l13Shape.j5]
    refine ev_pos (by omega) (ev_pos (by omega) ?_)
    unfold kindOf at h
    by_cases c:low=0
    · rw[if_pos c]at h;rw[show kindOf low=39 from if_pos c];exact ev_pos c h
    · rw[if_neg c]at h;rw[show kindOf low=38 from if_neg c];exact ev_neg c h
  refine ev_shift ?_;simp only[spec_l13Shape.j6]
  refine ev_bind (spec_ValidIns_ev _ _ _) ?_
  rw[show validP (rd_T55 C (i:Int)).f0 (rd_T55 C (i:Int)).f1 (rd_T55 C (i:Int)).f2=validAt C i from rfl]
  cases hv:validAt C i with
  |false=>exact ev_neg (by decide) (by simpa using j7t)
  |true=>
    rw[hv]at hr;rw[Bool.true_and]at hr ⊢
    refine ev_pos rfl ?_
    have hk:=kind_of low
    by_cases ch:(i:Int)=high
    · have b2 : ((i : Int) == high) = true := beq_iff_eq.2 ch
      by_cases co:(rd_T55 C (i:Int)).f0=kindOf low
      · have ho:okI C low high (kindOf low) i=true:=by
          unfold okI;rw[if_pos (by omega),decide_eq_true ch,decide_eq_true co];rfl
        have b1:((rd_T55 C (i:Int)).f0==kindOf low)=true:=beq_iff_eq.2 co
        rw[ho,Bool.true_and]
        refine ev_neg (by rw[b1,b2];decide) (ev_neg (by omega) (ev_shift ?_))
        simp only[spec_l13Shape.j7]
        refine ev_neg (by decide) (ev_neg (by omega) (ev_shift ?_))
        simp only[spec_l13Shape.j8]
        rw[wrap_up (by omega) (show(i:Int)<(C.length:Int) by omega) (by omega)]
        exact ev_neg (by simp;omega) (ev_neg (by omega) (hr ho))
      · have ho:okI C low high (kindOf low) i=false:=by
          unfold okI
          by_cases c9:(rd_T55 C (i:Int)).f0=39∨(rd_T55 C (i:Int)).f0=38
          · rw[if_pos c9,decide_eq_false co,Bool.and_false]
          · rw[if_neg c9,if_pos ch]
        have b1:((rd_T55 C (i:Int)).f0==kindOf low)=false:=beq_false_of_ne co
        rw[ho,Bool.false_and]
        exact ev_pos (by rw[b1,b2];decide) j7t
    · have b2 : ((i : Int) == high) = false := beq_false_of_ne ch
      by_cases co:(rd_T55 C (i:Int)).f0=39∨(rd_T55 C (i:Int)).f0=38
      · have ho:okI C low high (kindOf low) i=false:=by
          unfold okI;rw[if_pos co,decide_eq_false ch,Bool.false_and]
        rw[ho,Bool.false_and]
        by_cases ck:(rd_T55 C (i:Int)).f0=kindOf low
        · have b1 : ((rd_T55 C (i : Int)).f0 == kindOf low) = true := beq_iff_eq.2 ck
          exact ev_pos (by rw[b1,b2];decide) j7t
        · have b1 : ((rd_T55 C (i : Int)).f0 == kindOf low) = false := beq_false_of_ne ck
          refine ev_neg (by rw[b1,b2];decide) (ev_pos (by omega) ?_)
          by_cases c9:(rd_T55 C (i:Int)).f0=39
          · exact ev_pos c9 j7t
          · refine ev_neg c9 ?_
            rw[show((rd_T55 C (i:Int)).f0==38)=true from by simp;omega];exact j7t
      · have ck : ¬ (rd_T55 C (i : Int)).f0 = kindOf low := by omega
        have b1:((rd_T55 C (i:Int)).f0==kindOf low)=false:=beq_false_of_ne ck
        refine ev_neg (by rw[b1,b2];decide) (ev_pos (by omega) (ev_neg (by omega) ?_))
        rw[show((rd_T55 C (i:Int)).f0==38)=false from by simp;omega]
        refine ev_shift ?_;simp only[spec_l13Shape.j7]
        refine ev_neg (by decide) ?_
        by_cases c2:(rd_T55 C (i:Int)).f0=32
        · exact ev_pos c2 (j8_ev C E hn i hi low high (by omega) h2 h0 r co _ hr _ (by simp[c2]))
        · exact ev_neg c2 (j8_ev C E hn i hi low high (by omega) h2 h0 r co _ hr _ (by simp[c2]))
theorem l2_ev (hn:C.length≤1048576) (hm:E.length≤1048576) (he:∀e,e∈E→1≤e.f1∧e.f1<C.length):∀d i:Nat,i+d=C.length→∀low high:Int,((i:Int)>high∨(low,high)=regFrom C.length 0 E (i:Int))→
    Ev (fun k=>spec_l13Shape.l2 k C.length low high (i:Int) C E) ((List.range' i d).all (okAt C E)):=by
  intro d
  induction d with
  |zero=>
    intro i hi low high _
    refine ev_shift ?_;simp only[spec_l13Shape.l2]
    exact ev_neg (by omega) (by simpa using ev_some true)
  |succ d ih=>
    intro i hi low high hh
    rw[List.range'_succ,List.all_cons]
    have hlow:=regFrom_low C.length (i:Int) E 0 (by omega) (fun e h=>(he e h).1)
    obtain⟨hh1,hh2⟩:=regFrom_high C.length (i:Int) (by omega) E 0 (fun e h=>by have:=(he e h).2;omega)
    have main:Ev (fun k=>spec_l13Shape.j5 k C.length (regFrom C.length 0 E (i:Int)).1 (regFrom C.length 0 E (i:Int)).2 (i:Int) C E) (okAt C E i&&(List.range' (i+1) d).all (okAt C E)):=by
      refine j5_ev C E hn i (by omega) _ _ hh1 (by omega) hlow _ (fun _=>?_)
      have:=ih (i+1) (by omega) (regFrom C.length 0 E (i:Int)).1 (regFrom C.length 0 E (i:Int)).2 (by
        by_cases c:(((i+1:Nat):Int))>(regFrom C.length 0 E (i:Int)).2
        · exact Or.inl c
        · exact Or.inr (by rw[regFrom_stay C.length (i:Int) ((i+1:Nat):Int) (by omega) E 0 (by omega)]))
      simpa using this
    refine ev_shift ?_;simp only[spec_l13Shape.l2]
    refine ev_pos (by omega) ?_
    by_cases c:(i:Int)>high
    · exact ev_pos c (ev_bind (region_ev C E hn hm (fun e h=>by have:=(he e h).2;omega) (i:Int) (by omega)) main)
    · rcases hh with h | h
      · exact absurd h c
      · rw[←h]at main;exact ev_neg c main
end
theorem idx_else {β : Type} {g : Nat → Int → Option β} (n : Nat) (P : Nat → Bool) (r bad : β) (h0 : (∀ i, i < n → P i = true) → Ev (fun k => g k (n : Int)) r)
    (h1:∀i,i<n→P i=true→∀r,Ev (fun k=>g k ((i:Int)+1)) r→Ev (fun k=>g k (i:Int)) r)
    (h2:∀i,i<n→P i=false→Ev (fun k=>g k (i:Int)) bad):Ev (fun k=>g k 0) (if allN n P=true then r else bad):=by
  suffices h:∀d i:Nat,i+d=n→(∀j,j<i→P j=true)→Ev (fun k=>g k (i:Int)) (if(List.range' i d).all P=true then r else bad) from h n 0 (Nat.zero_add _) (fun j hj=>absurd hj (by omega))
  intro d
  induction d with
  |zero=>
    intro i hi hb
    have e:i=n:=by omega
    subst e
    exact h0 hb
  |succ d ih=>
    intro i hi hb
    rw[List.range'_succ,List.all_cons]
    cases hp:P i with
    |false=>exact h2 i (by omega) hp
    |true=>
      refine h1 i (by omega) hp _ ?_
      have:=ih (i+1) (by omega) (fun j hj=>by rcases Nat.lt_succ_iff_lt_or_eq.1 hj with h|h;exact hb j h;rw[h];exact hp)
      rw[Bool.true_and]
      rw[show(((i+1:Nat):Int))=(i:Int)+1 from by omega]at this
      exact this
section
variable (C:List S55) (E:List S51)
theorem take51 (i j:Nat) (hj:j<i) (hi:i≤E.length):rd_T51 (E.take i) (j:Int)=rd_T51 E (j:Int):=by
  rw[rd51 _ _ (by rw[List.length_take];omega),rd51 _ _ (by omega),List.getElem_take]
theorem dup_ev (hm:E.length≤1048576) (i:Nat) (hi:i<E.length):
    Ev (fun k=>impl_PatternEntry__impl_PatternCode_hasGoodEntries_1_49.f k (E.take i) [(⟨(rd_T51 E (i:Int)).f0,(rd_T51 E (i:Int)).f1⟩:S51)]) (!newE E i):=by
  simp only[impl_PatternEntry__impl_PatternCode_hasGoodEntries_1_49.f,impl_PatternEntry__impl_PatternCode_hasGoodEntries_1.f]
  have hl:(E.take i).length=i:=by rw[List.length_take];omega
  rw[hl]
  have hp:∀j:Nat,j<i→impl_PatternCode_hasGoodEntries_1.f (rd_T51 (E.take i) (j:Int)).f0 (rd_T51 (E.take i) (j:Int)).f1 [(⟨(rd_T51 E (i:Int)).f0,(rd_T51 E (i:Int)).f1⟩:S51)]=some (sameE E j i):=by
    intro j hj
    simp only[impl_PatternCode_hasGoodEntries_1.f]
    rw[if_pos (by simp),take51 E i j hj (by omega)]
    congr 1
    rw[Bool.eq_iff_iff];simp[sameE];rfl
  obtain ⟨v, hv, hh⟩ := idx_find (g := fun k j => impl_PatternEntry__impl_PatternCode_hasGoodEntries_1.l0 k (E.take i) [(⟨(rd_T51 E (i : Int)).f0, (rd_T51 E (i : Int)).f1⟩ : S51)] (i : Int) j) i (fun j => sameE E j i)
    (by refine ev_shift ?_;simp only[impl_PatternEntry__impl_PatternCode_hasGoodEntries_1.l0];exact ev_neg (by omega) (ev_some _))
    (by
      intro j hj hq r hr
      refine ev_shift ?_;simp only[impl_PatternEntry__impl_PatternCode_hasGoodEntries_1.l0]
      rw[hl,hp j hj,hq,wrap_up (by omega) (show(j:Int)<(E.length:Int) by omega) (by omega)]
      exact ev_pos (by omega) (ev_pos (by omega) (ev_pos (by omega) (ev_bindc rfl (ev_neg (by decide) hr)))))
    (by
      intro j hj hq
      refine ev_shift ?_;simp only[impl_PatternEntry__impl_PatternCode_hasGoodEntries_1.l0]
      rw[hl,hp j hj,hq]
      exact ev_pos (by omega) (ev_pos (by omega) (ev_pos (by omega) (ev_bindc rfl (ev_pos rfl (ev_some _))))))
  refine ev_bind hv ?_
  have e:(!newE E i)=decide (v≥0):=by
    rw[Bool.eq_iff_iff]
    rcases hh with⟨h1,h2⟩|⟨j,h1,h2,h3,_⟩
    · have : newE E i = true := (allN_iff _ _).2 (fun j hj => by rw [h2 j hj]; rfl)
      rw[this];simp;omega
    · have:newE E i=false:=by
        rw[Bool.eq_false_iff];intro h
        have:=(allN_iff _ _).1 h j h2
        simp[h3]at this
      rw[this];simp;omega
  rw[e];exact ev_some _
theorem goodEntries_ev (hn:C.length≤1048576) (hm:E.length≤1048576):Ev (fun k=>impl_PatternCode_hasGoodEntries.f k C E) (allN E.length (entI E C.length)&&decide (E.length≤40)):=by
  simp only[impl_PatternCode_hasGoodEntries.f]
  have key := idx_and2 (g := fun k x => impl_PatternCode_hasGoodEntries.l0 k (lastE E x.toNat) E (E.length : Int) x C E) E.length (entI E C.length) (decide (E.length ≤ 40))
    (by
      intro _
      refine ev_shift ?_;simp only[impl_PatternCode_hasGoodEntries.l0]
      refine ev_neg (by omega) ?_
      rw[show decide ((E.length:Int)≤40)=decide (E.length≤40) from by rw[Bool.eq_iff_iff];simp;omega];exact ev_some _)
    (by
      intro i hi hp r hr
      obtain⟨a,b,c,d,e⟩:=(entI_iff E C.length i).1 hp
      refine ev_shift ?_;simp only[impl_PatternCode_hasGoodEntries.l0]
      rw[Int.toNat_natCast,wrap_up (by omega) (show(i:Int)<(E.length:Int) by omega) (by omega)]
      refine ev_pos (by omega) (ev_pos (by omega) (ev_pos (by omega) (ev_pos (by omega) (ev_bind (dup_ev E hm i hi) ?_))))
      refine ev_neg (by rw[a];decide) (ev_bind (impl_IsName_ev _) (ev_pos b (ev_neg (by omega) (ev_bindc (isIndex_eq _ _) (ev_pos (by simp;omega) ?_)))))
      simpa[lastE]using hr)
    (by
      intro i hi hp
      refine ev_shift ?_;simp only[impl_PatternCode_hasGoodEntries.l0]
      rw[Int.toNat_natCast]
      refine ev_pos (by omega) (ev_pos (by omega) (ev_pos (by omega) (ev_pos (by omega) (ev_bind (dup_ev E hm i hi) ?_))))
      unfold entI at hp
      cases ha:newE E i with
      |false=>exact ev_pos rfl (ev_some _)
      |true=>
        rw[ha]at hp
        refine ev_neg (by decide) (ev_bind (impl_IsName_ev _) ?_)
        cases hb:isNameS (rd_T51 E (i:Int)).f0 with
        |false=>exact ev_neg (by decide) (ev_some _)
        |true=>
          rw[hb]at hp
          refine ev_pos rfl ?_
          by_cases hc:(rd_T51 E (i:Int)).f1≤lastE E i
          · exact ev_pos hc (ev_some _)
          · refine ev_neg hc (ev_bindc (isIndex_eq _ _) ?_)
            rw[decide_eq_false hc]at hp
            exact ev_neg (by simpa using hp) (ev_some _))
  simpa[lastE]using key
def regs:List Int:=0::(E.map (·.f1)++[(C.length:Int)])
theorem regions_ev (hn:C.length≤1048576) (hm:E.length≤1048576):Ev (fun k=>impl_PatternCode_regions.f k C E) (regs C E):=by
  simp only[impl_PatternCode_regions.f]
  suffices h:∀d i:Nat,i+d=E.length→∀acc:List Int,acc.length+d≤1048577→Ev (fun k=>impl_PatternCode_regions.l0 k acc E (E.length:Int) (i:Int) C E) (acc++((E.drop i).map (·.f1)++[(C.length:Int)])) by
    simpa[regs]using h E.length 0 (by omega) [0] (by simp;omega)
  intro d
  induction d with
  |zero=>
    intro i hi acc ha
    refine ev_shift ?_;simp only[impl_PatternCode_regions.l0]
    rw[List.drop_of_length_le (by omega)]
    exact ev_neg (by omega) (ev_pos (by omega) (by simpa using ev_some _))
  |succ d ih=>
    intro i hi acc ha
    have hlt:i<E.length:=by omega
    refine ev_shift ?_;simp only[impl_PatternCode_regions.l0]
    rw[List.drop_eq_getElem_cons hlt,rd51 E i hlt,wrap_up (by omega) (show(i:Int)<(E.length:Int) by omega) (by omega)]
    refine ev_pos (by omega) (ev_pos (by omega) (ev_pos (by omega) (ev_pos (by omega) ?_)))
    have:=ih (i+1) (by omega) (acc++[E[i].f1]) (by simp;omega)
    rw[show(((i+1:Nat):Int))=(i:Int)+1 from by omega,List.append_assoc]at this
    exact this
theorem goodRegion_ev (hn:C.length≤1048576) (lo hi kind:Int) (h0:0≤lo) (h1:hi≤C.length):∀d i:Nat,(i:Int)+d=hi→lo≤i→
    Ev (fun k=>impl_PatternCode_isGoodRegion.l0 k lo hi kind (i:Int) C E) ((List.range' i d).all (okI C lo (hi- 1) kind)):=by
  intro d
  induction d with
  |zero=>
    intro i hd hl
    refine ev_shift ?_;simp only[impl_PatternCode_isGoodRegion.l0]
    exact ev_neg (by omega) (by simpa using ev_some true)
  |succ d ih=>
    intro i hd hl
    have hx:=ih (i+1) (by omega) (by omega)
    rw[show(((i+1:Nat):Int))=(i:Int)+1 from by omega]at hx
    rw[List.range'_succ,List.all_cons]
    refine ev_shift ?_;simp only[impl_PatternCode_isGoodRegion.l0]
    rw[wrap_up (by omega) (show(i:Int)<(C.length:Int) by omega) (by omega),wrap_id (x:=hi- 1) (by omega) (by omega)]
    refine ev_pos (by omega) (ev_pos (by omega) (ev_pos (by omega) (ev_bindc (isLast_eq _) ?_)))
    unfold okI
    by_cases c:(rd_T55 C (i:Int)).f0=39∨(rd_T55 C (i:Int)).f0=38
    · rw [if_pos c]
      refine ev_pos (by simpa using c) ?_
      by_cases e:(i:Int)=hi- 1
      · refine ev_pos e ?_
        rw[decide_eq_true e,Bool.true_and]
        by_cases f:(rd_T55 C (i:Int)).f0=kind
        · rw[decide_eq_true f,Bool.true_and];exact ev_pos f hx
        · rw[decide_eq_false f,Bool.false_and];exact ev_neg f (ev_some _)
      · rw[decide_eq_false e,Bool.false_and,Bool.false_and];exact ev_neg e (ev_some _)
    · rw [if_neg c]
      refine ev_neg (by simpa using c) ?_
      by_cases e:(i:Int)=hi- 1
      · rw[if_pos e,Bool.false_and];exact ev_pos e (ev_some _)
      · rw [if_neg e]
        refine ev_neg e ?_
        by_cases c7:(rd_T55 C (i:Int)).f0=37
        · rw [if_pos c7]
          refine ev_pos c7 ?_
          by_cases q1:lo≤(rd_T55 C (i:Int)).f1
          · refine ev_pos q1 ?_
            rw[decide_eq_true q1,Bool.true_and]
            by_cases q2:(rd_T55 C (i:Int)).f1<(i:Int)
            · refine ev_pos q2 (ev_pos (by omega) (ev_pos (by omega) ?_))
              rw[decide_eq_true q2,Bool.true_and]
              by_cases q3:(rd_T55 C (rd_T55 C (i:Int)).f1).f0=31
              · rw[decide_eq_true q3,Bool.true_and];exact ev_pos q3 hx
              · rw[decide_eq_false q3,Bool.false_and];exact ev_neg q3 (ev_some _)
            · rw[decide_eq_false q2,Bool.false_and,Bool.false_and];exact ev_neg q2 (ev_some _)
          · rw[decide_eq_false q1,Bool.false_and,Bool.false_and];exact ev_neg q1 (ev_some _)
        · rw [if_neg c7]
          refine ev_neg c7 (ev_bindc (hasAddress_eq _) ?_)
          by_cases c2:(rd_T55 C (i:Int)).f0=32∨(rd_T55 C (i:Int)).f0=33
          · rw [if_pos c2]
            refine ev_pos (by simp;omega) ?_
            by_cases q1:(i:Int)<(rd_T55 C (i:Int)).f1
            · refine ev_pos q1 ?_
              rw[decide_eq_true q1,Bool.true_and]
              by_cases q2:(rd_T55 C (i:Int)).f1<hi
              · rw[decide_eq_true (by omega),Bool.true_and];exact ev_pos q2 hx
              · rw[decide_eq_false (by omega),Bool.false_and];exact ev_neg q2 (ev_some _)
            · rw[decide_eq_false q1,Bool.false_and,Bool.false_and];exact ev_neg q1 (ev_some _)
          · rw [if_neg c2, Bool.true_and]
            exact ev_neg (by simp;omega) hx
end
section
variable (C:List S55) (E:List S51)
def nextE (i:Nat):Int:=if i<E.length then(rd_T51 E (i:Int)).f1 else C.length
theorem lastE_lt (n:Int) (hg:∀i,i<E.length→entI E n i=true) (i:Nat) (hi:i<E.length):lastE E i<lastE E (i+1):=
  ((entI_iff E n i).1 (hg i hi)).2.2.1
theorem lastE_mono (n:Int) (hg:∀i,i<E.length→entI E n i=true) (a:Nat):∀d,a+d≤E.length→lastE E a≤lastE E (a+d):=by
  intro d
  induction d with
  |zero=>intro _;exact Int.le_refl _
  |succ d ih=>intro h;have:=ih (by omega);have:=lastE_lt E n hg (a+d) (by omega);rw[←Nat.add_assoc];omega
theorem regFrom_at (hg:∀i,i<E.length→entI E C.length i=true) (i:Nat) (hi:i≤E.length) (j:Int) (h1:lastE E i≤j) (h2:j<nextE C E i):
    ∀d t:Nat,t+d=i→regFrom C.length (lastE E t) (E.drop t) j=(lastE E i,nextE C E i- 1):=by
  intro d
  induction d with
  |zero=>
    intro t ht
    have ht:t=i:=by omega
    subst ht
    unfold nextE at h2 ⊢
    by_cases c:t<E.length
    · rw [if_pos c] at h2 ⊢
      rw[List.drop_eq_getElem_cons c];simp only[regFrom]
      rw[rd51 E t c]at h2 ⊢
      rw[if_neg (by omega)]
    · rw [if_neg c]
      rw[List.drop_of_length_le (by omega)];rfl
  |succ d ih=>
    intro t ht
    have c:t<E.length:=by omega
    rw[List.drop_eq_getElem_cons c];simp only[regFrom]
    have hm:=lastE_mono E C.length hg (t+1) d (by omega)
    rw[show t+1+d=i from by omega]at hm
    have e:lastE E (t+1)=E[t].f1:=by show(rd_T51 E (t:Int)).f1=_;rw[rd51 E t c]
    rw[if_pos (by omega), ←e]
    exact ih (t+1) (by omega)
theorem seg_find (j:Int) (h0:0≤j):∀t:Nat,t≤E.length→j<nextE C E t→∃i,i≤t∧lastE E i≤j∧j<nextE C E i:=by
  intro t
  induction t with
  |zero=>intro _ h;exact⟨0,Nat.le_refl _,h0,h⟩
  |succ t ih=>
    intro ht h
    by_cases c:lastE E (t+1)≤j
    · exact⟨t+1,Nat.le_refl _,c,h⟩
    · have : nextE C E t = lastE E (t + 1) := by unfold nextE; rw [if_pos (by omega)]; rfl
      obtain⟨i,a,b,d⟩:=ih (by omega) (by omega)
      exact⟨i,by omega,b,d⟩
theorem next_le (hg:∀i,i<E.length→entI E C.length i=true) (i:Nat) (hi:i≤E.length) (hn:1≤C.length):lastE E i<nextE C E i∧nextE C E i≤C.length∧0≤lastE E i∧(lastE E i=0↔i=0):=by
  have h0:=lastE_mono E C.length hg 0 i (by omega)
  rw[Nat.zero_add]at h0
  have hz:lastE E 0=0:=rfl
  refine⟨?_,?_,by omega,?_⟩
  · unfold nextE
    by_cases c:i<E.length
    · rw[if_pos c];exact lastE_lt E C.length hg i c
    · rw [if_neg c]
      cases i with
      |zero=>rw[hz];omega
      |succ i=>exact((entI_iff E C.length i).1 (hg i (by omega))).2.2.2.2
  · unfold nextE
    by_cases c:i<E.length
    · rw[if_pos c];have:=((entI_iff E C.length i).1 (hg i c)).2.2.2.2;omega
    · rw[if_neg c];exact Int.le_refl _
  · constructor
    · intro h
      cases i with
      |zero=>rfl
      |succ i=>
        have:=lastE_lt E C.length hg i (by omega)
        have:=lastE_mono E C.length hg 0 i (by omega)
        rw[Nat.zero_add]at this
        omega
    · intro h;rw[h];rfl
def segP (i:Nat):Bool:=(List.range' (lastE E i).toNat (nextE C E i-lastE E i).toNat).all (okI C (lastE E i) (nextE C E i- 1) (if i=0 then 39 else 38))
def okR (j:Nat):Bool:=okI C (regFrom C.length 0 E (j:Int)).1 (regFrom C.length 0 E (j:Int)).2 (kindOf (regFrom C.length 0 E (j:Int)).1) j
theorem segs_same (hg:∀i,i<E.length→entI E C.length i=true) (hn:1≤C.length):allN (E.length+1) (segP C E)=allN C.length (okR C E):=by
  have same:∀i j:Nat,i≤E.length→lastE E i≤j→(j:Int)<nextE C E i→okI C (lastE E i) (nextE C E i- 1) (if i=0 then 39 else 38) j=okR C E j:=by
    intro i j hi h1 h2
    unfold okR
    have:=regFrom_at C E hg i hi (j:Int) h1 h2 i 0 (by omega)
    rw[List.drop_zero,show lastE E 0=0 from rfl]at this
    rw[this]
    have hk:=(next_le C E hg i hi hn).2.2.2
    congr 1
    unfold kindOf
    by_cases c:i=0
    · rw[if_pos c,if_pos (hk.2 c)]
    · rw[if_neg c,if_neg (fun h=>c (hk.1 h))]
  rw[Bool.eq_iff_iff,allN_iff,allN_iff]
  constructor
  · intro h j hj
    obtain⟨i,a,b,d⟩:=seg_find C E (j:Int) (by omega) E.length (Nat.le_refl _) (by unfold nextE;rw[if_neg (by omega)];omega)
    have hs:=h i (by omega)
    rw[←same i j a b d]
    have:=next_le C E hg i a hn
    exact List.all_eq_true.1 hs j (by rw[List.mem_range'_1];omega)
  · intro h i hi
    have hx:=next_le C E hg i (by omega) hn
    refine List.all_eq_true.2 (fun j hj=>?_)
    rw[List.mem_range'_1]at hj
    rw[same i j (by omega) (by omega) (by omega)]
    exact h j (by omega)
theorem regs_len:(regs C E).length=E.length+2:=by simp[regs]
theorem regs_last (i:Nat) (hi:i≤E.length):rd (regs C E) (i:Int)=lastE E i:=by
  rw[rd_get _ _ (by rw[regs_len];omega)]
  cases i with
  |zero=>rfl
  |succ i=>
    show _=(rd_T51 E (i:Int)).f1
    rw[rd51 E i (by omega)]
    simp only[regs,List.getElem_cons_succ]
    rw[List.getElem_append_left (by simp;omega),List.getElem_map]
theorem regs_next (i:Nat) (hi:i≤E.length):rd ((regs C E).drop 1) (i:Int)=nextE C E i:=by
  rw[rd_get _ _ (by rw[List.length_drop,regs_len];omega),List.getElem_drop]
  unfold nextE
  simp only[regs,Nat.add_comm 1 i,List.getElem_cons_succ]
  by_cases c:i<E.length
  · rw[if_pos c,rd51 E i c,List.getElem_append_left (by simp;omega),List.getElem_map]
  · rw[if_neg c,List.getElem_append_right (by simp;omega)];simp
theorem checked_l0_ev (hn : C.length ≤ 1048576) (hn1 : 1 ≤ C.length) (hm : E.length ≤ 1048576) (hg : ∀ i, i < E.length → entI E C.length i = true) (r : List Int × Bool)
    (hr:allN C.length (okR C E)=true→Ev (fun k=>impl_PatternCode_marks.f k C E) r):
    Ev (fun k=>impl_PatternCode_checked.l0 k (regs C E) ((regs C E).drop 1) (((regs C E).drop 1).length:Int) 0 C E) (if allN C.length (okR C E)=true then r else([],false)):=by
  rw[←segs_same C E hg hn1]
  have hl:((regs C E).drop 1).length=E.length+1:=by rw[List.length_drop,regs_len];omega
  have hl2:=regs_len C E
  have good:∀i,i<E.length+1→∀kd:Int,(kd=if i=0 then 39 else 38)→Ev (fun k=>impl_PatternCode_isGoodRegion.f k C E (rd (regs C E) (i:Int)) (rd ((regs C E).drop 1) (i:Int)) kd) (segP C E i):=by
    intro i hi kd hk
    have hx:=next_le C E hg i (by omega) hn1
    rw[regs_last C E i (by omega),regs_next C E i (by omega),hk]
    simp only[impl_PatternCode_isGoodRegion.f]
    have:=goodRegion_ev C E hn (lastE E i) (nextE C E i) (if i=0 then 39 else 38) hx.2.2.1 hx.2.1 (nextE C E i-lastE E i).toNat (lastE E i).toNat (by omega) (by omega)
    rw[show(((lastE E i).toNat:Nat):Int)=lastE E i from by omega]at this
    exact this
  rw[hl]
  refine idx_else (g:=fun k i=>impl_PatternCode_checked.l0 k (regs C E) ((regs C E).drop 1) ((E.length+1:Nat):Int) i C E) (E.length+1) (segP C E) r ([],false) ?_ ?_ ?_
  · intro h
    refine ev_shift ?_;simp only[impl_PatternCode_checked.l0]
    refine ev_neg (by omega) (ev_bind (hr ?_) (ev_some _))
    rw[←segs_same C E hg hn1];exact(allN_iff _ _).2 h
  · intro i hi hp r' hr'
    refine ev_shift ?_;simp only[impl_PatternCode_checked.l0]
    rw[hl,wrap_up (by omega) (show(i:Int)<((E.length+1:Nat):Int) by omega) (by omega)]
    refine ev_pos (by omega) (ev_pos (by omega) (ev_pos (by omega) ?_))
    by_cases c:i=0
    · exact ev_pos (by omega) (ev_pos (by omega) (ev_bind (good i hi 39 (by rw[if_pos c])) (ev_pos hp hr')))
    · exact ev_neg (by omega) (ev_pos (by omega) (ev_bind (good i hi 38 (by rw[if_neg c])) (ev_pos hp hr')))
  · intro i hi hp
    refine ev_shift ?_;simp only[impl_PatternCode_checked.l0]
    rw[hl]
    refine ev_pos (by omega) (ev_pos (by omega) (ev_pos (by omega) ?_))
    by_cases c:i=0
    · exact ev_pos (by omega) (ev_pos (by omega) (ev_bind (good i hi 39 (by rw[if_pos c])) (ev_neg (by rw[hp];decide) (ev_some _))))
    · exact ev_neg (by omega) (ev_pos (by omega) (ev_bind (good i hi 38 (by rw[if_neg c])) (ev_neg (by rw[hp];decide) (ev_some _))))
end
def nx (C:List S55) (a:Int):List Int:=
  if(rd_T55 C a).f0=33∨(rd_T55 C a).f0=37 then[(rd_T55 C a).f1]else if(rd_T55 C a).f0=32 then[wrap64 (a+1),(rd_T55 C a).f1]
  else if(rd_T55 C a).f0=39∨(rd_T55 C a).f0=38 then[]else[wrap64 (a+1)]
def mkM (op v:Int):Int:=if op=34 then wrap64 (v+1)else if op=35∨op=36∨op=37 then wrap64 (v- 1)else v
def badM (op v:Int):Prop:=mkM op v<0∨((op=39∨op=38)∧mkM op v>0)
def negs (c:List Int):Nat:=c.countP (fun x=>decide (x<0))
theorem negs_set (c:List Int) (i:Nat) (h:i<c.length) (hx:c[i]<0) (m:Int) (hm:0≤m):negs (c.set i m)+1=negs c:=by
  unfold negs
  have h1:=List.countP_set (p:=fun x:Int=>decide (x<0)) (a:=m) h
  have hp:0<c.countP (fun x=>decide (x<0)):=List.countP_pos_iff.2 ⟨c[i],List.getElem_mem h,by simpa using hx⟩
  rw[h1,if_pos (by simpa using hx),if_neg (by simp;omega)]
  omega
def setZ (c:List Int) (l:List Int):List Int:=l.foldl (fun c a=>c.set a.toNat 0) c
theorem setZ_len (l:List Int):∀c:List Int,(setZ c l).length=c.length:=by
  induction l with
  |nil=>intro c;rfl
  |cons a l ih=>intro c;show(setZ (c.set a.toNat 0) l).length=_;rw[ih,List.length_set]
theorem setZ_ge (l:List Int):∀c:List Int,(∀x,x∈c→ -1≤x)→∀x,x∈setZ c l→ -1≤x:=by
  induction l with
  |nil=>intro c h;exact h
  |cons a l ih=>
    intro c h
    refine ih (c.set a.toNat 0) (fun x hx=>?_)
    rcases List.mem_or_eq_of_mem_set hx with h1|h1
    · exact h x h1
    · rw[h1];decide
section
variable (C:List S55) (E:List S51)
theorem next_ev (a:Int):Ev (fun k=>spec_l13Next.f k (rd_T55 C a).f0 (rd_T55 C a).f1 (rd_T55 C a).f2 a) (nx C a):=by
  have j0:∀b:Bool,(b=true↔(rd_T55 C a).f0=33∨(rd_T55 C a).f0=37)→Ev (fun k=>spec_l13Next.j0 k a (rd_T55 C a).f0 b (rd_T55 C a).f0 (rd_T55 C a).f1 (rd_T55 C a).f2) (nx C a):=by
    intro b hb
    refine ev_shift ?_;simp only[spec_l13Next.j0]
    unfold nx
    by_cases c:(rd_T55 C a).f0=33∨(rd_T55 C a).f0=37
    · rw[if_pos c];exact ev_pos (hb.2 c) (ev_some _)
    · rw [if_neg c]; refine ev_neg (fun h => c (hb.1 h)) ?_
      by_cases c2:(rd_T55 C a).f0=32
      · refine ev_pos c2 ?_;rw[if_pos c2];exact ev_some _
      · refine ev_neg c2 ?_; rw [if_neg c2]
        by_cases c9:(rd_T55 C a).f0=39
        · refine ev_pos c9 ?_;rw[if_pos (Or.inl c9)];exact ev_some _
        · refine ev_neg c9 ?_
          by_cases c8:(rd_T55 C a).f0=38
          · refine ev_pos c8 ?_;rw[if_pos (Or.inr c8)];exact ev_some _
          · refine ev_neg c8 ?_;rw[if_neg (by omega)];exact ev_some _
  simp only[spec_l13Next.f]
  by_cases c:(rd_T55 C a).f0=33
  · exact ev_pos c (j0 _ (by simp[c]))
  · exact ev_neg c (j0 _ (by simp[c]))
theorem succ_ev (a:Int) (h0:0≤a) (h1:a<C.length):Ev (fun k=>impl_PatternCode_successors.f k C E a) (nx C a):=by
  have j0:∀b:Bool,(b=true↔(rd_T55 C a).f0=33∨(rd_T55 C a).f0=37)→Ev (fun k=>impl_PatternCode_successors.j0 k a (rd_T55 C a).f0 b (rd_T55 C a).f0 (rd_T55 C a).f1 (rd_T55 C a).f2) (nx C a):=by
    intro b hb
    refine ev_shift ?_;simp only[impl_PatternCode_successors.j0]
    unfold nx
    by_cases c:(rd_T55 C a).f0=33∨(rd_T55 C a).f0=37
    · rw[if_pos c];exact ev_pos (hb.2 c) (ev_some _)
    · rw [if_neg c]; refine ev_neg (fun h => c (hb.1 h)) ?_
      by_cases c2:(rd_T55 C a).f0=32
      · refine ev_pos c2 ?_;rw[if_pos c2];exact ev_some _
      · refine ev_neg c2 ?_; rw [if_neg c2]
        by_cases c9:(rd_T55 C a).f0=39
        · refine ev_pos c9 ?_;rw[if_pos (Or.inl c9)];exact ev_some _
        · refine ev_neg c9 ?_
          by_cases c8:(rd_T55 C a).f0=38
          · refine ev_pos c8 ?_;rw[if_pos (Or.inr c8)];exact ev_some _
          · refine ev_neg c8 ?_;rw[if_neg (by omega)];exact ev_some _
  simp only[impl_PatternCode_successors.f]
  refine ev_pos h0 (ev_pos h1 ?_)
  by_cases c:(rd_T55 C a).f0=33
  · exact ev_pos c (j0 _ (by simp[c]))
  · exact ev_neg c (j0 _ (by simp[c]))
structure InvM (c todo:List Int):Prop where
  len:c.length=C.length
  ge:∀x,x∈c→ -1≤x
  inr:∀x,x∈todo→0≤x∧x<C.length
theorem last_rd (xs:List Int) (a:Int) (hl:xs.length≤1048576):wrap64 (((xs++[a]).length:Int)- 1)=(xs.length:Int)∧rd (xs++[a]) (xs.length:Int)=a∧(xs++[a]).take (xs.length:Int).toNat=xs:=by
  refine⟨?_,?_,?_⟩
  · rw[List.length_append,List.length_singleton,wrap_id (by omega) (by omega)];omega
  · rw[rd_get _ _ (by simp)];simp
  · rw[Int.toNat_natCast];simp
theorem spec_step (hn : C.length ≤ 1048576) (c xs : List Int) (a : Int) (hc : c.length = C.length) (hl : xs.length ≤ 1048576) (h0 : 0 ≤ a) (h1 : a < C.length) (r : List Int × Bool)
    (hb:badM (rd_T55 C a).f0 (rd c a)→r=([],false))
    (hr:¬badM (rd_T55 C a).f0 (rd c a)→Ev (fun k=>spec_l13Marks.l3 k c xs (mkM (rd_T55 C a).f0 (rd c a)) (nx C a) 0 C E) r):
    Ev (fun k=>spec_l13Marks.l2 k c (xs++[a]) C E) r:=by
  obtain⟨e1,e2,e3⟩:=last_rd xs a hl
  have j5:(¬((rd_T55 C a).f0=39∨(rd_T55 C a).f0=38)∨mkM (rd_T55 C a).f0 (rd c a)≤0)→Ev (fun k=>spec_l13Marks.j5 k c xs a (mkM (rd_T55 C a).f0 (rd c a)) C E (rd_T55 C a).f0 (rd_T55 C a).f1 (rd_T55 C a).f2) r:=by
    intro ho
    refine ev_shift ?_;simp only[spec_l13Marks.j5]
    by_cases q:mkM (rd_T55 C a).f0 (rd c a)<0
    · rw[hb (Or.inl q)];exact ev_pos q (ev_some _)
    · exact ev_neg q (ev_bind (next_ev C a) (hr (fun h=>by unfold badM at h;omega)))
  have j3:∀b:Bool,¬(rd_T55 C a).f0=34→(b=true↔(rd_T55 C a).f0=35∨(rd_T55 C a).f0=36∨(rd_T55 C a).f0=37)→Ev (fun k=>spec_l13Marks.j3 k c xs a (rd c a) (rd_T55 C a).f0 b C E (rd_T55 C a).f0 (rd_T55 C a).f1 (rd_T55 C a).f2) r:=by
    intro b n4 hbb
    refine ev_shift ?_;simp only[spec_l13Marks.j3]
    by_cases q:(rd_T55 C a).f0=35∨(rd_T55 C a).f0=36∨(rd_T55 C a).f0=37
    · have := j5 (Or.inl (by omega))
      rw[show mkM (rd_T55 C a).f0 (rd c a)=wrap64 (rd c a- 1) from by unfold mkM;rw[if_neg n4,if_pos q]]at this
      exact ev_pos (hbb.2 q) this
    · refine ev_neg (fun h => q (hbb.1 h)) ?_
      have hv:mkM (rd_T55 C a).f0 (rd c a)=rd c a:=by unfold mkM;rw[if_neg n4,if_neg q]
      rw[hv]at j5
      have j4:∀b:Bool,(b=true↔(rd_T55 C a).f0=39∨(rd_T55 C a).f0=38)→Ev (fun k=>spec_l13Marks.j4 k c xs a (rd c a) b C E (rd_T55 C a).f0 (rd_T55 C a).f1 (rd_T55 C a).f2) r:=by
        intro b hb4
        refine ev_shift ?_;simp only[spec_l13Marks.j4]
        by_cases q4:(rd_T55 C a).f0=39∨(rd_T55 C a).f0=38
        · refine ev_pos (hb4.2 q4) ?_
          by_cases z:rd c a=0
          · exact ev_pos z (j5 (Or.inr (by omega)))
          · rw[hb (by unfold badM;rw[hv];omega)];exact ev_neg z (ev_some _)
        · exact ev_neg (fun h=>q4 (hb4.1 h)) (j5 (Or.inl q4))
      by_cases q9:(rd_T55 C a).f0=39
      · exact ev_pos q9 (j4 _ (by simp[q9]))
      · exact ev_neg q9 (j4 _ (by simp[q9]))
  refine ev_shift ?_;simp only[spec_l13Marks.l2]
  rw[e1,e2,e3]
  refine ev_pos (by rw[List.length_append,List.length_singleton];omega) (ev_pos (by omega) (ev_pos (by rw[List.length_append,List.length_singleton];omega) (ev_pos (by rw[List.length_append,List.length_singleton];omega) (ev_bindc rfl (ev_pos h0 (ev_pos h1 (ev_pos (by omega) ?_)))))))
  by_cases q4:(rd_T55 C a).f0=34
  · have := j5 (Or.inl (by omega))
    rw[show mkM (rd_T55 C a).f0 (rd c a)=wrap64 (rd c a+1) from if_pos q4]at this
    exact ev_pos q4 this
  refine ev_neg q4 ?_
  by_cases q5:(rd_T55 C a).f0=35
  · exact ev_pos q5 (j3 _ q4 (by simp[q5]))
  refine ev_neg q5 ?_
  by_cases q6:(rd_T55 C a).f0=36
  · exact ev_pos q6 (j3 _ q4 (by simp[q6]))
  · exact ev_neg q6 (j3 _ q4 (by simp[q5,q6]))
theorem impl_step (hn : C.length ≤ 1048576) (c xs : List Int) (a : Int) (hc : c.length = C.length) (hl : xs.length ≤ 1048576) (h0 : 0 ≤ a) (h1 : a < C.length) (r : List Int × Bool)
    (hb:badM (rd_T55 C a).f0 (rd c a)→r=([],false))
    (hr:¬badM (rd_T55 C a).f0 (rd c a)→Ev (fun k=>impl_PatternCode_marks.l2 k c xs (mkM (rd_T55 C a).f0 (rd c a)) (nx C a) ((nx C a).length:Int) 0 C E) r):
    Ev (fun k=>impl_PatternCode_marks.l1 k c (xs++[a]) C E) r:=by
  obtain⟨e1,e2,e3⟩:=last_rd xs a hl
  have j4t:badM (rd_T55 C a).f0 (rd c a)→Ev (fun k=>impl_PatternCode_marks.j4 k c xs a (mkM (rd_T55 C a).f0 (rd c a)) true C E) r:=by
    intro h
    refine ev_shift ?_;simp only[impl_PatternCode_marks.j4];rw[hb h];exact ev_pos trivial (ev_some _)
  have j4f:¬badM (rd_T55 C a).f0 (rd c a)→Ev (fun k=>impl_PatternCode_marks.j4 k c xs a (mkM (rd_T55 C a).f0 (rd c a)) false C E) r:=by
    intro h
    refine ev_shift ?_;simp only[impl_PatternCode_marks.j4];exact ev_neg (by decide) (ev_bind (succ_ev C E a h0 h1) (hr h))
  have j3:Ev (fun k=>impl_PatternCode_marks.j3 k c xs a (mkM (rd_T55 C a).f0 (rd c a)) C E) r:=by
    refine ev_shift ?_;simp only[impl_PatternCode_marks.j3]
    by_cases q:mkM (rd_T55 C a).f0 (rd c a)<0
    · exact ev_pos q (j4t (Or.inl q))
    · refine ev_neg q (ev_pos h0 (ev_pos h1 (ev_bindc (isLast_eq _) ?_)))
      by_cases q4:(rd_T55 C a).f0=39∨(rd_T55 C a).f0=38
      · refine ev_pos (by simpa using q4) ?_
        by_cases q5:mkM (rd_T55 C a).f0 (rd c a)>0
        · rw[decide_eq_true q5];exact j4t (Or.inr ⟨q4,q5⟩)
        · rw[decide_eq_false q5];exact j4f (fun h=>by unfold badM at h;omega)
      · exact ev_neg (by simpa using q4) (j4f (fun h=>by unfold badM at h;omega))
  refine ev_shift ?_;simp only[impl_PatternCode_marks.l1]
  rw[e1,e2,e3]
  refine ev_pos (by rw[List.length_append,List.length_singleton];omega) (ev_pos (by omega) (ev_pos (by rw[List.length_append,List.length_singleton];omega) (ev_pos (by rw[List.length_append,List.length_singleton];omega) (ev_bindc rfl (ev_pos h0 (ev_pos (by omega) (ev_pos h1 ?_)))))))
  by_cases q4:(rd_T55 C a).f0=34
  · rw [show mkM (rd_T55 C a).f0 (rd c a) = wrap64 (rd c a + 1) from if_pos q4] at j3
    exact ev_pos q4 j3
  refine ev_neg q4 (ev_bindc (isCapture_eq _) ?_)
  have j2:∀b:Bool,(b=true↔(rd_T55 C a).f0=35∨(rd_T55 C a).f0=36∨(rd_T55 C a).f0=37)→Ev (fun k=>impl_PatternCode_marks.j2 k c xs a (rd c a) b C E) r:=by
    intro b hbb
    refine ev_shift ?_;simp only[impl_PatternCode_marks.j2]
    by_cases q:(rd_T55 C a).f0=35∨(rd_T55 C a).f0=36∨(rd_T55 C a).f0=37
    · rw [show mkM (rd_T55 C a).f0 (rd c a) = wrap64 (rd c a - 1) from by unfold mkM; rw [if_neg q4, if_pos q]] at j3
      exact ev_pos (hbb.2 q) j3
    · rw [show mkM (rd_T55 C a).f0 (rd c a) = rd c a from by unfold mkM; rw [if_neg q4, if_neg q]] at j3
      exact ev_neg (fun h=>q (hbb.1 h)) j3
  by_cases q5:(rd_T55 C a).f0=35∨(rd_T55 C a).f0=36
  · exact ev_pos (by simpa using q5) (j2 _ (by simp;omega))
  · exact ev_neg (by simpa using q5) (j2 _ (by simp;omega))
theorem lock_inner (hn : C.length ≤ 13000) (D : Nat) (hD : D ≤ 100000) (m : Int) (hm : 0 ≤ m) (ts : List Int) (hts : ts.length ≤ 2) (hin : ∀ t, t ∈ ts → 0 ≤ t ∧ t < C.length)
    (IH:∀c todo:List Int,InvM C c todo→negs c+todo.length≤D→∃r,Ev (fun k=>spec_l13Marks.l2 k c todo C E) r∧Ev (fun k=>impl_PatternCode_marks.l1 k c todo C E) r):
    ∀d i:Nat,i+d=ts.length→∀c xs:List Int,InvM C c xs→negs c+xs.length≤D→∃r,Ev (fun k=>spec_l13Marks.l3 k c xs m ts (i:Int) C E) r∧Ev (fun k=>impl_PatternCode_marks.l2 k c xs m ts (ts.length:Int) (i:Int) C E) r:=by
  intro d
  induction d with
  |zero=>
    intro i hi c xs hv hd
    obtain⟨r,h1,h2⟩:=IH c xs hv hd
    refine⟨r,ev_shift ?_,ev_shift ?_⟩
    · simp only[spec_l13Marks.l3];exact ev_neg (by omega) h1
    · simp only[impl_PatternCode_marks.l2];exact ev_neg (by omega) h2
  |succ d ih=>
    intro i hi c xs hv hd
    have hlt:i<ts.length:=by omega
    have ht:=hin ts[i] (List.getElem_mem hlt)
    obtain⟨t,e⟩:∃t:Nat,ts[i]=(t:Int):=⟨ts[i].toNat,by omega⟩
    have htc:t<c.length:=by rw[hv.len];omega
    have hrd:rd ts (i:Int)=(t:Int):=by rw[rd_get ts i hlt];exact e
    have hw:wrap64 ((i:Int)+1)=((i+1:Nat):Int):=by rw[wrap_up (by omega) (show(i:Int)<(ts.length:Int) by omega) (by omega)];omega
    have hcr:rd c (t:Int)=c[t]:=rd_get c t htc
    have hge:=hv.ge c[t] (List.getElem_mem htc)
    have hlen:=hv.len
    have hA:(i:Int)<(ts.length:Int):=Int.ofNat_lt.2 hlt
    have hB:0≤(i:Int):=Int.natCast_nonneg i
    have hC:0≤(t:Int):=Int.natCast_nonneg t
    have hE:(t:Int)<(c.length:Int):=Int.ofNat_lt.2 htc
    have hF:xs.length<17592186044416:=Nat.lt_of_le_of_lt (Nat.le_trans (Nat.le_add_left _ _) hd) (Nat.lt_of_le_of_lt hD (by decide))
    by_cases q:c[t]<0
    · obtain⟨r,h1,h2⟩:=ih (i+1) (by omega) (c.set t m) (xs++[(t:Int)]) ⟨by rw[List.length_set];exact hv.len,fun x hx=>by
        rcases List.mem_or_eq_of_mem_set hx with h|h
        · exact hv.ge x h
        · omega,fun x hx=>by
        rcases List.mem_append.1 hx with h|h
        · exact hv.inr x h
        · rw[List.mem_singleton.1 h, ←e];exact ht⟩ (by have:=negs_set c t htc q m hm;rw[List.length_append,List.length_singleton];omega)
      refine⟨r,ev_shift ?_,ev_shift ?_⟩
      · simp only [spec_l13Marks.l3]
        rw[hrd,hw,hcr,Int.toNat_natCast]
        exact ev_pos hA (ev_pos hB (ev_pos hC (ev_pos hE (ev_pos (Int.le_antisymm (Int.lt_add_one_iff.1 q) hge) (ev_pos hF h1)))))
      · simp only [impl_PatternCode_marks.l2]
        rw[hrd,hw,hcr,Int.toNat_natCast]
        exact ev_pos hA (ev_pos hB (ev_pos hA (ev_pos hC (ev_pos hE (ev_pos q (ev_pos hF h2))))))
    · have hN : ¬ c[t] = -1 := fun h => q (by rw [h]; decide)
      by_cases q2:c[t]=m
      · obtain ⟨r, h1, h2⟩ := ih (i + 1) (by omega) c xs hv hd
        refine⟨r,ev_shift ?_,ev_shift ?_⟩
        · simp only [spec_l13Marks.l3]
          rw[hrd,hw,hcr]
          exact ev_pos hA (ev_pos hB (ev_pos hC (ev_pos hE (ev_neg hN (ev_pos q2 h1)))))
        · simp only [impl_PatternCode_marks.l2]
          rw[hrd,hw,hcr]
          exact ev_pos hA (ev_pos hB (ev_pos hA (ev_pos hC (ev_pos hE (ev_neg q (ev_pos q2 h2))))))
      · refine ⟨([], false), ev_shift ?_, ev_shift ?_⟩
        · simp only [spec_l13Marks.l3]
          rw[hrd,hw,hcr]
          exact ev_pos hA (ev_pos hB (ev_pos hC (ev_pos hE (ev_neg hN (ev_neg q2 (ev_some _))))))
        · simp only [impl_PatternCode_marks.l2]
          rw[hrd,hw,hcr]
          exact ev_pos hA (ev_pos hB (ev_pos hA (ev_pos hC (ev_pos hE (ev_neg q (ev_neg q2 (ev_some _)))))))
theorem nx_len (a:Int):(nx C a).length≤2:=by
  unfold nx;split
  · simp
  · split
    · simp
    · split<;>simp
theorem lock (hn:C.length≤13000) (hnx:∀a:Int,0≤a→a<C.length→∀t,t∈nx C a→0≤t∧t<C.length):∀D:Nat,D≤100000→∀c todo:List Int,InvM C c todo→negs c+todo.length≤D→
    ∃r,Ev (fun k=>spec_l13Marks.l2 k c todo C E) r∧Ev (fun k=>impl_PatternCode_marks.l1 k c todo C E) r:=by
  have stop:∀c:List Int,∃r,Ev (fun k=>spec_l13Marks.l2 k c [] C E) r∧Ev (fun k=>impl_PatternCode_marks.l1 k c [] C E) r:=by
    intro c
    refine⟨(c,true),ev_shift ?_,ev_shift ?_⟩
    · simp only[spec_l13Marks.l2];exact ev_neg (by simp) (ev_some _)
    · simp only[impl_PatternCode_marks.l1];exact ev_neg (by simp) (ev_some _)
  intro D
  induction D with
  |zero=>
    intro _ c todo hv hd
    have:todo=[]:=List.eq_nil_of_length_eq_zero (by omega)
    subst this;exact stop c
  |succ D ih=>
    intro hD c todo hv hd
    rcases List.eq_nil_or_concat todo with h|⟨xs,a,h⟩
    · subst h;exact stop c
    · rw [List.concat_eq_append] at h
      subst h
      rw[List.length_append,List.length_singleton]at hd
      have ha:=hv.inr a (by simp)
      by_cases q:badM (rd_T55 C a).f0 (rd c a)
      · exact⟨([],false),spec_step C E (by omega) c xs a hv.len (by omega) ha.1 ha.2 _ (fun _=>rfl) (fun h=>absurd q h),impl_step C E (by omega) c xs a hv.len (by omega) ha.1 ha.2 _ (fun _=>rfl) (fun h=>absurd q h)⟩
      · obtain ⟨r, h1, h2⟩ := lock_inner C E hn D (by omega) (mkM (rd_T55 C a).f0 (rd c a)) (by unfold badM at q; omega) (nx C a) (nx_len C a) (hnx a ha.1 ha.2) (fun c todo hv hd => ih (by omega) c todo hv hd) (nx C a).length 0 (by omega) c xs ⟨hv.len, hv.ge, fun x hx => hv.inr x (by simp [hx])⟩ (by omega)
        exact⟨r,spec_step C E (by omega) c xs a hv.len (by omega) ha.1 ha.2 _ (fun h=>absurd h q) (fun _=>h1),impl_step C E (by omega) c xs a hv.len (by omega) ha.1 ha.2 _ (fun h=>absurd h q) (fun _=>h2)⟩
end
section
variable (C:List S55) (E:List S51)
def ats:List Int:=E.map (·.f1)
theorem spec_fill (hn:C.length≤13000) (r:List Int×Bool) (hr:Ev (fun k=>spec_l13Marks.l1 k ((List.replicate C.length (-1)).set 0 0) [0] 0 C E) r) (hn1:1≤C.length):Ev (fun k=>spec_l13Marks.f k C E) r:=by
  simp only[spec_l13Marks.f]
  suffices h:∀d i:Nat,i+d=C.length→Ev (fun k=>spec_l13Marks.l0 k (List.replicate i (-1)) (i:Int) C E) r by
    simpa using h C.length 0 (by omega)
  intro d
  induction d with
  |zero=>
    intro i hi
    have e:i=C.length:=by omega
    refine ev_shift ?_;simp only[spec_l13Marks.l0]
    rw[e]
    exact ev_neg (by omega) (ev_pos (by rw[List.length_replicate];omega) hr)
  |succ d ih=>
    intro i hi
    refine ev_shift ?_;simp only[spec_l13Marks.l0]
    rw[wrap_up (by omega) (show(i:Int)<(C.length:Int) by omega) (by omega), ←List.replicate_succ',List.length_replicate]
    exact ev_pos (by omega) (ev_pos (by omega) (by simpa using ih (i+1) (by omega)))
theorem spec_starts (hm:E.length≤40) (he:∀e,e∈E→1≤e.f1∧e.f1<C.length) (r:List Int×Bool):∀d i:Nat,i+d=E.length→∀c todo:List Int,c.length=C.length→todo.length+d≤100→
    Ev (fun k=>spec_l13Marks.l2 k (setZ c ((ats E).drop i)) (todo++(ats E).drop i) C E) r→Ev (fun k=>spec_l13Marks.l1 k c todo (i:Int) C E) r:=by
  intro d
  induction d with
  |zero=>
    intro i hi c todo hc ht hr
    refine ev_shift ?_;simp only[spec_l13Marks.l1]
    rw[List.drop_of_length_le (by simp[ats];omega),List.append_nil]at hr
    exact ev_neg (by omega) hr
  |succ d ih=>
    intro i hi c todo hc ht hr
    have hlt:i<E.length:=by omega
    have hx:=he E[i] (List.getElem_mem hlt)
    refine ev_shift ?_;simp only[spec_l13Marks.l1]
    rw[rd51 E i hlt,wrap_up (by omega) (show(i:Int)<(E.length:Int) by omega) (by omega)]
    refine ev_pos (by omega) (ev_pos (by omega) (ev_pos (by omega) (ev_pos (by omega) (ev_pos (by omega) ?_))))
    have hla:i<(ats E).length:=by simp[ats];omega
    have ee:(ats E)[i]=E[i].f1:=by simp[ats]
    rw[List.drop_eq_getElem_cons hla,ee]at hr
    have:=ih (i+1) (by omega) (c.set E[i].f1.toNat 0) (todo++[E[i].f1]) (by rw[List.length_set];exact hc) (by rw[List.length_append,List.length_singleton];omega) (by rw[List.append_assoc];exact hr)
    rw[show(((i+1:Nat):Int))=(i:Int)+1 from by omega]at this
    exact this
theorem impl_starts (l x6:List Int) (hl:l.length≤100) (hin:∀x,x∈l→0≤x∧x<C.length) (r:List Int×Bool):∀d i:Nat,i+d=l.length→∀c:List Int,c.length=C.length→
    Ev (fun k=>impl_PatternCode_marks.l1 k (setZ c (l.drop i)) x6 C E) r→Ev (fun k=>impl_PatternCode_marks.l0 k c x6 l (l.length:Int) (i:Int) C E) r:=by
  intro d
  induction d with
  |zero=>
    intro i hi c hc hr
    refine ev_shift ?_;simp only[impl_PatternCode_marks.l0]
    rw[List.drop_of_length_le (by omega)]at hr
    exact ev_neg (by omega) hr
  |succ d ih=>
    intro i hi c hc hr
    have hlt:i<l.length:=by omega
    have hx:=hin l[i] (List.getElem_mem hlt)
    refine ev_shift ?_;simp only[impl_PatternCode_marks.l0]
    rw[rd_get l i hlt,wrap_up (by omega) (show(i:Int)<(l.length:Int) by omega) (by omega)]
    refine ev_pos (by omega) (ev_pos (by omega) (ev_pos (by omega) (ev_pos (by omega) (ev_pos (by omega) ?_))))
    rw[List.drop_eq_getElem_cons hlt]at hr
    have:=ih (i+1) (by omega) (c.set l[i].toNat 0) (by rw[List.length_set];exact hc) hr
    rw[show(((i+1:Nat):Int))=(i:Int)+1 from by omega]at this
    exact this
theorem nx_in (hn:C.length≤13000) (he:∀e,e∈E→1≤e.f1∧e.f1<C.length) (hok:allN C.length (okR C E)=true) (a:Int) (h0:0≤a) (h1:a<C.length) (t:Int) (ht:t∈nx C a):0≤t∧t<C.length:=by
  obtain⟨i,rfl⟩:∃i:Nat,a=(i:Int):=⟨a.toNat,by omega⟩
  have hi:=(allN_iff _ _).1 hok i (by omega)
  have hlow:=regFrom_low C.length (i:Int) E 0 (by omega) (fun e h=>(he e h).1)
  obtain⟨hh1,hh2⟩:=regFrom_high C.length (i:Int) (by omega) E 0 (fun e h=>by have:=(he e h).2;omega)
  unfold okR okI at hi
  unfold nx at ht
  by_cases c9:(rd_T55 C (i:Int)).f0=39∨(rd_T55 C (i:Int)).f0=38
  · rw[if_neg (by omega),if_neg (by omega),if_pos c9]at ht;cases ht
  · rw [if_neg c9] at hi
    by_cases ch:(i:Int)=(regFrom C.length 0 E (i:Int)).2
    · rw[if_pos ch]at hi;cases hi
    · rw [if_neg ch] at hi
      have hw:wrap64 ((i:Int)+1)=(i:Int)+1:=wrap_id (by omega) (by omega)
      by_cases c7:(rd_T55 C (i:Int)).f0=37
      · rw [if_pos c7, Bool.and_eq_true, Bool.and_eq_true] at hi
        have q1:=of_decide_eq_true hi.1
        have q2:=of_decide_eq_true hi.2.1
        rw[if_pos (Or.inr c7)]at ht
        rw[List.mem_singleton.1 ht];omega
      · rw [if_neg c7] at hi
        by_cases c2:(rd_T55 C (i:Int)).f0=32∨(rd_T55 C (i:Int)).f0=33
        · rw [if_pos c2, Bool.and_eq_true] at hi
          have q1:=of_decide_eq_true hi.1
          have q2:=of_decide_eq_true hi.2
          rcases c2 with c2|c2
          · rw [if_neg (by omega), if_pos c2, hw] at ht
            rcases List.mem_cons.1 ht with h|h
            · omega
            · rw[List.mem_singleton.1 h];omega
          · rw [if_pos (Or.inl c2)] at ht
            rw[List.mem_singleton.1 ht];omega
        · rw [if_neg (by omega), if_neg (by omega), if_neg c9, hw] at ht
          rw[List.mem_singleton.1 ht];omega
theorem marks_same (hn:C.length≤13000) (hn1:1≤C.length) (hm:E.length≤40) (he:∀e,e∈E→1≤e.f1∧e.f1<C.length) (hok:allN C.length (okR C E)=true):
    ∃r,Ev (fun k=>spec_l13Marks.f k C E) r∧Ev (fun k=>impl_PatternCode_marks.f k C E) r:=by
  have hla:(ats E).length=E.length:=by simp[ats]
  have hin:∀x,x∈(0:Int)::ats E→0≤x∧x<C.length:=by
    intro x hx
    rcases List.mem_cons.1 hx with h|h
    · rw[h];omega
    · obtain ⟨e, h1, h2⟩ := List.mem_map.1 h
      have:=he e h1
      omega
  have hv:InvM C (setZ (List.replicate C.length (-1)) (0::ats E)) (0::ats E):=⟨by rw[setZ_len,List.length_replicate],setZ_ge _ _ (fun x hx=>by rw[(List.mem_replicate.1 hx).2];decide),hin⟩
  obtain⟨r,h1,h2⟩:=lock C E hn (nx_in C E hn he hok) 20000 (by omega) _ _ hv (by
    have h3:negs (setZ (List.replicate C.length (-1)) (0::ats E))≤C.length:=by
      have:=List.countP_le_length (p:=fun x:Int=>decide (x<0)) (l:=setZ (List.replicate C.length (-1)) (0::ats E))
      rw[setZ_len,List.length_replicate]at this
      exact this
    rw[List.length_cons,hla];omega)
  refine⟨r,?_,?_⟩
  · refine spec_fill C E hn r ?_ hn1
    exact spec_starts C E hm he r E.length 0 (by omega) _ [0] (by rw[List.length_set,List.length_replicate]) (by simp;omega) h1
  · simp only [impl_PatternCode_marks.f, slices_Repeat_int64_int64.f, slices_Clone_int64_int64.f]
    refine ev_bindc (if_pos ⟨rfl,by omega,by omega⟩) (ev_bind (regions_ev C E (by omega) (by omega)) ?_)
    have hrl:=regs_len C E
    have hw:wrap64 (((regs C E).length:Int)- 1)=(E.length:Int)+1:=by rw[hrl,wrap_id (by omega) (by omega)];omega
    rw[hw]
    have htk:(regs C E).take ((E.length:Int)+1).toNat=0::ats E:=by
      rw[show((E.length:Int)+1).toNat=E.length+1 from by omega]
      simp only[regs,List.take_succ_cons]
      rw[List.take_left' (by simp)];rfl
    rw[htk]
    refine ev_pos (by omega) (ev_pos (by omega) (ev_bindc (if_pos (by rw[List.length_cons,hla];omega)) ?_))
    rw[Int.toNat_natCast]
    exact impl_starts C E (0::ats E) (0::ats E) (by rw[List.length_cons,hla];omega) hin r (0::ats E).length 0 (by omega) _ (by simp) h2
end
section
variable (C:List S55) (E:List S51)
def shapeB:Bool:=(decide (1≤C.length)&&decide (C.length≤13000))&&(decide (E.length≤40)&&(allN E.length (entI E C.length)&&allN C.length (okAt C E)))
theorem ents_in (hg:∀i,i<E.length→entI E C.length i=true):∀e,e∈E→1≤e.f1∧e.f1<C.length:=by
  intro e h
  obtain⟨i,hi,rfl⟩:=List.getElem_of_mem h
  have h1:=(entI_iff E C.length i).1 (hg i hi)
  have h2:=lastE_mono E C.length hg 0 (i+1) (by omega)
  have h3:=lastE_mono E C.length hg 0 i (by omega)
  rw[Nat.zero_add]at h3
  have hz:lastE E 0=0:=rfl
  rw[rd51 E i hi]at h1
  omega
theorem spec_shape_ev (hn:C.length≤1048576) (hm:E.length≤1048576):Ev (fun k=>spec_l13Shape.f k C E) (shapeB C E):=by
  have bad:Ev (fun k=>spec_l13Shape.j0 k (C.length:Int) true C E) false:=by
    refine ev_shift ?_;simp only[spec_l13Shape.j0];exact ev_pos trivial (ev_some _)
  simp only[spec_l13Shape.f]
  refine ev_bindc (spec_l00In_eq _ _ _) ?_
  unfold shapeB
  by_cases c1:1≤C.length
  · by_cases c2 : C.length ≤ 13000
    · refine ev_pos (by simp; omega) ?_
      rw[decide_eq_true c1,decide_eq_true c2,Bool.true_and,Bool.true_and]
      by_cases c3:E.length≤40
      · rw [decide_eq_true c3, Bool.true_and, decide_eq_false (show ¬ (E.length : Int) > 40 from by omega), ← ents_same]
        refine ev_shift ?_;simp only[spec_l13Shape.j0]
        refine ev_neg (by decide) (shape_l0 C E hm C.length c1 hn _ (fun h=>?_))
        have hg:=(allN_iff _ _).1 ((ents_same E C.length E.length).symm.trans ((allN_iff _ _).2 h))
        exact l2_ev C E hn hm (ents_in C E hg) C.length 0 (by omega) 0 (-1) (Or.inl (by decide))
      · rw[decide_eq_false c3,Bool.false_and,decide_eq_true (show(E.length:Int)>40 from by omega)];exact bad
    · rw [decide_eq_false c2, Bool.and_false, Bool.false_and]
      exact ev_neg (by simp;omega) bad
  · rw [decide_eq_false c1, Bool.false_and, Bool.false_and]
    exact ev_neg (by simp;omega) bad
theorem validAll_ev (hn:C.length≤1048576):Ev (fun k=>impl_PatternIns__impl_ValidIns.f k C) (allN C.length (validAt C)):=by
  simp only[impl_PatternIns__impl_ValidIns.f]
  refine idx_all (g:=fun k i=>impl_PatternIns__impl_ValidIns.l0 k C (C.length:Int) i) C.length (validAt C) ?_ ?_ ?_
  · refine ev_shift ?_;simp only[impl_PatternIns__impl_ValidIns.l0];exact ev_neg (by omega) (ev_some _)
  · intro i hi hp r hr
    refine ev_shift ?_;simp only[impl_PatternIns__impl_ValidIns.l0]
    rw[wrap_up (by omega) (show(i:Int)<(C.length:Int) by omega) (by omega)]
    exact ev_pos (by omega) (ev_pos (by omega) (ev_pos (by omega) (ev_bind (impl_ValidIns_ev _ _ _) (ev_pos hp hr))))
  · intro i hi hp
    refine ev_shift ?_;simp only[impl_PatternIns__impl_ValidIns.l0]
    exact ev_pos (by omega) (ev_pos (by omega) (ev_pos (by omega) (ev_bind (impl_ValidIns_ev _ _ _) (ev_neg (fun h=>by unfold validAt at hp;rw[hp]at h;cases h) (ev_some _)))))
theorem ok_split:allN C.length (okAt C E)=(allN C.length (validAt C)&&allN C.length (okR C E)):=allN_and C.length (validAt C) (okR C E)
theorem valid_same (hn:C.length≤1048576) (hm:E.length≤1048576):∃b,Ev (fun k=>spec_ValidPatternCode.f k C E) b∧Ev (fun k=>impl_ValidPatternCode.f k C E) b∧(b=true→∀e,e∈E→1≤e.f1∧e.f1<C.length):=by
  simp only[spec_ValidPatternCode.f,impl_ValidPatternCode.f]
  have bad:Ev (fun k=>impl_PatternCode_checked.j0 k true C E) ([],false):=by
    refine ev_shift ?_;simp only[impl_PatternCode_checked.j0];exact ev_pos trivial (ev_some _)
  cases hs:shapeB C E with
  |true=>
    unfold shapeB at hs
    rw[Bool.and_eq_true,Bool.and_eq_true,Bool.and_eq_true,Bool.and_eq_true,ok_split,Bool.and_eq_true]at hs
    obtain⟨⟨c1,c2⟩,c3,c4,c5,c6⟩:=hs
    have d1:=of_decide_eq_true c1
    have d2:=of_decide_eq_true c2
    have d3:=of_decide_eq_true c3
    have hg:=(allN_iff _ _).1 c4
    have he:=ents_in C E hg
    obtain⟨r,h1,h2⟩:=marks_same C E d2 d1 d3 he c6
    refine⟨r.2,ev_bind (spec_shape_ev C E hn hm) ?_,?_,fun _=>he⟩
    · refine ev_pos ?_ (ev_bind h1 (ev_some _))
      unfold shapeB;rw[c1,c2,c3,c4,ok_split,c5,c6];rfl
    · refine ev_bind (a := r) ?_ (ev_some _)
      simp only[impl_PatternCode_checked.f]
      refine ev_neg (by omega) (ev_neg (by omega) (ev_bind (validAll_ev C hn) (ev_pos c5 (ev_bind (goodEntries_ev C E hn hm) ?_))))
      rw[c4,c3]
      refine ev_shift ?_;simp only[impl_PatternCode_checked.j0]
      refine ev_neg (by decide) (ev_bind (regions_ev C E hn hm) (ev_pos (by rw[regs_len];omega) (ev_bindc rfl ?_)))
      have:=checked_l0_ev C E hn d1 hm hg r (fun _=>h2)
      rw[if_pos c6]at this
      exact this
  |false=>
    refine⟨false,ev_bind (spec_shape_ev C E hn hm) (ev_neg (by rw[hs];decide) (ev_some _)),?_,fun h=>by cases h⟩
    refine ev_bind (a:=(([]:List Int),false)) ?_ (ev_some _)
    simp only[impl_PatternCode_checked.f]
    by_cases c1:1≤C.length
    · by_cases c2 : C.length ≤ 13000
      · refine ev_neg (by omega) (ev_neg (by omega) (ev_bind (validAll_ev C hn) ?_))
        cases c5:allN C.length (validAt C)with
        |false=>exact ev_neg (by decide) bad
        |true=>
          refine ev_pos rfl (ev_bind (goodEntries_ev C E hn hm) ?_)
          cases c4:(allN E.length (entI E C.length)&&decide (E.length≤40))with
          |false=>exact bad
          |true=>
            rw[Bool.and_eq_true]at c4
            have hg:=(allN_iff _ _).1 c4.1
            have c6:allN C.length (okR C E)=false:=by
              unfold shapeB at hs
              rw[decide_eq_true c1,decide_eq_true c2,c4.1,c4.2,ok_split,c5]at hs
              simpa using hs
            refine ev_shift ?_;simp only[impl_PatternCode_checked.j0]
            refine ev_neg (by decide) (ev_bind (regions_ev C E hn hm) (ev_pos (by rw[regs_len];omega) (ev_bindc rfl ?_)))
            have:=checked_l0_ev C E hn c1 hm hg ([],false) (fun h=>by rw[c6]at h;cases h)
            rw[if_neg (by rw[c6];decide)]at this
            exact this
      · exact ev_neg (by omega) (ev_pos (by omega) bad)
    · exact ev_pos (by omega) bad
theorem entry_spec (hm:E.length≤1048576) (s:ByteArray):∃v,Ev (fun k=>spec_l13Entry.f k C E s) v∧Ev (fun k=>impl_PatternCode_entry.f k C E s) (if ∃e,e∈E∧e.f0.toList=s.toList then(v,true)else(0,false))∧
    ((∃e,e∈E∧e.f0.toList=s.toList∧v=e.f1)∨((¬ ∃e,e∈E∧e.f0.toList=s.toList)∧v= -1)):=by
  simp only[spec_l13Entry.f,impl_PatternCode_entry.f]
  suffices h:∀d i:Nat,i+d=E.length→∃v,Ev (fun k=>spec_l13Entry.l0 k s (i:Int) C E) v∧Ev (fun k=>impl_PatternCode_entry.l0 k s E (E.length:Int) (i:Int)) (if ∃e,e∈E.drop i∧e.f0.toList=s.toList then(v,true)else(0,false))∧
    ((∃e,e∈E.drop i∧e.f0.toList=s.toList∧v=e.f1)∨((¬ ∃e,e∈E.drop i∧e.f0.toList=s.toList)∧v= -1)) by
    simpa using h E.length 0 (by omega)
  intro d
  induction d with
  |zero=>
    intro i hi
    have hd:E.drop i=[]:=List.drop_of_length_le (by omega)
    rw[hd]
    refine⟨-1,ev_shift ?_,ev_shift ?_,Or.inr ⟨by simp,rfl⟩⟩
    · simp only[spec_l13Entry.l0];exact ev_neg (by omega) (ev_some _)
    · simp only[impl_PatternCode_entry.l0];rw[if_neg (show ¬ ∃e,e∈([]:List S51)∧e.f0.toList=s.toList from by simp)];exact ev_neg (by omega) (ev_some _)
  |succ d ih=>
    intro i hi
    have hlt:i<E.length:=by omega
    have hw:wrap64 ((i:Int)+1)=((i+1:Nat):Int):=by rw[wrap_up (by omega) (show(i:Int)<(E.length:Int) by omega) (by omega)];omega
    rw[List.drop_eq_getElem_cons hlt]
    by_cases c:(E[i].f0).toList=s.toList
    · refine ⟨E[i].f1, ev_shift ?_, ev_shift ?_, Or.inl ⟨E[i], List.mem_cons_self .., c, rfl⟩⟩
      · simp only [spec_l13Entry.l0]
        rw[rd51 E i hlt]
        exact ev_pos (by omega) (ev_pos (by omega) (ev_pos c (ev_some _)))
      · rw [if_pos ⟨E[i], List.mem_cons_self .., c⟩]
        simp only[impl_PatternCode_entry.l0]
        rw[rd51 E i hlt]
        exact ev_pos (by omega) (ev_pos (by omega) (ev_pos (by omega) (ev_pos c (ev_some _))))
    · obtain ⟨v, h1, h2, h3⟩ := ih (i + 1) (by omega)
      have hex:(∃e,e∈E[i]::E.drop (i+1)∧e.f0.toList=s.toList)↔(∃e,e∈E.drop (i+1)∧e.f0.toList=s.toList):=by
        constructor
        · rintro ⟨e, h, k⟩
          rcases List.mem_cons.1 h with h|h
          · exact absurd (h▸k) c
          · exact⟨e,h,k⟩
        · rintro⟨e,h,k⟩;exact⟨e,List.mem_cons_of_mem _ h,k⟩
      refine⟨v,ev_shift ?_,ev_shift ?_,?_⟩
      · simp only [spec_l13Entry.l0]
        rw[rd51 E i hlt,hw]
        exact ev_pos (by omega) (ev_pos (by omega) (ev_neg c h1))
      · simp only [hex]
        simp only[impl_PatternCode_entry.l0]
        rw[rd51 E i hlt,hw]
        exact ev_pos (by omega) (ev_pos (by omega) (ev_pos (by omega) (ev_neg c h2)))
      · rcases h3 with ⟨e, a, b, f⟩ | ⟨a, b⟩
        · exact Or.inl ⟨e,List.mem_cons_of_mem _ a,b,f⟩
        · exact Or.inr ⟨fun h=>a (hex.1 h),b⟩
end
theorem core:laws_FnExactEntryOf.Core:=by
  intro C E s g0 g1 g2
  obtain⟨b,hb1,hb2,hb3⟩:=valid_same C E g0.len g1.len
  obtain⟨v,h1,h2,h3⟩:=entry_spec C E g1.len s
  refine⟨if b=true∧(∃e,e∈E∧e.f0.toList=s.toList)then(v,true)else(0,false),?_,?_,?_⟩
  · simp only [spec_EntryOf.f]
    refine ev_bind h1 ?_
    cases b with
    |true=>
      rcases h3 with⟨e,a,c,d⟩|⟨a,d⟩
      · have := hb3 rfl e a
        rw[if_pos ⟨rfl,e,a,c⟩]
        exact ev_neg (by omega) (ev_bind hb1 (ev_pos rfl (ev_some _)))
      · rw [if_neg (fun h => a h.2)]
        exact ev_pos (by omega) (ev_some _)
    |false=>
      rw[if_neg (fun h=>by cases h.1)]
      by_cases q:v<0
      · exact ev_pos q (ev_some _)
      · exact ev_neg q (ev_bind hb1 (ev_neg (by decide) (ev_some _)))
  · simp only [impl_EntryOf.f]
    refine ev_bind hb2 ?_
    cases b with
    |true=>
      refine ev_pos rfl (ev_bind h2 ?_)
      by_cases q:∃e,e∈E∧e.f0.toList=s.toList
      · rw[if_pos q,if_pos ⟨rfl,q⟩];exact ev_some _
      · rw[if_neg q,if_neg (fun h=>q h.2)];exact ev_some _
    |false=>
      rw[if_neg (fun h=>by cases h.1)]
      exact ev_neg (by decide) (ev_some _)
  · split
    · refine ⟨?_, trivial⟩
      rcases h3 with⟨e,a,c,d⟩|⟨a,d⟩
      · rw[show(v,true).1=e.f1 from d];exact(g1.mem a).2
      · show-9223372036854775808≤v∧v≤9223372036854775807;omega
    · exact⟨(show-9223372036854775808≤(0:Int)∧(0:Int)≤9223372036854775807 by decide),trivial⟩
theorem FnExactEntryOf:laws_FnExactEntryOf.Pure:=close core
end Go.Proofs.Ytcppdkdnpmgpmaa.Pure
