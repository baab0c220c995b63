/- Both functions find the same sum's place. -/
import Derived.Lib.LastIndexLaws
import Derived.Lib.ParseIntBCases
import Derived.Lib.IndexLaws
import Derived.Test.YtjmojijopammjaaDoorYOpenImageA
import Derived.Test.YtjmojijopammjaaDoorYOpenImageVValues
import Derived.Test.YtjmojijopammjaaDoorYOpenImageVDigits
namespace Go.Proofs.YtjmojijopammjaaDoor.Pure
open Go.Proofs.YtjmojijopammjaaDoor.PureFnExactOpenImage Go.RowKit Go.Proofs.YtjmojijopammjaaDoorG Go.Proofs.YtjmojijopammjaaDoor.PFnExactOpenImage Go.Proofs.YtjmojijopammjaaDoorW.PrintWords Go.Proofs.YtjmojijopammjaaDoorW.PrintLast Go.Proofs.YtjmojijopammjaaDoorW.PrintMore
def decV (l:List UInt8) (acc:Nat):Nat:=l.foldl (fun a c=>10*a+(c.toNat- 48)) acc
def dgB (c:UInt8):Prop:=48≤c.toNat∧c.toNat≤57
theorem dec_rec (m:Nat):Lib.decDigits m=if m<10 then[UInt8.ofNat (48+m)]else Lib.decDigits (m/10)++[UInt8.ofNat (48+m%10)]:=by
  rw[Lib.decDigits];split<;>rfl
theorem dig_num (d:Nat) (h:d<10):(UInt8.ofNat (48+d)).toNat=48+d:=by
  simp;omega
theorem dec_props:∀m:Nat,(∀c,c∈Lib.decDigits m→dgB c)∧1≤(Lib.decDigits m).length∧decV (Lib.decDigits m) 0=m∧(∀d,m<10^(d+1)→(Lib.decDigits m).length≤d+1):=by
  intro m
  induction m using Nat.strongRecOn with
  |_ m ih=>
    rw[dec_rec]
    by_cases h:m<10
    · rw [if_pos h]
      refine⟨fun c hc=>?_,by simp,by simp[decV];omega,fun d _=>by simp⟩
      obtain rfl:=List.mem_singleton.1 hc
      unfold dgB;rw[dig_num m h];omega
    · rw [if_neg h]
      obtain⟨h1,h2,h3,h4⟩:=ih (m/10) (by omega)
      refine⟨fun c hc=>?_,by simp,?_,fun d hd=>?_⟩
      · rcases List.mem_append.1 hc with hc | hc
        · exact h1 c hc
        · obtain rfl := List.mem_singleton.1 hc
          unfold dgB;rw[dig_num _ (by omega)];omega
      · unfold decV at h3 ⊢
        rw[List.foldl_append,h3]
        show 10*(m/10)+((UInt8.ofNat (48+m%10)).toNat- 48)=m
        rw[dig_num _ (by omega)];omega
      · rw [List.length_append]
        cases d with
        |zero=>exact absurd hd (by omega)
        |succ d=>
          have:=h4 d (by rw[Nat.pow_succ]at hd;omega)
          simpa using this
theorem decV_ge:∀(l:List UInt8) (acc:Nat),acc≤decV l acc:=by
  intro l
  induction l with
  |nil=>intro acc;exact Nat.le_refl _
  |cons c l ih=>
    intro acc
    have:=ih (10*acc+(c.toNat- 48))
    unfold decV at this ⊢
    rw[List.foldl_cons];omega
theorem parse_dec (M:Nat) (hM:M<1844674407370955162):∀(l:List UInt8) (acc:Nat),(∀c,c∈l→dgB c)→decV l acc≤M→Lib.parseUintM M acc l= .ok (decV l acc):=by
  intro l
  induction l with
  |nil=>intro acc _ _;rfl
  |cons c l ih=>
    intro acc hd hv
    have hc:=hd c (List.mem_cons_self ..)
    have h1:decV (c::l) acc=decV l (acc*10+(c.toNat- 48)):=by unfold decV;rw[List.foldl_cons,Nat.mul_comm]
    rw[h1]at hv ⊢
    have h2:=decV_ge l (acc*10+(c.toNat- 48))
    unfold dgB at hc
    rw[Lib.parseUintM,if_pos hc,if_neg (by omega),if_neg (by omega)]
    exact ih _ (fun x hx=>hd x (List.mem_cons_of_mem _ hx)) hv
theorem itoa_nat (m:Nat):Lib.itoa (m:Int)=Lib.decDigits m:=by rw[Lib.itoa,if_neg (by omega),Int.toNat_natCast]
theorem ext_list (s:ByteArray) (x y:Nat):(s.extract x y).data.toList=(s.data.toList.drop x).take (y-x):=by
  rw[ByteArray.data_extract,Array.toList_extract]
def Gd (L:List UInt8) (a v:Nat):Prop:=2≤a∧a≤L.length∧(L.drop (a- 2)).take 2=[32,35]∧L.drop a=Lib.decDigits v∧v≤4294967295
theorem Gd.get {L:List UInt8} {a v:Nat} (h:Gd L a v):L[a- 2]?=some 32∧L[a- 1]?=some 35:=by
  obtain⟨h1,h2,h3,_⟩:=h
  have e0:((L.drop (a- 2)).take 2)[0]?=some 32:=by rw[h3];rfl
  have e1:((L.drop (a- 2)).take 2)[1]?=some 35:=by rw[h3];rfl
  rw[List.getElem?_take_of_lt (by omega),List.getElem?_drop]at e0 e1
  exact⟨by simpa using e0,by rw[show a- 1=a- 2+1 by omega];exact e1⟩
theorem Gd.dig {L:List UInt8} {a v:Nat} (h:Gd L a v) {j:Nat} (h1:a≤j) (h2:j<L.length):dgB L[j]:=by
  have e:(L.drop a)[j-a]?=some L[j]:=by rw[List.getElem?_drop,show a+(j-a)=j by omega,List.getElem?_eq_getElem h2]
  rw[h.2.2.2.1]at e
  exact(dec_props v).1 _ (List.mem_of_getElem? e)
theorem Gd.len {L:List UInt8} {a v:Nat} (h:Gd L a v):1≤L.length-a∧L.length-a≤10:=by
  have e:(L.drop a).length=(Lib.decDigits v).length:=by rw[h.2.2.2.1]
  rw[List.length_drop]at e
  have:=(dec_props v).2.1
  have h4:=(dec_props v).2.2.2 9 (by have:=h.2.2.2.2;omega)
  omega
theorem bt_nat (s:ByteArray) (i:Nat) (h:i<s.data.toList.length):bt s (i:Int)=(s.data.toList[i].toNat:Int):=by
  have e:s.data.toList.length=s.size:=by simp
  rw[bt_get s i (by omega)];simp[bytesOf]
def dB (s:ByteArray) (m:Nat):Prop:=48≤bt s (m:Int)∧bt s (m:Int)≤57
instance (s:ByteArray) (m:Nat):Decidable (dB s m):=by unfold dB;infer_instance
def stopN (s : ByteArray) : Nat → Nat
  |0=>0
  |m+1=>if dB s m∧s.size-(m+1)<11 then stopN s m else m+1
theorem stop_le (s:ByteArray):∀m,stopN s m≤m:=by
  intro m
  induction m with
  |zero=>exact Nat.le_refl _
  |succ m ih=>rw[stopN];split<;>omega
theorem stop_dig (s:ByteArray):∀m j,stopN s m≤j→j<m→dB s j:=by
  intro m
  induction m with
  |zero=>intro j _ h;omega
  |succ m ih=>
    intro j h1 h2
    rw[stopN]at h1
    split at h1
    · rename_i hc
      by_cases e:j=m
      · subst e;exact hc.1
      · exact ih j h1 (by omega)
    · omega
theorem stop_end (s:ByteArray):∀m,stopN s m=0∨¬dB s (stopN s m- 1)∨11≤s.size-stopN s m:=by
  intro m
  induction m with
  |zero=>exact .inl rfl
  |succ m ih=>
    rw[stopN]
    split
    · exact ih
    · rename_i hc
      by_cases h:dB s m
      · exact .inr (.inr (by have:¬(s.size-(m+1)<11):=fun h2=>hc ⟨h,h2⟩;omega))
      · exact .inr (.inl h)
theorem stop_len (s:ByteArray):∀m,m≤s.size→s.size-m≤11→s.size-stopN s m≤11:=by
  intro m
  induction m with
  |zero=>intro _ h;exact h
  |succ m ih=>
    intro h1 h2
    rw[stopN]
    split
    · rename_i hc;exact ih (by omega) (by omega)
    · exact h2
theorem l0_ev (s:ByteArray) (hs:s.size≤1048576) (r:ByteArray×Int):∀m,m≤s.size→Ev (fun k=>spec_OpenImage.l1 k s (stopN s m:Int) 0 (stopN s m:Int)) r→Ev (fun k=>spec_OpenImage.l0 k s (m:Int)) r:=by
  have JF:∀(x:Int),Ev (fun k=>spec_OpenImage.l1 k s x 0 x) r→Ev (fun k=>spec_OpenImage.j1 k s x false) r:=by
    intro x h
    refine ev_shift ?_;simp only[spec_OpenImage.j1]
    exact ev_neg Bool.false_ne_true h
  intro m
  induction m with
  |zero=>
    intro _ h
    refine ev_shift ?_;simp only[spec_OpenImage.l0]
    exact ev_neg (by omega) (JF _ h)
  |succ m ih=>
    intro hm h
    have hw:wrap64 (((m+1:Nat):Int)- 1)=(m:Int):=by unfold wrap64;omega
    have hw2:wrap64 ((s.size:Int)-((m+1:Nat):Int))=(s.size:Int)-((m+1:Nat):Int):=by unfold wrap64;omega
    refine ev_shift ?_;simp only[spec_OpenImage.l0]
    rw[hw,hw2]
    refine ev_pos (by omega) (ev_pos (by omega) (ev_pos (by omega) ?_))
    rw[stopN]at h
    by_cases c1:bt s (m:Int)≥48
    · by_cases c2 : bt s (m : Int) ≤ 57
      · refine ev_pos c1 (ev_pos c2 ?_)
        by_cases c3:(s.size:Int)-((m+1:Nat):Int)<11
        · rw [if_pos ⟨⟨c1, c2⟩, by omega⟩] at h
          rw[decide_eq_true c3]
          refine ev_shift ?_;simp only[spec_OpenImage.j1]
          rw[hw]
          exact ev_pos (by trivial) (ih (by omega) h)
        · rw [if_neg (fun hh => c3 (by have := hh.2; omega))] at h
          rw[decide_eq_false c3]
          exact JF _ h
      · rw [if_neg (fun hh => c2 hh.1.2)] at h
        exact ev_pos c1 (ev_neg c2 (JF _ h))
    · rw [if_neg (fun hh => c1 hh.1.1)] at h
      exact ev_neg c1 (JF _ h)
theorem l1_ev (s:ByteArray) (hs:s.size≤1048576) (a:Int) (r:ByteArray×Int):∀(d i acc:Nat),i+d=s.size→(∀j,i≤j→j<s.size→dB s j)→d≤11→acc<10^(11-d)→
    (decV (s.data.toList.drop i) acc<10^11→Ev (fun k=>spec_OpenImage.l1 k s a (decV (s.data.toList.drop i) acc:Int) (s.size:Int)) r)→Ev (fun k=>spec_OpenImage.l1 k s a (acc:Int) (i:Int)) r:=by
  have e:s.data.toList.length=s.size:=by simp
  intro d
  induction d with
  |zero=>
    intro i acc hi _ _ ha h
    have e2:i=s.size:=by omega
    subst e2
    rw[List.drop_of_length_le (by omega)]at h
    exact h ha
  |succ d ih=>
    intro i acc hi hd hl ha h
    have hi2:i<s.data.toList.length:=by omega
    have hb:=bt_nat s i hi2
    have hdi:=hd i (Nat.le_refl _) (by omega)
    unfold dB at hdi
    have hp:(10:Nat)^(11-(d+1))*10=10^(11-d):=by rw[←Nat.pow_succ];congr 1;omega
    have hpm:(10:Nat)^(11-d)≤10^11:=Nat.pow_le_pow_right (by decide) (by omega)
    have hstep:decV (s.data.toList.drop i) acc=decV (s.data.toList.drop (i+1)) (10*acc+(s.data.toList[i].toNat- 48)):=by
      rw[List.drop_eq_getElem_cons hi2];unfold decV;rw[List.foldl_cons]
    rw[hstep]at h
    have hk:=ih (i+1) (10*acc+(s.data.toList[i].toNat- 48)) (by omega) (fun j h1 h2=>hd j (by omega) h2) (by omega) (by omega) h
    refine ev_shift ?_;simp only[spec_OpenImage.l1]
    rw[wrap_up (show(0:Int)≤(i:Int) by omega) (show(i:Int)<(s.size:Int) by omega) (by omega)]
    refine ev_pos (by omega) (ev_pos (by omega) ?_)
    have hv:wrap64 (wrap64 (10*(acc:Int))+(bt s (i:Int)- 48)%256)=((10*acc+(s.data.toList[i].toNat- 48):Nat):Int):=by
      have h1:wrap64 (10*(acc:Int))=10*(acc:Int):=by unfold wrap64;omega
      rw[h1,hb,show(((s.data.toList[i].toNat:Int))- 48)%256=((s.data.toList[i].toNat- 48:Nat):Int) by omega]
      unfold wrap64;omega
    rw[hv]
    exact hk
theorem fin_bad (s:ByteArray) (hs:s.size≤1048576) (a v:Nat) (ha:a≤s.size) (hv:v<10^11) (hn:¬(2≤a∧a≠s.size∧(s.data.toList.drop (a- 2)).take 2=[32,35]∧v≤4294967295∧Lib.decDigits v=s.data.toList.drop a)):
    Ev (fun k=>spec_OpenImage.l1 k s (a:Int) (v:Int) (s.size:Int)) ((⟨#[]⟩:ByteArray),2):=by
  have e:s.data.toList.length=s.size:=by simp
  have J:∀b:Bool,b=true→Ev (fun k=>spec_OpenImage.j3 k s (a:Int) (v:Int) b) ((⟨#[]⟩:ByteArray),2):=by
    intro b hb
    refine ev_shift ?_;simp only[spec_OpenImage.j3]
    exact ev_pos hb (ev_some _)
  refine ev_shift ?_;simp only[spec_OpenImage.l1]
  refine ev_neg (by omega) ?_
  by_cases c1:(a:Int)<2
  · exact ev_pos c1 (J _ rfl)
  refine ev_neg c1 ?_
  by_cases c2:(a:Int)=(s.size:Int)
  · exact ev_pos c2 (J _ rfl)
  have hw:wrap64 ((a:Int)- 2)=((a- 2:Nat):Int):=by unfold wrap64;omega
  rw[hw]
  refine ev_neg c2 (ev_pos (by omega) (ev_pos (by omega) (ev_pos (by omega) ?_)))
  by_cases c3:(s.extract (((a- 2:Nat):Int)).toNat ((a:Int)).toNat).toList=([32,35]:List UInt8)
  · refine ev_pos c3 ?_
    rw[Go.ByteArray.toList_eq,Int.toNat_natCast,Int.toNat_natCast,ext_list,show a-(a- 2)=2 by omega]at c3
    by_cases c4:(v:Int)>4294967295
    · exact ev_pos c4 (J _ rfl)
    · refine ev_neg c4 (ev_bind (spec_digits_ev (v : Int) (by omega) (by omega)) (ev_pos (by omega) (J _ ?_)))
      refine bne_iff_ne.2 fun c5=>hn ⟨by omega,by omega,c3,by omega,?_⟩
      rw[Go.ByteArray.toList_eq,Go.ByteArray.toList_eq,Int.toNat_natCast,ext_list,List.take_of_length_le (by rw[List.length_drop];omega)]at c5
      rw[←c5,itoaB, ←itoa_nat]
  · exact ev_neg c3 (J _ rfl)
theorem sums (s:ByteArray) (hn:s.size≤1048576):∃r,Ev (fun k=>spec_l26Sum.f k s) r∧Ev (fun k=>impl_ImageSum.f k s) r:=by
  suffices h:∀(d i:Nat) (a b:Int),i+d=s.size→∃r,Ev (fun k=>spec_l26Sum.l0 k s a b (i:Int)) r∧Ev (fun k=>impl_ImageSum.l0 k s a b (s.size:Int) (i:Int)) r by
    simp only[spec_l26Sum.f,impl_ImageSum.f]
    exact h s.size 0 1 0 (by omega)
  intro d
  induction d with
  |zero=>
    intro i a b hi
    refine⟨wrap64 ((wrap64 (65536*b))+a),?_,?_⟩
    · refine ev_shift ?_;simp only[spec_l26Sum.l0];exact ev_neg (by omega) (ev_some _)
    · refine ev_shift ?_;simp only[impl_ImageSum.l0];exact ev_neg (by omega) (ev_some _)
  |succ d ih=>
    intro i a b hi
    obtain⟨r,h1,h2⟩:=ih (i+1) (Int.tmod (wrap64 (a+(wrap64 (bt s (i:Int))))) 65521) (Int.tmod (wrap64 (b+(Int.tmod (wrap64 (a+(wrap64 (bt s (i:Int))))) 65521))) 65521) (by omega)
    have hw:=wrap_up (show(0:Int)≤(i:Int) by omega) (show(i:Int)<(s.size:Int) by omega) (by omega)
    refine⟨r,?_,?_⟩
    · refine ev_shift ?_;simp only[spec_l26Sum.l0];rw[hw];exact ev_pos (by omega) (ev_pos (by omega) h1)
    · refine ev_shift ?_;simp only[impl_ImageSum.l0];rw[hw];exact ev_pos (by omega) (ev_pos (by omega) (ev_pos (by omega) h2))
def resI (p:ByteArray) (v:Nat) (t:Int):ByteArray×Int:=if(v:Int)=t then(p,0)else((⟨#[]⟩:ByteArray),10)
theorem fin_good (s:ByteArray) (hs:s.size≤1048576) (a v:Nat) (h:Gd s.data.toList a v) (t:Int) (ht:Ev (fun k=>spec_l26Sum.f k (s.extract 0 (a- 2))) t):
    Ev (fun k=>spec_OpenImage.l1 k s (a:Int) (v:Int) (s.size:Int)) (resI (s.extract 0 (a- 2)) v t):=by
  have e:s.data.toList.length=s.size:=by simp
  have hl:=h.len
  obtain⟨h1,h2,h3,h4,h5⟩:=h
  have hw:wrap64 ((a:Int)- 2)=((a- 2:Nat):Int):=by unfold wrap64;omega
  have J:∀b:Bool,b=false→Ev (fun k=>spec_OpenImage.j3 k s (a:Int) (v:Int) b) (resI (s.extract 0 (a- 2)) v t):=by
    intro b hb
    refine ev_shift ?_;simp only[spec_OpenImage.j3]
    rw[hw]
    refine ev_neg (by rw[hb];exact Bool.false_ne_true) (ev_pos (by omega) (ev_pos (by omega) ?_))
    rw[Int.toNat_natCast]
    refine ev_bind ht ?_
    unfold resI
    by_cases c:(v:Int)=t
    · rw[if_pos c];exact ev_pos c.symm (ev_some _)
    · rw[if_neg c];exact ev_neg (fun h=>c h.symm) (ev_some _)
  refine ev_shift ?_;simp only[spec_OpenImage.l1]
  rw[hw]
  refine ev_neg (by omega) (ev_neg (by omega) (ev_neg (by omega) (ev_pos (by omega) (ev_pos (by omega) (ev_pos (by omega) (ev_pos ?_ (ev_neg (by omega) (ev_bind (spec_digits_ev (v:Int) (by omega) (by omega)) (ev_pos (by omega) (J _ ?_))))))))))
  · rw[Go.ByteArray.toList_eq,Int.toNat_natCast,Int.toNat_natCast,ext_list,show a-(a- 2)=2 by omega];exact h3
  · refine bne_eq_false_iff_eq.2 ?_
    rw[Go.ByteArray.toList_eq,Go.ByteArray.toList_eq,Int.toNat_natCast,ext_list,List.take_of_length_le (by rw[List.length_drop];omega),h4,itoaB,itoa_nat]
theorem stop_good (s:ByteArray) (a v:Nat) (h:Gd s.data.toList a v):stopN s s.size=a∧decV (s.data.toList.drop a) 0=v:=by
  have e:s.data.toList.length=s.size:=by simp
  have hl:=h.len
  have hg:=h.get
  refine⟨?_,by rw[h.2.2.2.1];exact(dec_props v).2.2.1⟩
  have hp:¬dB s (a- 1):=by
    unfold dB
    have hlt:a- 1<s.data.toList.length:=by have:=h.1;omega
    rw[bt_nat s (a- 1) hlt]
    have h2:=hg.2
    rw[List.getElem?_eq_getElem hlt]at h2
    rw[Option.some.inj h2];decide
  have h1:a≤stopN s s.size:=by
    refine Classical.byContradiction fun c=>hp (stop_dig s s.size (a- 1) (by omega) (by have:=h.1;omega))
  have hle:=stop_le s s.size
  rcases stop_end s s.size with h2|h2|h2
  · have:=h.1;omega
  · refine Classical.byContradiction fun c => h2 ?_
    have hlt:stopN s s.size- 1<s.data.toList.length:=by have:=h.1;omega
    have hd:=h.dig (j:=stopN s s.size- 1) (by omega) hlt
    unfold dB
    rw[bt_nat s _ hlt]
    unfold dgB at hd;omega
  · omega
theorem spec_good (s:ByteArray) (hs:s.size≤1048576) (a v:Nat) (h:Gd s.data.toList a v) (t:Int) (ht:Ev (fun k=>spec_l26Sum.f k (s.extract 0 (a- 2))) t):Ev (fun k=>spec_OpenImage.f k s) (resI (s.extract 0 (a- 2)) v t):=by
  obtain⟨h1,h2⟩:=stop_good s a v h
  simp only[spec_OpenImage.f]
  refine l0_ev s hs _ s.size (Nat.le_refl _) ?_
  have hl:=stop_len s s.size (Nat.le_refl _) (by omega)
  have hd:=stop_dig s s.size
  rw[h1]at hl hd ⊢
  refine l1_ev s hs _ _ (s.size - a) a 0 (by have := h.2.1; have e : s.data.toList.length = s.size := by simp
                                             omega) hd hl (Nat.pow_pos (by decide)) (fun _=>?_)
  rw[h2]
  exact fin_good s hs a v h t ht
theorem spec_bad (s:ByteArray) (hs:s.size≤1048576) (h:¬ ∃a v,Gd s.data.toList a v):Ev (fun k=>spec_OpenImage.f k s) ((⟨#[]⟩:ByteArray),2):=by
  have e:s.data.toList.length=s.size:=by simp
  simp only[spec_OpenImage.f]
  refine l0_ev s hs _ s.size (Nat.le_refl _) ?_
  have hl:=stop_len s s.size (Nat.le_refl _) (by omega)
  have hd:=stop_dig s s.size
  have hle:=stop_le s s.size
  generalize stopN s s.size=a at hl hd hle
  refine l1_ev s hs _ _ (s.size-a) a 0 (by omega) hd hl (Nat.pow_pos (by decide)) (fun hv=>?_)
  exact fin_bad s hs a _ hle hv (fun c=>h ⟨a,_,c.1,by omega,c.2.2.1,c.2.2.2.2.symm,c.2.2.2.1⟩)
theorem at_good (s:ByteArray) (a v:Nat) (h:Gd s.data.toList a v):impl_OpenImage.at s=((a- 2:Nat):Int):=by
  have hl:=h.len
  have hg:=h.get
  have h1:=h.1
  unfold impl_OpenImage.at Lib.lastIndex
  have e2:[(32:UInt8),35].length=2:=rfl
  rw[if_pos (by omega)]
  have hoc:Lib.occAt s.data.toList [32,35] (a- 2)=true:=by
    rw[Lib.occAt_iff_take _ _ _ (by omega),e2,h.2.2.1];rfl
  rcases Lib.lastOcc_spec s.data.toList [32,35] (s.data.toList.length-[(32:UInt8),35].length+1)with⟨_,hn⟩|⟨i,hi,he,hoi,hn⟩
  · rw[hn (a- 2) (by omega)]at hoc;cases hoc
  · rw [he]
    have:a- 2≤i:=by
      refine Classical.byContradiction fun c=>?_
      rw[hn (a- 2) (by omega) (by omega)]at hoc;cases hoc
    have h32:=Lib.occAt_head rfl hoi
    have:¬a≤i:=by
      intro c
      have hlt:i<s.data.toList.length:=by omega
      have hd:=h.dig c hlt
      rw[List.getElem?_eq_getElem hlt]at h32
      rw[Option.some.inj h32]at hd
      unfold dgB at hd
      exact absurd hd (by decide)
    have:i≠a- 1:=by
      intro c
      rw[c,hg.2]at h32
      exact absurd h32 (by decide)
    omega
theorem impl_good (s:ByteArray) (hs:s.size≤1048576) (a v:Nat) (h:Gd s.data.toList a v) (t:Int) (ht:Ev (fun k=>impl_ImageSum.f k (s.extract 0 (a- 2))) t):Ev (fun k=>impl_OpenImage.f k s) (resI (s.extract 0 (a- 2)) v t):=by
  have e:s.data.toList.length=s.size:=by simp
  have hl:=h.len
  have hD:(s.extract a s.size).data.toList=Lib.decDigits v:=by
    rw[ext_list,List.take_of_length_le (by rw[List.length_drop];omega),h.2.2.2.1]
  have hp:Lib.parseUintB 32 (s.extract a s.size).data.toList= .ok v:=by
    rw[hD]
    unfold Lib.parseUintB
    have h3:=(dec_props v).2.2.1
    rw[if_neg (fun c=>by have:=(dec_props v).2.1;rw[c]at this;simp at this),parse_dec _ (by decide) _ 0 (dec_props v).1 (by rw[h3];exact h.2.2.2.2),h3]
  simp only[impl_OpenImage.f]
  rw[at_good s a v h,show((a- 2:Nat):Int)+2=(a:Int) by have:=h.1;omega,Int.toNat_natCast,Int.toNat_natCast,hp]
  refine ev_pos (by omega) (ev_neg (by omega) ?_)
  have h5:=h.2.2.2.2
  refine ev_pos h5 (ev_bindc (impl_decimal_eq (v:Int) (by omega) (by omega)) (ev_pos ?_ (ev_bind ht ?_)))
  · rw[Go.ByteArray.toList_eq,Go.ByteArray.toList_eq,hD,itoaB,itoa_nat]
  · unfold resI
    exact ev_ite (ev_some _) (ev_some _)
theorem impl_bad (s:ByteArray) (hs:s.size≤1048576) (h:¬ ∃a v,Gd s.data.toList a v):Ev (fun k=>impl_OpenImage.f k s) ((⟨#[]⟩:ByteArray),2):=by
  have e:s.data.toList.length=s.size:=by simp
  simp only[impl_OpenImage.f]
  refine ev_pos (by omega) ?_
  by_cases c0:impl_OpenImage.at s<0
  · exact ev_pos c0 (ev_some _)
  refine ev_neg c0 ?_
  cases hp:Lib.parseUintB 32 (s.extract (impl_OpenImage.at s+2).toNat s.size).data.toList with
  | «syntax» =>exact ev_some _
  |range=>exact ev_some _
  |ok u=>
    have hu:=Lib.parseUintB_le hp
    refine ev_pos (by omega) (ev_bindc (impl_decimal_eq (u:Int) (by omega) (by omega)) (ev_neg (fun c=>h ?_) (ev_some _)))
    rw[Go.ByteArray.toList_eq,Go.ByteArray.toList_eq,ext_list,List.take_of_length_le (by rw[List.length_drop];omega)]at c
    have e2:[(32:UInt8),35].length=2:=rfl
    have hat:∃i:Nat,impl_OpenImage.at s=(i:Int)∧i+2≤s.size∧(s.data.toList.drop i).take 2=[32,35]:=by
      unfold impl_OpenImage.at Lib.lastIndex at c0 ⊢
      by_cases c1:[(32:UInt8),35].length≤s.data.toList.length
      · rw [if_pos c1] at c0 ⊢
        rcases Lib.lastOcc_spec s.data.toList [32,35] (s.data.toList.length-[(32:UInt8),35].length+1)with⟨hm,_⟩|⟨i,hi,he,hoi,_⟩
        · exact absurd (by rw[hm];decide) c0
        · refine ⟨i, he, by omega, ?_⟩
          rw[Lib.occAt_iff_take _ _ _ (by omega)]at hoi
          exact beq_iff_eq.1 hoi
      · rw[if_neg c1]at c0;exact absurd (by decide) c0
    obtain⟨i,hi,hle,htk⟩:=hat
    rw[hi,show((i:Int)+2).toNat=i+2 by omega]at c
    exact⟨i+2,u,by omega,by omega,by simpa using htk,by rw[←c,itoaB, ←itoa_nat],by omega⟩
theorem core2 (s:ByteArray) (hs:s.size≤1048576):∃x,Ev (fun k=>spec_OpenImage.f k s) x∧Ev (fun k=>impl_OpenImage.f k s) x:=by
  by_cases h:∃a v,Gd s.data.toList a v
  · obtain ⟨a, v, h⟩ := h
    obtain⟨t,h1,h2⟩:=sums (s.extract 0 (a- 2)) (by rw[ByteArray.size_extract];omega)
    exact⟨_,spec_good s hs a v h t h1,impl_good s hs a v h t h2⟩
  · exact⟨_,spec_bad s hs h,impl_bad s hs h⟩
theorem FnExactOpenImage:laws_FnExactOpenImage.Pure:=by
  intro x0 _
  suffices hh:Ev (fun k=>laws_FnExactOpenImage.f k x0) true by
    obtain⟨K,hK⟩:=hh
    exact⟨K,hK K (Nat.le_refl _)⟩
  simp only[laws_FnExactOpenImage.f]
  refine ev_skip fun c0=>?_
  obtain⟨r,es,ei⟩:=core2 x0 (by omega)
  exact ev_bind es (ev_bind ei (ev_pos rfl (ev_pos rfl (ev_some _))))
end Go.Proofs.YtjmojijopammjaaDoor.Pure
