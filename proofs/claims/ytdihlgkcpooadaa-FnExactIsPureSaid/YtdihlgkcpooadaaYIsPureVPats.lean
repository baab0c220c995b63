/- Budgets, copies and comparisons of patterns (a recursive type) and of lists of named ones, with a bound on how deep they are. No condition. -/
import Derived.Test.YtdihlgkcpooadaaYIsPureO
import Derived.Test.YtdihlgkcpooadaaYIpW4
import Derived.Test.YtdihlgkcpooadaaYIpP0
import Derived.Test.YtdihlgkcpooadaaYIpP1
import Derived.Test.YtdihlgkcpooadaaYIpP2
import Derived.Test.YtdihlgkcpooadaaYIpP3
import Derived.Test.YtdihlgkcpooadaaYIpP24
import Derived.Test.YtdihlgkcpooadaaYIpP25
namespace Go.Proofs.Ytdihlgkcpooadaa.PureFnExactIsPure
open Go.RowKit Go.Proofs.YtdihlgkcpooadaaG Go.Proofs.Ytdihlgkcpooadaa.PFnExactIsPure Go.Proofs.YtdihlgkcpooadaaW.PrintWords Go.Proofs.YtdihlgkcpooadaaW.PrintLast Go.Proofs.YtdihlgkcpooadaaW.PrintMore
set_option linter.unusedSimpArgs false
set_option linter.unusedVariables false
def smG : Nat → S31 → Prop
  |0,_=>False
  |n+1,x=>x.f2.size≤1048576∧x.f3.length≤1048576∧∀y,y∈x.f3→smG n y
def smV : Nat → S36 → Prop
  |0,_=>False
  |n+1,x=>x.f2.size≤1048576∧x.f3.length≤1048576∧∀y,y∈x.f3→smV n y
theorem smG_up : ∀ (n : Nat) (x : S31), smG n x → smG (n + 1) x
  |0,_,h=>False.elim h
  |n+1,x,h=>⟨h.1,h.2.1,fun y hy=>smG_up n y (h.2.2 y hy)⟩
theorem smG_le {m n:Nat} (h:m≤n) {x:S31} (hx:smG m x):smG n x:=by
  induction h with
  |refl=>exact hx
  |step _ ih=>exact smG_up _ _ ih
theorem sz_shift {g:Nat→Option Int} {a:Int} {P:Prop} (h:Sz (fun k=>g (k+1)) a P):Sz g a P:=by
  obtain⟨v,hv,r⟩:=h
  exact⟨v,ev_shift hv,r⟩
theorem sz_pats (l:List S31) (hl:l.length≤9223372036854775807) (ih:∀y,y∈l→∀a,0≤a→a≤1048576→Sz (fun k=>laws_szPattern.f k y.f0 y.f1 y.f2 y.f3 a) a (smG (a.toNat+1) y)) (a:Int) (ha:0≤a) (ha1:a≤1048576):
    Sz (fun k=>laws_szPatternS.f k l a) a (l.length≤1048576∧∀y,y∈l→smG a.toNat y):=by
  refine sz_shift ?_
  simp only[laws_szPatternS.f]
  refine sz_if ha ha ha1 (by omega) (by omega) fun b1 d1 e1=>?_
  obtain ⟨v, hv, hle, hq⟩ := sz_loop laws_szPatternS.l0 (fun k x n => laws_szPattern.f k x.f0 x.f1 x.f2 x.f3 n) rd_T31 (fun x => smG a.toNat x) (fun k xs n i => by simp only [laws_szPatternS.l0]) (fun xs i h => getD_get _ xs i h) l hl (wrap64 (a - (l.length : Int))) (by omega)
    (fun x hx m hm hm1=>sz_mono (ih x hx m hm (by omega)) (fun h=>smG_le (by have:=List.length_pos_of_mem hx;omega) h))
  exact⟨v,hv,by omega,fun h=>⟨by omega,hq h⟩⟩
theorem sz_pat (x:S31) (w:wf31 x):∀a,0≤a→a≤1048576→Sz (fun k=>laws_szPattern.f k x.f0 x.f1 x.f2 x.f3 a) a (smG (a.toNat+1) x):=by
  induction w with
  |mk x h0 h1 h2 l3 h3 ih=>
    intro a ha ha1
    have u2:x.f2.size≤9223372036854775807:=h2
    refine sz_shift ?_
    simp only[laws_szPattern.f]
    refine sz_if ha ha ha1 (by omega) (by omega) fun b1 d1 e1=>?_
    refine sz_bind ha (sz_pats x.f3 l3 ih (wrap64 (a-(x.f2.size:Int))) (by omega) (by omega)) fun v' b3 d3 q=>?_
    exact⟨_,ev_some _,by omega,fun _=>⟨by omega,q.1,fun y hy=>smG_le (by omega) (q.2 y hy)⟩⟩
theorem to_pats (n:Nat) (l:List S31) (hl:l.length≤1048576) (ih:∀y,y∈l→∃v:S36,Ev (fun k=>laws_toPattern.f k y.f0 y.f1 y.f2 y.f3) (v.f0,v.f1,v.f2,v.f3)∧smV n v):
    ∃ys:List S36,Ev (fun k=>laws_toPatternS.f k l) ys∧ys.length≤1048576∧∀y,y∈ys→smV n y:=by
  letI:FineC S36:=⟨smV n⟩
  obtain⟨ys,hy,gy⟩:=to_loop laws_toPatternS.l0 (fun k x=>(laws_toPattern.f k x.f0 x.f1 x.f2 x.f3).bind fun t=>some (⟨t.1,t.2.1,t.2.2.1,t.2.2.2⟩:S36)) rd_T31 (fun k xs ys i=>by simp only[laws_toPatternS.l0,Option.bind_assoc,Option.bind_some]) (fun xs i h=>getD_get _ xs i h) l hl z36 (fun x hx=>by
    obtain⟨v,hv,gv⟩:=ih x hx
    obtain⟨_,_,_,_⟩:=v
    exact⟨_,ev_bind hv (ev_some _),gv⟩)
  refine⟨ys,?_,gy.len,fun y hy=>gy.mem hy⟩
  refine ev_shift ?_
  simp only[laws_toPatternS.f]
  exact ev_pos (by omega) (ev_pos (by omega) hy)
theorem to_pat:∀(n:Nat) (x:S31) (w:smG n x),∃v:S36,Ev (fun k=>laws_toPattern.f k x.f0 x.f1 x.f2 x.f3) (v.f0,v.f1,v.f2,v.f3)∧smV n v:=by
  intro n
  induction n with
  |zero=>exact fun x w=>False.elim w
  |succ n ih=>
    intro x w
    obtain⟨ys,hy,ly,gy⟩:=to_pats n x.f3 w.2.1 (fun y hy=>ih y (w.2.2 y hy))
    refine⟨⟨x.f0,x.f1,x.f2,ys⟩,?_,w.1,ly,gy⟩
    refine ev_shift ?_
    simp only[laws_toPattern.f]
    exact ev_bind hy (ev_some _)
theorem eq_pat:∀(n:Nat) (v:S36) (w:smV n v),Ev (fun k=>laws_eqPattern.f k v.f0 v.f1 v.f2 v.f3 v.f0 v.f1 v.f2 v.f3) true:=by
  intro n
  induction n with
  |zero=>exact fun x w=>False.elim w
  |succ n ih=>
    intro v w
    obtain⟨_,l,h⟩:=w
    have hs:Ev (fun k=>laws_eqPatternS.f k v.f3 v.f3) true:=by
      refine ev_shift ?_
      simp only[laws_eqPatternS.f]
      refine ev_pos (by simp) ?_
      have e:allN v.f3.length (fun _=>true)=true:=(allN_iff _ _).2 (fun _ _=>rfl)
      rw[←e]
      refine idx_all (g:=fun k i=>laws_eqPatternS.l0 k v.f3 v.f3 i) v.f3.length (fun _=>true) ?_ ?_ ?_
      · refine ev_shift ?_;simp only[laws_eqPatternS.l0];exact ev_neg (by omega) (ev_some _)
      · intro i hi _ r hr
        have e2:rd_T36 v.f3 (i:Int)=v.f3[i]:=getD_get _ _ i hi
        have hh:=ih (rd_T36 v.f3 (i:Int)) (h _ (by rw[e2];exact List.getElem_mem hi))
        refine ev_shift ?_;simp only[laws_eqPatternS.l0]
        refine ev_pos (by omega) (ev_pos (by omega) (ev_pos (by omega) (ev_bind hh (ev_pos rfl ?_))))
        rw[wrap_up (by omega) (show(i:Int)<(v.f3.length:Int) by omega) (by omega)];exact hr
      · intro i hi hp;cases hp
    refine ev_shift ?_
    simp only[laws_eqPattern.f]
    exact ev_pos (by simp) (ev_pos (by simp) (ev_pos (by simp) (ev_bind hs (ev_pos rfl (ev_some _)))))
def smE (n:Nat) (l:List S52):Prop:=l.length≤1048576∧∀y,y∈l→y.f0.size≤1048576∧smV n y.f1
theorem sz_env (l:List S49) (w:WList wf49 l) (a:Int) (ha:0≤a) (ha1:a≤1048576):
    Sz (fun k=>laws_szNamedS.f k l a) a (l.length≤1048576∧∀y,y∈l→y.f0.size≤1048576∧smG 1048577 y.f1):=by
  have hl:l.length≤9223372036854775807:=w.1
  simp only[laws_szNamedS.f]
  refine sz_if ha ha ha1 (by omega) (by omega) fun b1 d1 e1=>?_
  obtain ⟨v, hv, hle, hq⟩ := sz_loop laws_szNamedS.l0 (fun k x n => laws_szNamed.f k x.f0 x.f1.f0 x.f1.f1 x.f1.f2 x.f1.f3 n) rd_T49 (fun y => y.f0.size ≤ 1048576 ∧ smG 1048577 y.f1) (fun k xs n i => by simp only [laws_szNamedS.l0]) (fun xs i h => getD_get _ xs i h) l hl (wrap64 (a - (l.length : Int))) (by omega)
    (fun x hx m hm hm1=>by
      have hw:=w.2 x hx
      have u0:x.f0.size≤9223372036854775807:=hw.1
      simp only[laws_szNamed.f]
      refine sz_if hm hm (by omega) (by omega) (by omega) fun b2 d2 e2=>?_
      refine sz_bind hm (sz_mono (sz_pat x.f1 hw.2 (wrap64 (m-(x.f0.size:Int))) (by omega) (by omega)) id) fun v' b3 d3 q=>?_
      exact⟨_,ev_some _,by omega,fun _=>⟨by omega,smG_le (by omega) q⟩⟩)
  exact⟨v,hv,by omega,fun h=>⟨by omega,hq h⟩⟩
theorem to_env (n:Nat) (l:List S49) (hl:l.length≤1048576) (h:∀y,y∈l→y.f0.size≤1048576∧smG n y.f1):∃ys:List S52,Ev (fun k=>laws_toNamedS.f k l) ys∧smE n ys:=by
  letI:FineC S52:=⟨fun y=>y.f0.size≤1048576∧smV n y.f1⟩
  obtain⟨ys,hy,gy⟩:=to_loop laws_toNamedS.l0 (fun k x=>(laws_toNamed.f k x.f0 x.f1.f0 x.f1.f1 x.f1.f2 x.f1.f3).bind fun t=>some (⟨t.1,(⟨t.2.1,t.2.2.1,t.2.2.2.1,t.2.2.2.2⟩:S36)⟩:S52)) rd_T49 (fun k xs ys i=>by simp only[laws_toNamedS.l0,Option.bind_assoc,Option.bind_some]) (fun xs i h=>getD_get _ xs i h) l hl z52 (fun x hx=>by
    obtain⟨v,hv,gv⟩:=to_pat n x.f1 (h x hx).2
    obtain⟨_,_,_,_⟩:=v
    simp only[laws_toNamed.f]
    exact⟨_,ev_bind (ev_bind hv (ev_some _)) (ev_some _),(h x hx).1,gv⟩)
  refine⟨ys,?_,gy.len,fun y hy=>gy.mem hy⟩
  simp only[laws_toNamedS.f]
  exact ev_pos (by omega) (ev_pos (by omega) hy)
theorem eq_env (n:Nat) (l:List S52) (h:smE n l):Ev (fun k=>laws_eqNamedS.f k l l) true:=by
  have hl:=h.1
  simp only[laws_eqNamedS.f]
  refine ev_pos (by simp) ?_
  have e:allN l.length (fun _=>true)=true:=(allN_iff _ _).2 (fun _ _=>rfl)
  rw[←e]
  refine idx_all (g:=fun k i=>laws_eqNamedS.l0 k l l i) l.length (fun _=>true) ?_ ?_ ?_
  · refine ev_shift ?_;simp only[laws_eqNamedS.l0];exact ev_neg (by omega) (ev_some _)
  · intro i hi _ r hr
    have e2:rd_T52 l (i:Int)=l[i]:=getD_get _ _ i hi
    have hh:=eq_pat n (rd_T52 l (i:Int)).f1 (by rw[e2];exact(h.2 _ (List.getElem_mem hi)).2)
    refine ev_shift ?_;simp only[laws_eqNamedS.l0,laws_eqNamed.f]
    refine ev_pos (by omega) (ev_pos (by omega) (ev_pos (by omega) (ev_bind (ev_pos (by simp) (ev_bind hh (ev_pos rfl (ev_some _)))) (ev_pos rfl ?_))))
    rw[wrap_up (by omega) (show(i:Int)<(l.length:Int) by omega) (by omega)];exact hr
  · intro i hi hp;cases hp
end Go.Proofs.Ytdihlgkcpooadaa.PureFnExactIsPure
