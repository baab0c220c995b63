/- Both functions write the trace line alike. -/
import Derived.Test.YtjmojijopammjaaDoorYTraceTextA
import Derived.Test.YtjmojijopammjaaDoorYTraceTextVValues
import Derived.Test.YtjmojijopammjaaDoorYTraceTextVDigits
import Derived.Test.YtjmojijopammjaaDoorYTraceTextVTexts
namespace Go.Proofs.YtjmojijopammjaaDoor.Pure
open Go.Proofs.YtjmojijopammjaaDoor.PureFnExactTraceText Go.RowKit Go.Proofs.YtjmojijopammjaaDoorG Go.Proofs.YtjmojijopammjaaDoor.PFnExactCaptureText Go.Proofs.YtjmojijopammjaaDoorW.PrintWords Go.Proofs.YtjmojijopammjaaDoorW.PrintLast Go.Proofs.YtjmojijopammjaaDoorW.PrintMore
def goodT (a1:Int) (nm:ByteArray) (k n:Int) (t:ByteArray) (r:Int):Bool:=decide (1≤a1)&&decide (a1≤1000)&&(isNameS nm&&validV k n t r)
theorem spec_top (a0 a1 : Int) (nm : ByteArray) (k n : Int) (t : ByteArray) (r : Int) (X : ByteArray) (h1 : (1 ≤ a0 ∧ a0 ≤ 5) → goodT a1 nm k n t r = true → Ev (fun j => spec_TraceText.j0 j a0 a1 nm false k n t r) X)
    (h2:¬((1≤a0∧a0≤5)∧goodT a1 nm k n t r=true)→X=⟨#[]⟩):Ev (fun j=>spec_TraceText.f j a0 a1 nm k n t r) X:=by
  have hJ:∀b:Bool,b=true→Ev (fun j=>spec_TraceText.j0 j a0 a1 nm b k n t r) ⟨#[]⟩:=by
    intro b hb
    refine ev_shift ?_;simp only[spec_TraceText.j0]
    exact ev_pos hb (ev_some _)
  have hs:=spec_ValidValue_ev k n t r
  have sn:=spec_IsName_ev nm
  simp only[spec_TraceText.f]
  refine ev_bindc (spec_l00In_eq a0 1 5) ?_
  by_cases c0:1≤a0∧a0≤5
  · refine ev_pos (by simp [c0.1, c0.2]) (ev_bindc (spec_l00In_eq a1 1 1000) ?_)
    by_cases c1:1≤a1∧a1≤1000
    · refine ev_pos (by simp [c1.1, c1.2]) (ev_bind sn ?_)
      cases c2:isNameS nm with
      |true=>
        refine ev_pos rfl (ev_bind hs ?_)
        cases c3:validV k n t r with
        |true=>exact h1 c0 (by simp[goodT,c1.1,c1.2,c2,c3])
        |false=>rw[h2 (by simp[goodT,c3])];exact hJ _ rfl
      |false=>refine ev_neg Bool.false_ne_true ?_;rw[h2 (by simp[goodT,c2])];exact hJ _ rfl
    · refine ev_neg (by simpa using c1) ?_;rw[h2 (fun h=>c1 (by have:=h.2;simp[goodT]at this;exact this.1))];exact hJ _ rfl
  · refine ev_neg (by simpa using c0) ?_;rw[h2 (fun h=>c0 h.1)];exact hJ _ rfl
theorem impl_top (a0 a1 : Int) (nm : ByteArray) (k n : Int) (t : ByteArray) (r : Int) (X : ByteArray) (h1 : goodT a1 nm k n t r = true → Ev (fun j => impl_TraceText.j0 j a0 a1 nm false k n t r) X)
    (h2:¬(goodT a1 nm k n t r=true)→X=⟨#[]⟩):Ev (fun j=>impl_TraceText.f j a0 a1 nm k n t r) X:=by
  have hJ:∀b:Bool,b=true→Ev (fun j=>impl_TraceText.j0 j a0 a1 nm b k n t r) ⟨#[]⟩:=by
    intro b hb
    refine ev_shift ?_;simp only[impl_TraceText.j0]
    exact ev_pos hb (ev_some _)
  have hs:=impl_ValidValue_ev k n t r
  have sn:=impl_IsName_ev nm
  simp only[impl_TraceText.f]
  refine ev_bindc (impl_within_eq a1 1 1000) ?_
  by_cases c1:1≤a1∧a1≤1000
  · refine ev_pos (by simp [c1.1, c1.2]) (ev_bind sn ?_)
    cases c2:isNameS nm with
    |true=>
      refine ev_pos rfl (ev_bind hs ?_)
      cases c3:validV k n t r with
      |true=>exact h1 (by simp[goodT,c1.1,c1.2,c2,c3])
      |false=>rw[h2 (by simp[goodT,c3])];exact hJ _ rfl
    |false=>refine ev_neg Bool.false_ne_true ?_;rw[h2 (by simp[goodT,c2])];exact hJ _ rfl
  · refine ev_neg (by simpa using c1) ?_;rw[h2 (fun h=>c1 (by simp[goodT]at h;exact h.1))];exact hJ _ rfl
theorem core2 (a0 a1:Int) (nm:ByteArray) (k n:Int) (t:ByteArray) (r:Int) (hnm:nm.size≤1048576) (hn: -9223372036854775808≤n∧n≤9223372036854775807) (ht:t.size≤1048576) (hr: -9223372036854775808≤r∧r≤9223372036854775807):
    ∃x,Ev (fun j=>spec_TraceText.f j a0 a1 nm k n t r) x∧Ev (fun j=>impl_TraceText.f j a0 a1 nm k n t r) x:=by
  by_cases g:goodT a1 nm k n t r=true
  · have ga:(1≤a1∧a1≤1000)∧validV k n t r=true:=by
      simp only[goodT,Bool.and_eq_true,decide_eq_true_eq]at g;exact⟨g.1,g.2.2⟩
    obtain⟨x,hx,es,ei⟩:=text_two k n t r ga.2 hn ht hr
    have hd:=itoa_size a1 (by omega) (by omega)
    have sd:=spec_digits_ev a1 (by omega) (by omega)
    have id_:=impl_decimal_eq a1 (by omega) (by omega)
    by_cases c0:1≤a0∧a0≤5
    · have both:∃X,Ev (fun j=>spec_TraceText.j0 j a0 a1 nm false k n t r) X∧Ev (fun j=>impl_TraceText.j0 j a0 a1 nm false k n t r) X:=by
        have c:a0=1∨a0=2∨a0=3∨a0=4∨a0=5:=by omega
        have S:∀X,Ev (fun j=>spec_TraceText.j0 (j+1) a0 a1 nm false k n t r) X→Ev (fun j=>impl_TraceText.j0 (j+1) a0 a1 nm false k n t r) X→∃X,Ev (fun j=>spec_TraceText.j0 j a0 a1 nm false k n t r) X∧Ev (fun j=>impl_TraceText.j0 j a0 a1 nm false k n t r) X:=fun X h1 h2=>⟨X,ev_shift h1,ev_shift h2⟩
        rcases c with c|c|c|c|c
        · refine S ((((itoaB a1 ++ (⟨#[58, 32]⟩ : ByteArray)) ++ nm) ++ (⟨#[32, 61, 32]⟩ : ByteArray)) ++ x) ?_ ?_
          · simp only [spec_TraceText.j0]
            exact ev_neg Bool.false_ne_true (ev_bind sd (ev_pos (by omega) (ev_pos c (ev_pos (by omega) (ev_pos (by omega) (ev_bind es (ev_pos (by omega) (ev_some _))))))))
          · simp only [impl_TraceText.j0]
            exact ev_neg Bool.false_ne_true (ev_bindc id_ (ev_pos (by omega) (ev_pos c (ev_pos (by omega) (ev_pos (by omega) (ev_bindc ei (ev_pos (by omega) (ev_some _))))))))
        · refine S (((itoaB a1 ++ (⟨#[58, 32]⟩ : ByteArray)) ++ (⟨#[99, 97, 108, 108, 32]⟩ : ByteArray)) ++ nm) ?_ ?_
          · simp only [spec_TraceText.j0]
            exact ev_neg Bool.false_ne_true (ev_bind sd (ev_pos (by omega) (ev_neg (by omega) (ev_pos c (ev_pos (by omega) (ev_pos (by omega) (ev_some _)))))))
          · simp only [impl_TraceText.j0]
            exact ev_neg Bool.false_ne_true (ev_bindc id_ (ev_pos (by omega) (ev_neg (by omega) (ev_pos c (ev_pos (by omega) (ev_pos (by omega) (ev_some _)))))))
        · refine S (((((itoaB a1 ++ (⟨#[58, 32]⟩ : ByteArray)) ++ (⟨#[114, 101, 116, 117, 114, 110, 32]⟩ : ByteArray)) ++ nm) ++ (⟨#[32, 61, 32]⟩ : ByteArray)) ++ x) ?_ ?_
          · simp only [spec_TraceText.j0]
            exact ev_neg Bool.false_ne_true (ev_bind sd (ev_pos (by omega) (ev_neg (by omega) (ev_neg (by omega) (ev_pos c (ev_pos (by omega) (ev_pos (by omega) (ev_pos (by omega) (ev_bind es (ev_pos (by omega) (ev_some _)))))))))))
          · simp only [impl_TraceText.j0]
            exact ev_neg Bool.false_ne_true (ev_bindc id_ (ev_pos (by omega) (ev_neg (by omega) (ev_neg (by omega) (ev_pos c (ev_pos (by omega) (ev_pos (by omega) (ev_pos (by omega) (ev_bindc ei (ev_pos (by omega) (ev_some _)))))))))))
        · refine S (((itoaB a1 ++ (⟨#[58, 32]⟩ : ByteArray)) ++ (⟨#[102, 97, 105, 108, 32]⟩ : ByteArray)) ++ nm) ?_ ?_
          · simp only [spec_TraceText.j0]
            exact ev_neg Bool.false_ne_true (ev_bind sd (ev_pos (by omega) (ev_neg (by omega) (ev_neg (by omega) (ev_neg (by omega) (ev_pos c (ev_pos (by omega) (ev_pos (by omega) (ev_some _)))))))))
          · simp only [impl_TraceText.j0]
            exact ev_neg Bool.false_ne_true (ev_bindc id_ (ev_pos (by omega) (ev_neg (by omega) (ev_neg (by omega) (ev_neg (by omega) (ev_pos c (ev_pos (by omega) (ev_pos (by omega) (ev_some _)))))))))
        · refine S (((itoaB a1 ++ (⟨#[58, 32]⟩ : ByteArray)) ++ (⟨#[103, 111, 116, 111, 32]⟩ : ByteArray)) ++ nm) ?_ ?_
          · simp only [spec_TraceText.j0]
            exact ev_neg Bool.false_ne_true (ev_bind sd (ev_pos (by omega) (ev_neg (by omega) (ev_neg (by omega) (ev_neg (by omega) (ev_neg (by omega) (ev_pos (by omega) (ev_pos (by omega) (ev_some _)))))))))
          · simp only [impl_TraceText.j0]
            exact ev_neg Bool.false_ne_true (ev_bindc id_ (ev_pos (by omega) (ev_neg (by omega) (ev_neg (by omega) (ev_neg (by omega) (ev_neg (by omega) (ev_pos c (ev_pos (by omega) (ev_pos (by omega) (ev_some _))))))))))
      obtain⟨X,hS,hI⟩:=both
      exact⟨X,spec_top a0 a1 nm k n t r X (fun _ _=>hS) (fun h=>absurd ⟨c0,g⟩ h),impl_top a0 a1 nm k n t r X (fun _=>hI) (fun h=>absurd g h)⟩
    · refine ⟨⟨#[]⟩, spec_top a0 a1 nm k n t r _ (fun h _ => absurd h c0) (fun _ => rfl), impl_top a0 a1 nm k n t r _ (fun _ => ?_) (fun _ => rfl)⟩
      refine ev_shift ?_;simp only[impl_TraceText.j0]
      exact ev_neg Bool.false_ne_true (ev_bindc id_ (ev_pos (by omega) (ev_neg (by omega) (ev_neg (by omega) (ev_neg (by omega) (ev_neg (by omega) (ev_neg (by omega) (ev_some _))))))))
  · exact⟨⟨#[]⟩,spec_top a0 a1 nm k n t r _ (fun _ h=>absurd h g) (fun _=>rfl),impl_top a0 a1 nm k n t r _ (fun h=>absurd h g) (fun _=>rfl)⟩
theorem FnExactTraceText:laws_FnExactTraceText.Pure:=by
  intro x0 x1 x2 x3 w_x0 w_x1 w_x2 w_x3
  suffices hh:Ev (fun k=>laws_FnExactTraceText.f k x0 x1 x2 x3.f0 x3.f1 x3.f2 x3.f3) true by
    obtain⟨K,hK⟩:=hh
    exact⟨K,hK K (Nat.le_refl _)⟩
  simp only[laws_FnExactTraceText.f]
  refine ev_skip fun c0=>?_
  have W:=(show(WInt .i64) x3.f0∧(WInt .i64) x3.f1∧WStr x3.f2∧(WInt .i64) x3.f3 from w_x3)
  obtain⟨v1,e1,b1,q1⟩:=laws_szValue_sz x3.f0 x3.f1 x3.f2 x3.f3 1048576 W.1 W.2.1 W.2.2.1 W.2.2.2 (by omega) (by omega)
  refine ev_bind e1 (ev_skip fun c1=>?_)
  obtain⟨g1_0,g1_1,g1_2,g1_3⟩:=q1 (by omega)
  obtain⟨v2,e2,g2⟩:=laws_toValue_to x3.f0 x3.f1 x3.f2 x3.f3 g1_0 g1_1 g1_2 g1_3
  refine ev_bind e2 ?_
  obtain⟨r,es,ei⟩:=core2 x0 x1 x2 v2.1 v2.2.1 v2.2.2.1 v2.2.2.2 (by omega) (show Fine v2.2.1 from g2.snd.fst) (show Fine v2.2.2.1 from g2.snd.snd.fst) (show Fine v2.2.2.2 from g2.snd.snd.snd)
  refine ev_bind es (ev_bind e2 (ev_bind ei (ev_pos rfl (ev_some _))))
end Go.Proofs.YtjmojijopammjaaDoor.Pure
