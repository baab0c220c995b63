/- Both functions write the capture alike. -/
import Derived.Test.YtjmojijopammjaaDoorYCaptureTextA
import Derived.Test.YtjmojijopammjaaDoorYCaptureTextVValues
import Derived.Test.YtjmojijopammjaaDoorYCaptureTextVDigits
import Derived.Test.YtjmojijopammjaaDoorYCaptureTextVTexts
namespace Go.Proofs.YtjmojijopammjaaDoor.Pure
open Go.Proofs.YtjmojijopammjaaDoor.PureFnExactCaptureText Go.RowKit Go.Proofs.YtjmojijopammjaaDoorG Go.Proofs.YtjmojijopammjaaDoor.PFnExactCaptureText Go.Proofs.YtjmojijopammjaaDoorW.PrintWords Go.Proofs.YtjmojijopammjaaDoorW.PrintLast Go.Proofs.YtjmojijopammjaaDoorW.PrintMore
theorem itoa_zero:itoaB 0=(⟨#[48]⟩:ByteArray):=by
  rw[itoaB,Lib.itoa,if_neg (by decide),show(0:Int).toNat=0 from rfl,Lib.decDigits,dif_pos (by decide)];rfl
theorem itoa_small (m:Nat) (h:m<10):itoaB (m:Int)=⟨#[UInt8.ofNat (48+m)]⟩:=by
  by_cases h0:m=0
  · subst h0;exact itoa_zero
  · rw[itoa_pos m h0,decOf_step h0,show m/10=0 by omega,Nat.mod_eq_of_lt h];rfl
theorem l11Digits_ev (d:Nat):∀m:Nat,m<10^d→m≤9223372036854775807→d≤100→Ev (fun k=>spec_l11Digits.f k (m:Int)) (itoaB (m:Int)):=by
  induction d with
  |zero=>
    intro m hm _ _
    have h0:m=0:=by simpa using hm
    subst h0
    refine ev_shift ?_;simp only[spec_l11Digits.f]
    refine ev_pos (by decide) ?_
    rw[show itoaB ((0:Nat):Int)=(⟨#[48]⟩:ByteArray) from itoa_zero,wrap_id (by decide) (by decide)]
    exact ev_of_eq (congrArg some (one_num 48 (by decide)))
  |succ d ih=>
    intro m hm hb hd
    refine ev_shift ?_;simp only[spec_l11Digits.f]
    by_cases h:(m:Int)<10
    · refine ev_pos h ?_
      rw[wrap_id (by omega) (by omega),show(48+(m:Int))%256=((48+m:Nat):Int) by omega,one_num _ (by omega),itoa_small m (by omega)]
      exact ev_some _
    · refine ev_neg h ?_
      have e1:Int.tmod (m:Int) 10=((m%10:Nat):Int):=rfl
      have e2:Int.tdiv (m:Int) 10=((m/10:Nat):Int):=rfl
      rw[e1,e2,wrap_id (x:=((m/10:Nat):Int)) (by omega) (by omega),wrap_id (x:=48+((m%10:Nat):Int)) (by omega) (by omega),show(48+((m%10:Nat):Int))%256=((48+m%10:Nat):Int) by omega]
      refine ev_bind (ih (m/10) (by rw[Nat.pow_succ]at hm;omega) (by omega) (by omega)) (ev_bindc rfl ?_)
      have hsz:=itoa_size ((m/10:Nat):Int) (by omega) (by omega)
      rw[one_num _ (by omega)]
      refine ev_pos (by rw[show(⟨#[UInt8.ofNat (48+m%10)]⟩:ByteArray).size=1 from rfl];omega) ?_
      rw[itoa_pos (m/10) (by omega),itoa_pos m (by omega),show(⟨#[UInt8.ofNat (48+m%10)]⟩:ByteArray)=⟨([UInt8.ofNat (48+m%10)]:List UInt8).toArray⟩ from rfl,cat_bytes, ←decOf_step (by omega)]
      exact ev_some _
theorem l16Below_ev (d:Nat):∀m:Nat,m≠0→m<10^d→m≤9223372036854775808→d≤100→Ev (fun k=>spec_l16Below.f k (-(m:Int))) ⟨(decOf m).toArray⟩:=by
  induction d with
  |zero=>
    intro m h0 hm _ _
    exact absurd (by simpa using hm) h0
  |succ d ih=>
    intro m h0 hm hb hd
    refine ev_shift ?_;simp only[spec_l16Below.f]
    have e1:Int.tmod (-(m:Int)) 10= -((m%10:Nat):Int):=by rw[Int.neg_tmod];rfl
    have e2:Int.tdiv (-(m:Int)) 10= -((m/10:Nat):Int):=by rw[Int.neg_tdiv];rfl
    rw[e1,e2,wrap_id (x:= -((m/10:Nat):Int)) (by omega) (by omega),show(48:Int)- -((m%10:Nat):Int)=48+((m%10:Nat):Int) by omega,wrap_id (x:=48+((m%10:Nat):Int)) (by omega) (by omega),show(48+((m%10:Nat):Int))%256=((48+m%10:Nat):Int) by omega]
    refine ev_bindc rfl ?_
    rw[one_num _ (by omega)]
    by_cases h: -(m:Int)> -10
    · refine ev_pos h ?_
      rw[decOf_step h0,show m/10=0 by omega]
      exact ev_some _
    · refine ev_neg h (ev_bind (ih (m / 10) (by omega) (by rw [Nat.pow_succ] at hm; omega) (by omega) (by omega)) ?_)
      have hl:=decOf_length 20 (m/10) (by omega)
      refine ev_pos (by rw[size_bytes,show(⟨#[UInt8.ofNat (48+m%10)]⟩:ByteArray).size=1 from rfl];omega) ?_
      rw[show(⟨#[UInt8.ofNat (48+m%10)]⟩:ByteArray)=⟨([UInt8.ofNat (48+m%10)]:List UInt8).toArray⟩ from rfl,cat_bytes, ←decOf_step (by omega)]
      exact ev_some _
theorem l16Digits_ev (n:Int) (h0: -9223372036854775808≤n) (h1:n≤9223372036854775807):Ev (fun k=>spec_l16Digits.f k n) (itoaB n):=by
  simp only[spec_l16Digits.f]
  by_cases h:n<0
  · refine ev_pos h ?_
    obtain⟨m,rfl⟩:∃m:Nat,n= -(m:Int):=⟨n.natAbs,by omega⟩
    refine ev_bind (l16Below_ev 20 m (by omega) (by omega) (by omega) (by omega)) ?_
    have hl:=decOf_length 20 m (by omega)
    refine ev_pos (by rw[size_bytes];omega) ?_
    rw[itoa_neg m (by omega),show(⟨#[45]⟩:ByteArray)=⟨([45]:List UInt8).toArray⟩ from rfl,cat_bytes]
    exact ev_some _
  · refine ev_neg h ?_
    obtain⟨m,rfl⟩:∃m:Nat,n=(m:Int):=⟨n.toNat,by omega⟩
    exact ev_bind (l11Digits_ev 20 m (by omega) (by omega) (by omega)) (ev_some _)
theorem core2 (nm t:ByteArray) (c kd:Int) (hn:nm.size≤1048576) (ht:t.size≤1048576) (hc: -9223372036854775808≤c∧c≤9223372036854775807):∃x,Ev (fun j=>spec_CaptureText.f j nm t c kd) x∧impl_CaptureText.f nm t c kd=some x:=by
  simp only[spec_CaptureText.f,impl_CaptureText.f]
  have hq:=quote_size t
  have hi:=itoa_size c hc.1 hc.2
  by_cases k3:kd=3
  · exact⟨_,ev_pos k3 (ev_pos (by omega) (ev_bind (l16Digits_ev c hc.1 hc.2) (ev_pos (by omega) (ev_some _)))),by rw[if_pos k3,if_pos (by omega),impl_decimal_eq c hc.1 hc.2,Option.bind_some,if_pos (by omega)]⟩
  by_cases k1:kd=1
  · exact⟨_,ev_neg k3 (ev_pos k1 (ev_pos (by omega) (ev_bind (l11Literal_ev t ht) (ev_pos (by omega) (ev_some _))))),by rw[if_neg k3,if_pos k1,if_pos (by omega),impl_Quote_eq t ht,Option.bind_some,if_pos (by omega)]⟩
  by_cases k2:kd=2
  · exact⟨_,ev_neg k3 (ev_neg k1 (ev_pos k2 (ev_pos (by omega) (ev_bind (l11Literal_ev t ht) (ev_pos (by omega) (ev_some _)))))),by rw[if_neg k3,if_neg k1,if_pos k2,if_pos (by omega),impl_Quote_eq t ht,Option.bind_some,if_pos (by omega)]⟩
  exact⟨_,ev_neg k3 (ev_neg k1 (ev_neg k2 (ev_some _))),by rw[if_neg k3,if_neg k1,if_neg k2]⟩
theorem FnExactCaptureText:laws_FnExactCaptureText.Pure:=by
  intro x0 w_x0
  suffices hh:Ev (fun k=>laws_FnExactCaptureText.f k x0.f0 x0.f1 x0.f2 x0.f3) true by
    obtain⟨K,hK⟩:=hh
    exact⟨K,hK K (Nat.le_refl _)⟩
  simp only[laws_FnExactCaptureText.f]
  obtain⟨v1,e1,b1,q1⟩:=laws_szCapture_sz x0.f0 x0.f1 x0.f2 x0.f3 1048576 ((show WStr x0.f0∧WStr x0.f1∧(WInt .i64) x0.f2∧(WInt .i64) x0.f3 from w_x0).1) ((show WStr x0.f0∧WStr x0.f1∧(WInt .i64) x0.f2∧(WInt .i64) x0.f3 from w_x0).2.1) ((show WStr x0.f0∧WStr x0.f1∧(WInt .i64) x0.f2∧(WInt .i64) x0.f3 from w_x0).2.2.1) ((show WStr x0.f0∧WStr x0.f1∧(WInt .i64) x0.f2∧(WInt .i64) x0.f3 from w_x0).2.2.2) (by omega) (by omega)
  refine ev_bind e1 (ev_skip fun c1=>?_)
  obtain⟨g1_0,g1_1,g1_2,g1_3⟩:=q1 (by omega)
  obtain⟨v2,e2,g2⟩:=laws_toCapture_to x0.f0 x0.f1 x0.f2 x0.f3 g1_0 g1_1 g1_2 g1_3
  refine ev_bind e2 ?_
  obtain⟨r,es,ei⟩:=core2 v2.1 v2.2.1 v2.2.2.1 v2.2.2.2 (show Fine v2.1 from g2.fst) (show Fine v2.2.1 from g2.snd.fst) (show Fine v2.2.2.1 from g2.snd.snd.fst)
  refine ev_bind es (ev_bind e2 (ev_bind (ev_of_eq ei) (ev_pos rfl (ev_some _))))
end Go.Proofs.YtjmojijopammjaaDoor.Pure
