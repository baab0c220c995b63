/- The laws on reversing, trimming and padding hold. -/
import Derived.Lib.TrimByte
import Derived.Lib.Repeat
import Derived.Test.YtjmojijopammjaaDoorYToW3
import Derived.Test.YtjmojijopammjaaDoorYTextOpsO
import Derived.Test.YtjmojijopammjaaDoorYTextOpsVDraws
namespace Go.Proofs.YtjmojijopammjaaDoor.Pure
open Go.Proofs.YtjmojijopammjaaDoor.PureFnTextOps Go.RowKit Go.Proofs.YtjmojijopammjaaDoorG Go.Proofs.YtjmojijopammjaaDoor.PFnTextOps Go.Proofs.YtjmojijopammjaaDoorW.PrintWords Go.Proofs.YtjmojijopammjaaDoorW.PrintLast Go.Proofs.YtjmojijopammjaaDoorW.PrintMore
theorem text_ok2 (l:List Int) (hb:bytesP l) (hl:l.length≤1048576) (p sd:Int) (h0:0≤p) (h1:p≤2000000) (xs:List ByteArray) (h2:2≤xs.length) (h3:xs.length≤200) (h4:∀x,x∈xs→x.size≤100):∃t sd',spec_l00Src_text.f l p sd xs=some (t,p+1,sd')∧t.size≤100:=by
  obtain⟨v,sd',e,hv,hv1⟩:=pick_ok l hb hl p sd h0 h1 (xs.length:Int) (by omega) (by omega)
  simp only[spec_l00Src_text.f]
  rw[e,Option.bind_some]
  dsimp only
  rw[if_pos hv,if_pos hv1]
  obtain⟨i,rfl⟩:∃i:Nat,v=i:=⟨v.toNat,by omega⟩
  refine⟨_,_,rfl,?_⟩
  rw[rdOf_get _ _ i (by omega)]
  exact h4 _ (List.getElem_mem _)
theorem word_loop (l:List Int) (hb:bytesP l) (hl:l.length≤1048576):∀(n:Nat) (acc:List Int) (p sd:Int),acc.length+n≤100→0≤p→p+n≤2000000→
    ∃t p' sd',Ev (fun k=>spec_l00Src_word.l0 k acc (n:Int) l p sd) (t,p',sd')∧t.size≤100∧p≤p'∧p'≤p+n:=by
  intro n
  induction n with
  |zero=>
    intro acc p sd ha h0 h1
    refine⟨strOfNums acc,p,sd,?_,by rw[strOfNums_size];omega,by omega,by omega⟩
    refine ev_shift ?_;simp only[spec_l00Src_word.l0];exact ev_neg (by omega) (ev_some _)
  |succ n ih=>
    intro acc p sd ha h0 h1
    obtain⟨v,sd',e,_⟩:=next_ok l hb hl p sd h0 (by omega)
    obtain⟨t,p',sd2,h2,h3,h4,h5⟩:=ih (acc++[v%256]) (p+1) sd' (by rw[List.length_append];simp;omega) (by omega) (by omega)
    refine⟨t,p',sd2,?_,h3,by omega,by omega⟩
    refine ev_shift ?_;simp only[spec_l00Src_word.l0]
    refine ev_pos (by omega) (ev_bindc e (ev_pos (by omega) ?_))
    rw[show wrap64 (((n+1:Nat):Int)- 1)=(n:Int) by unfold wrap64;omega]
    exact h2
theorem l06_ok (l:List Int) (hb:bytesP l) (hl:l.length≤1048576) (p0 sd0:Int) (hp0:0≤p0) (hp1:p0≤1000):∃s p sd,Ev (fun k=>spec_l06Text.f k l p0 sd0) (s,p,sd)∧s.size≤100∧p0≤p∧p≤p0+100:=by
  simp only[spec_l06Text.f]
  obtain⟨b,sd,e⟩:=one_ok l hb hl p0 sd0 (by omega) (by omega) 3 (by omega) (by omega)
  cases b with
  |true=>
    obtain⟨t,sd2,e2,ht⟩:=text_ok2 l hb hl (p0+1) sd (by omega) (by omega) [(⟨#[]⟩:ByteArray),(⟨#[97]⟩:ByteArray),(⟨#[97,98]⟩:ByteArray),(⟨#[49,50]⟩:ByteArray),(⟨#[45,55]⟩:ByteArray),(⟨#[34]⟩:ByteArray),(⟨#[97,34,98]⟩:ByteArray),(⟨#[105,116,39,115]⟩:ByteArray),(⟨#[32,32,120,32]⟩:ByteArray),(⟨#[10]⟩:ByteArray),(⟨#[48,48]⟩:ByteArray),(⟨#[104,101,108,108,111,32,119,111,114,108,100]⟩:ByteArray)] (by decide) (by decide) (by decide)
    exact⟨t,p0+1+1,sd2,ev_bindc e (ev_pos rfl (ev_bindc e2 (ev_some _))),ht,by omega,by omega⟩
  |false=>
    obtain⟨v,sd2,e2,hv,hv1⟩:=pick_ok l hb hl (p0+1) sd (by omega) (by omega) 12 (by omega) (by omega)
    obtain⟨n,rfl⟩:∃n:Nat,v=n:=⟨v.toNat,by omega⟩
    obtain⟨t,p',sd3,h1,h2,h3,h4⟩:=word_loop l hb hl n [] (p0+1+1) sd2 (by simp;omega) (by omega) (by omega)
    refine⟨t,p',sd3,ev_bindc e (ev_neg Bool.false_ne_true (ev_bind (a:=(t,p',sd3)) ?_ (ev_some _))),h2,by omega,by omega⟩
    simp only[spec_l00Src_word.f]
    exact ev_bindc e2 h1
theorem trim_draw (l:List Int) (hb:bytesP l) (hl:l.length≤1048576):∃s:ByteArray,Ev (fun k=>spec_DrawTrimText.f k l) s∧s.size≤200:=by
  obtain⟨s,p,sd,e,hs,h0,h1⟩:=l06_ok l hb hl 0 0 (by omega) (by omega)
  obtain⟨a,sd2,e2,ha⟩:=text_ok2 l hb hl p sd (by omega) (by omega) [(⟨#[]⟩:ByteArray),(⟨#[32]⟩:ByteArray),(⟨#[32,32,32]⟩:ByteArray),(⟨#[97,32]⟩:ByteArray),(⟨#[32,10]⟩:ByteArray)] (by decide) (by decide) (by decide)
  refine⟨s++a,?_,by rw[ByteArray.size_append];omega⟩
  simp only[spec_DrawTrimText.f]
  exact ev_bindc (a:=(l,0,0)) rfl (ev_bind e (ev_bindc e2 (ev_pos (show s.size+a.size≤9223372036854775807 by omega) (ev_some _))))
theorem among_ok2 (l:List Int) (hb:bytesP l) (hl:l.length≤1048576) (p sd:Int) (h0:0≤p) (h1:p≤2000000):∃v sd',spec_l00Src_among.f l p sd [-1,200,201]=some (v,p+1,sd')∧ -1≤v∧v≤201:=by
  obtain⟨v,sd',e,hv,hv1⟩:=pick_ok l hb hl p sd h0 h1 (([-1,200,201]:List Int).length:Int) (by decide) (by decide)
  simp only[spec_l00Src_among.f]
  rw[e,Option.bind_some]
  dsimp only
  rw[if_pos hv,if_pos hv1]
  refine⟨_,_,rfl,?_⟩
  have:v=0∨v=1∨v=2:=by
    have:((([-1,200,201]:List Int).length:Nat):Int)=3:=rfl
    omega
  rcases this with rfl|rfl|rfl<;>decide
theorem pad_draw (l:List Int) (hb:bytesP l) (hl:l.length≤1048576):∃(x:ByteArray) (n:Int) (fill:ByteArray) (left:Bool),Ev (fun k=>spec_DrawPadText.f k l) (x,n,fill,left)∧x.size≤100∧ -1≤n∧n≤201:=by
  obtain⟨n,sd,e,hn0,hn1⟩:=pick_ok l hb hl 0 0 (by omega) (by omega) 24 (by omega) (by omega)
  obtain⟨b,sd2,e2⟩:=one_ok l hb hl (0+1) sd (by omega) (by omega) 8 (by omega) (by omega)
  have hF:∀p sd,0≤p→p≤2000000→∃t sd',spec_l00Src_text.f l p sd [(⟨#[48]⟩:ByteArray),(⟨#[32]⟩:ByteArray),(⟨#[120]⟩:ByteArray),(⟨#[]⟩:ByteArray),(⟨#[97,98]⟩:ByteArray)]=some (t,p+1,sd'):=by
    intro p sd h0 h1
    obtain⟨t,sd',e,_⟩:=text_ok2 l hb hl p sd h0 h1 [(⟨#[48]⟩:ByteArray),(⟨#[32]⟩:ByteArray),(⟨#[120]⟩:ByteArray),(⟨#[]⟩:ByteArray),(⟨#[97,98]⟩:ByteArray)] (by decide) (by decide) (by decide)
    exact⟨t,sd',e⟩
  simp only[spec_DrawPadText.f]
  cases b with
  |true=>
    obtain⟨m,sd3,e3,hm0,hm1⟩:=among_ok2 l hb hl (0+1+1) sd2 (by omega) (by omega)
    obtain⟨x,p,sd4,e4,hx,hp0,hp1⟩:=l06_ok l hb hl (0+1+1+1) sd3 (by omega) (by omega)
    obtain⟨f,sd5,e5⟩:=hF p sd4 (by omega) (by omega)
    obtain⟨c,sd6,e6⟩:=one_ok l hb hl (p+1) sd5 (by omega) (by omega) 2 (by omega) (by omega)
    exact⟨x,m,f,c,ev_bindc (a:=(l,0,0)) rfl (ev_bindc e (ev_bindc e2 (ev_pos rfl (ev_bindc e3 (ev_bind e4 (ev_bindc e5 (ev_bindc e6 (ev_some _)))))))),hx,hm0,hm1⟩
  |false=>
    obtain⟨x,p,sd4,e4,hx,hp0,hp1⟩:=l06_ok l hb hl (0+1+1) sd2 (by omega) (by omega)
    obtain⟨f,sd5,e5⟩:=hF p sd4 (by omega) (by omega)
    obtain⟨c,sd6,e6⟩:=one_ok l hb hl (p+1) sd5 (by omega) (by omega) 2 (by omega) (by omega)
    exact⟨x,n,f,c,ev_bindc (a:=(l,0,0)) rfl (ev_bindc e (ev_bindc e2 (ev_neg Bool.false_ne_true (ev_bind e4 (ev_bindc e5 (ev_bindc e6 (ev_some _))))))),hx,by omega,by omega⟩
theorem rd_q (l:List Int) (i:Nat) (h:i<l.length):l[i]?=some (rd l (i:Int)):=by
  rw[rd_get l i h];exact List.getElem?_eq_getElem h
def Half (xs zs:List Int) (i:Nat):Prop:=zs.length=xs.length∧∀m,m<xs.length→zs[m]?=if m<i∨xs.length≤m+i then xs[xs.length- 1-m]? else xs[m]?
theorem half_done {xs zs:List Int} {i:Nat} (h:Half xs zs i) (hi:xs.length≤2*i+1):zs=xs.reverse:=by
  apply List.ext_getElem?
  intro m
  by_cases hm:m<xs.length
  · rw [h.2 m hm, List.getElem?_reverse (by omega)]
    split
    · rfl
    · have : xs.length - 1 - m = m := by omega
      rw[this]
  · rw[List.getElem?_eq_none (by rw[h.1];omega),List.getElem?_eq_none (by simp;omega)]
theorem half_step {xs zs:List Int} {i:Nat} (h:Half xs zs i) (hi:2*i+1<xs.length):Half xs ((zs.set i (rd zs ((xs.length- 1-i:Nat):Int))).set (xs.length- 1-i) (rd zs (i:Int))) (i+1):=by
  have h1:=h.1
  refine⟨by rw[List.length_set,List.length_set];exact h1,fun m hm=>?_⟩
  have a1:=rd_q zs i (by omega)
  have a2:=rd_q zs (xs.length- 1-i) (by omega)
  rw[h.2 i (by omega),if_neg (by omega)]at a1
  rw[h.2 (xs.length- 1-i) (by omega),if_neg (by omega)]at a2
  rw[List.getElem?_set,List.getElem?_set]
  by_cases c1:xs.length- 1-i=m
  · rw [if_pos c1, if_pos (by rw [List.length_set]; omega), ← a1, if_pos (by omega)]
    congr 1;omega
  · rw [if_neg c1]
    by_cases c2:i=m
    · rw [if_pos c2, if_pos (by omega), ← a2, if_pos (by omega)]
      congr 1;omega
    · rw [if_neg c2, h.2 m hm]
      by_cases c3:m<i∨xs.length≤m+i
      · rw[if_pos c3,if_pos (by omega)]
      · rw[if_neg c3,if_neg (by omega)]
theorem rv_ev (xs:List Int) (hn:xs.length≤1048576):∀d i zs,xs.length≤2*i+d→i≤xs.length→Half xs zs i→Ev (fun k=>impl_ReverseText.rv k zs (i:Int) ((xs.length:Int)- 1-(i:Int))) xs.reverse:=by
  intro d
  induction d with
  |zero=>
    intro i zs hd hi h
    refine ev_shift ?_;simp only[impl_ReverseText.rv]
    rw[←half_done h (by omega)]
    exact ev_neg (by omega) (ev_some _)
  |succ d ih=>
    intro i zs hd hi h
    refine ev_shift ?_;simp only[impl_ReverseText.rv]
    by_cases c:(i:Int)<(xs.length:Int)- 1-(i:Int)
    · have h1 := h.1
      refine ev_pos c (ev_pos (by omega) (ev_pos (by omega) ?_))
      have hw:wrap64 ((xs.length:Int)- 1-(i:Int)- 1)=(xs.length:Int)- 1-((i+1:Nat):Int):=by unfold wrap64;omega
      have hw2:wrap64 ((i:Int)+1)=((i+1:Nat):Int):=by unfold wrap64;omega
      have he:(xs.length:Int)- 1-(i:Int)=((xs.length- 1-i:Nat):Int):=by omega
      rw[hw,hw2,he,Int.toNat_natCast,Int.toNat_natCast]
      exact ih (i+1) _ (by omega) (by omega) (half_step h (by omega))
    · rw [← half_done h (by omega)]
      exact ev_neg c (ev_some _)
theorem reverse_ev (s:ByteArray) (hs:s.size≤1048576):Ev (fun k=>impl_ReverseText.f k s) (strOfNums (bytesOf s).reverse):=by
  have hl:(bytesOf s).length=s.size:=bytes_size s
  simp only[impl_ReverseText.f]
  refine ev_pos (by omega) (ev_bind (a:=(bytesOf s).reverse) ?_ (ev_some _))
  have h:=rv_ev (bytesOf s) (by omega) (bytesOf s).length 0 (bytesOf s) (by omega) (by omega) ⟨rfl,fun m hm=>by rw[if_neg (by omega)]⟩
  rw[show wrap64 ((s.size:Int)- 1)=((bytesOf s).length:Int)- 1-((0:Nat):Int) by rw[hl];unfold wrap64;omega]
  exact h
theorem bytes_of_nums (l:List UInt8):bytesOf (strOfNums (l.map fun b=>(b.toNat:Int)))=l.map fun b=>(b.toNat:Int):=by
  have h:((fun n:Int=>UInt8.ofNat n.toNat)∘fun b:UInt8=>(b.toNat:Int))=id:=by funext b;simp
  simp[strOfNums,bytesOf,h]
theorem str_of_bytes (s:ByteArray):strOfNums (bytesOf s)=s:=by
  have h:((fun n:Int=>UInt8.ofNat n.toNat)∘fun b:UInt8=>(b.toNat:Int))=id:=by funext b;simp
  simp[strOfNums,bytesOf,h]
theorem reverse_twice (s:ByteArray):strOfNums (bytesOf (strOfNums (bytesOf s).reverse)).reverse=s:=by
  have e:(bytesOf s).reverse=s.data.toList.reverse.map fun b=>(b.toNat:Int):=by simp[bytesOf]
  rw[e,bytes_of_nums, ←e,List.reverse_reverse,str_of_bytes]
theorem reverse_size (s:ByteArray):(strOfNums (bytesOf s).reverse).size=s.size:=by
  rw[strOfNums_size,List.length_reverse];exact bytes_size s
theorem drop_idem (p : UInt8 → Bool) : ∀ l : List UInt8, (l.dropWhile p).dropWhile p = l.dropWhile p
  |[]=>rfl
  |b::l=>by
    cases h:p b with
    |true=>simp only[List.dropWhile_cons,h,if_true];exact drop_idem p l
    |false=>simp[List.dropWhile_cons,h]
theorem trim_idem (l:List UInt8) (c:UInt8):Lib.trimRightB (Lib.trimRightB l c) c=Lib.trimRightB l c:=by
  unfold Lib.trimRightB
  rw[List.reverse_reverse,drop_idem]
theorem trim_prefix (l:List UInt8) (c:UInt8):l=Lib.trimRightB l c++(l.reverse.takeWhile (· ==c)).reverse:=by
  unfold Lib.trimRightB
  rw[←List.reverse_append,List.takeWhile_append_dropWhile,List.reverse_reverse]
def trimS (s:ByteArray):ByteArray:=⟨(Lib.trimRightB s.data.toList 32).toArray⟩
theorem trim_eq (s:ByteArray) (hs:s.size≤1048576):impl_TrimText.f s=some (trimS s):=by
  simp only[impl_TrimText.f,strings_TrimRight.f]
  rw[if_pos (by rw[Go.ByteArray.toList_eq]),if_pos (by omega),Option.bind_some];rfl
theorem trim_size (s:ByteArray):(trimS s).size≤s.size:=by
  have h:=congrArg List.length (trim_prefix s.data.toList 32)
  rw[List.length_append]at h
  have e:s.data.toList.length=s.size:=by simp
  have e2:(trimS s).size=(Lib.trimRightB s.data.toList 32).length:=by show(Lib.trimRightB s.data.toList 32).toArray.size=_;simp
  omega
theorem trim_twice (s:ByteArray):trimS (trimS s)=trimS s:=by
  unfold trimS;simp only[trim_idem]
theorem trim_head (s:ByteArray):s.extract 0 (trimS s).size=trimS s:=by
  apply ByteArray.ext
  apply Array.toList_inj.1
  have e2:(trimS s).size=(Lib.trimRightB s.data.toList 32).length:=by show(Lib.trimRightB s.data.toList 32).toArray.size=_;simp
  rw[ByteArray.data_extract,Array.toList_extract,e2]
  show(s.data.toList.drop 0).take _=Lib.trimRightB s.data.toList 32
  rw[List.drop_zero,Nat.sub_zero]
  have h:=trim_prefix s.data.toList 32
  have h2:(Lib.trimRightB s.data.toList 32++(s.data.toList.reverse.takeWhile (· ==32)).reverse).take (Lib.trimRightB s.data.toList 32).length=Lib.trimRightB s.data.toList 32:=by simp
  rw[←h]at h2
  exact h2
theorem rep_size (s:ByteArray) (n:Nat):(⟨(Lib.repeatL s.data.toList n).toArray⟩:ByteArray).size=n*s.size:=by
  show(Lib.repeatL s.data.toList n).toArray.size=_
  simp[Lib.repeatL_length]
theorem pad_ok (x:ByteArray) (n:Int) (fill:ByteArray) (left:Bool) (hx:x.size≤100) (h0: -1≤n) (h1:n≤201):
    ∃y ok,Ev (fun k=>impl_PadText.f k x n fill left) (y,ok)∧((ok=false∧(n<0∨n>200∨¬(fill.size:Int)=1))∨(ok=true∧∃r:ByteArray,(y.size:Int)=mx n (x.size:Int)∧y=if left=true then r++x else x++r)):=by
  have hB:∀b:Bool,b=true→Ev (fun k=>impl_PadText.j0 k x n fill left b) ((⟨#[]⟩:ByteArray),false):=by
    intro b hb
    refine ev_shift ?_;simp only[impl_PadText.j0];exact ev_pos hb (ev_some _)
  simp only[impl_PadText.f]
  by_cases c:0≤n∧n≤200
  · by_cases cf : (fill.size : Int) = 1
    · have hw : wrap64 (n - (x.size : Int)) = n - (x.size : Int) := by unfold wrap64; omega
      obtain⟨m,hm⟩:∃m:Nat,mx 0 (n-(x.size:Int))=(m:Int)∧m≤200∧((m:Int)+x.size=mx n (x.size:Int)):=by
        unfold mx
        refine⟨(n-(x.size:Int)).toNat,?_,by omega,?_⟩<;>(repeat split)<;>omega
      refine⟨_,true,ev_bind (a:=true) (ev_of_eq ?_) (ev_pos rfl ?_),Or.inr ⟨rfl,⟨(Lib.repeatL fill.data.toList m).toArray⟩,?_,rfl⟩⟩
      · simp only[impl_within.f];rw[if_pos c.1];simp[c.2]
      · rw [show ((fill.size : Int) != 1) = false from bne_eq_false_iff_eq.2 cf]
        have hr:=rep_size fill m
        have hf:fill.size=1:=by omega
        rw[hf,Nat.mul_one]at hr
        refine ev_shift ?_;simp only[impl_PadText.j0]
        refine ev_neg Bool.false_ne_true (ev_bindc (a:=(⟨(Lib.repeatL fill.data.toList m).toArray⟩:ByteArray)) ?_ ?_)
        · simp only [strings_Repeat.f]
          rw[hw,hm.1,if_pos (by omega),if_pos (by omega),if_pos (by rw[hf,Int.toNat_natCast];omega),Int.toNat_natCast]
        · cases left with
          |true=>exact ev_pos rfl (ev_pos (by omega) (ev_some _))
          |false=>exact ev_neg Bool.false_ne_true (ev_pos (by omega) (ev_some _))
      · have hr := rep_size fill m
        have hf:fill.size=1:=by omega
        rw[hf,Nat.mul_one]at hr
        have:=hm.2.2
        cases left with
        |true=>rw[if_pos rfl,ByteArray.size_append,hr];omega
        |false=>rw[if_neg Bool.false_ne_true,ByteArray.size_append,hr];omega
    · refine ⟨_, false, ev_bind (a := true) (ev_of_eq ?_) (ev_pos rfl (hB _ (bne_iff_ne.2 cf))), Or.inl ⟨rfl, Or.inr (Or.inr cf)⟩⟩
      simp only[impl_within.f];rw[if_pos c.1];simp[c.2]
  · refine ⟨_, false, ev_bind (a := false) (ev_of_eq ?_) (ev_neg Bool.false_ne_true (hB _ rfl)), Or.inl ⟨rfl, by omega⟩⟩
    simp only[impl_within.f]
    by_cases c0:n≥0
    · rw[if_pos c0];simp;omega
    · rw[if_neg c0]
theorem FnTextOps:laws_FnTextOps.Pure:=by
  intro l hl
  suffices hh:Ev (fun k=>laws_FnTextOps.f k l) true by
    obtain⟨K,hK⟩:=hh
    exact⟨K,hK K (Nat.le_refl _)⟩
  have hb':bytesP l:=by
    intro x hx
    have:=hl.2 x hx
    simp[WInt,Lit.wf,IntKind.min,IntKind.max,IntKind.signed,IntKind.bits]at this
    omega
  simp only[laws_FnTextOps.f,laws_c2Long.f,Option.bind_some]
  by_cases c:(l.length:Int)>1048576
  · exact ev_pos (by simpa using c) (ev_some _)
  refine ev_neg (by simpa using c) ?_
  have hlen:l.length≤1048576:=by omega
  obtain⟨s,es,hs⟩:=trim_draw l hb' hlen
  have r1:=reverse_ev s (by omega)
  have r2:=reverse_ev (strOfNums (bytesOf s).reverse) (by rw[reverse_size];omega)
  rw[reverse_twice]at r2
  have ts:=trim_size s
  refine ev_bind es (ev_bind r1 (ev_bind r2 (ev_pos rfl (ev_bindc (trim_eq s (by omega)) (ev_neg (by omega) (ev_bindc (trim_eq (trimS s) (by omega)) (ev_pos (by rw[trim_twice]) (ev_pos (by omega) (ev_pos (by omega) ?_)))))))))
  rw[show((trimS s).size:Int).toNat=(trimS s).size from Int.toNat_natCast _,trim_head]
  have J:∀b:Bool,b=false→Ev (fun k=>laws_FnTextOps.j0 k l b) true:=by
    intro b hb0
    obtain⟨x,n,fill,left,ed,hx,hn0,hn1⟩:=pad_draw l hb' hlen
    obtain⟨y,ok,ep,hp⟩:=pad_ok x n fill left hx hn0 hn1
    refine ev_shift ?_;simp only[laws_FnTextOps.j0]
    refine ev_neg (by rw[hb0];exact Bool.false_ne_true) (ev_bind ed (ev_bind ep ?_))
    rcases hp with⟨rfl,h⟩|⟨rfl,r,hy,he⟩
    · refine ev_neg Bool.false_ne_true ?_
      by_cases c1:n<0
      · exact ev_pos c1 (ev_some _)
      · refine ev_neg c1 ?_
        by_cases c2:n>200
        · exact ev_pos c2 (ev_some _)
        · refine ev_neg c2 (ev_of_eq ?_)
          rw[show((fill.size:Int) !=1)=true from bne_iff_ne.2 (by omega)]
    · refine ev_pos rfl (ev_pos hy ?_)
      have hsz:y.size=x.size+r.size:=by
        rw[he];split<;>rw[ByteArray.size_append]<;>omega
      have J1:∀b:Bool,b=false→Ev (fun k=>laws_FnTextOps.j1 k x left y b) true:=by
        intro b hb1
        refine ev_shift ?_;simp only[laws_FnTextOps.j1]
        refine ev_neg (by rw[hb1];exact Bool.false_ne_true) ?_
        have hys:y.size≤301:=by
          have:mx n (x.size:Int)≤301:=by unfold mx;split<;>omega
          omega
        cases left with
        |true=>
          have hw:wrap64 ((y.size:Int)-(x.size:Int))=((y.size-x.size:Nat):Int):=by unfold wrap64;omega
          rw[hw]
          refine ev_pos rfl (ev_pos (by omega) (ev_pos (by omega) (ev_of_eq ?_)))
          rw[Int.toNat_natCast]
          have e:y.extract (y.size-x.size) y.size=x:=by
            rw[if_pos rfl]at he
            subst he
            apply ByteArray.ext
            apply Array.toList_inj.1
            have e2:(r++x).size-x.size=r.data.toList.length:=by rw[ByteArray.size_append];simp
            rw[ByteArray.data_extract,Array.toList_extract,e2]
            have e3:x.data.toList.length=x.size:=by simp
            simp[ByteArray.data_append]
            exact List.take_of_length_le (by omega)
          rw[e];simp
        |false=>
          refine ev_neg Bool.false_ne_true (ev_pos (by omega) (ev_pos (by omega) (ev_of_eq ?_)))
          rw[Int.toNat_natCast]
          have e:y.extract 0 x.size=x:=by
            rw[if_neg Bool.false_ne_true]at he
            subst he
            apply ByteArray.ext
            apply Array.toList_inj.1
            have e2:x.size=x.data.toList.length:=by simp
            rw[ByteArray.data_extract,Array.toList_extract,e2]
            simp[ByteArray.data_append]
          rw[e];simp
      refine J1 _ ?_
      have hlt:¬(y.size:Int)<(x.size:Int):=by omega
      exact decide_eq_false hlt
  exact J _ (by simp)
end Go.Proofs.YtjmojijopammjaaDoor.Pure
