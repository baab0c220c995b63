/- Printed functions: impl_Pattern_isPlainKind. -/
import Derived.Test.YtdihlgkcpooadaaYIpP0
namespace Go.Proofs.Ytdihlgkcpooadaa.PFnExactIsPure
open Go.RowKit Go.Proofs.YtdihlgkcpooadaaG Go.Proofs.YtdihlgkcpooadaaW.PrintWords Go.Proofs.YtdihlgkcpooadaaW.PrintLast Go.Proofs.YtdihlgkcpooadaaW.PrintMore
attribute [local go_sem] max2_int min2_int max_two min_two max_three min_three max_four min_four
set_option linter.unusedVariables false
set_option linter.unusedSimpArgs false
mutual
def impl_Pattern_isPlainKind.f : Nat → Int → Int → ByteArray → List (S36) → Option (Bool)
  |0,_,_,_,_=>none
  |k+1,a0_0,a0_1,a0_2,l0_3=>if a0_0=14 then(some false)else(if a0_0=15 then(some false)else(if a0_0=17 then(some false)else(if a0_0=22 then(some false)else(if a0_0=23 then(some false)else((impl_Pattern__impl_Pattern_isPlainKind.f k l0_3).bind fun t344=>(some t344))))))
def impl_Pattern__impl_Pattern_isPlainKind.l0 : Nat → List (S36) → Int → Int → Option (Bool)
  |0,_,_,_=>none
  |k+1,x7,x8,x9=>if x9<x8 then(if 0≤x9 then(if x9<(x7.length:Int)then((impl_Pattern_isPlainKind.f k ((rd_T36 x7 x9).f0) ((rd_T36 x7 x9).f1) ((rd_T36 x7 x9).f2) ((rd_T36 x7 x9).f3)).bind fun t347=>(if t347=true then(impl_Pattern__impl_Pattern_isPlainKind.l0 k x7 x8 (wrap64 (x9+1)))else(some false)))else(none))else(none))else(some true)
def impl_Pattern__impl_Pattern_isPlainKind.f : Nat → List (S36) → Option (Bool)
  |0,_=>none
  |k+1,l0=>impl_Pattern__impl_Pattern_isPlainKind.l0 k l0 (l0.length:Int) 0
end
theorem impl_Pattern_isPlainKind.mono_scc : ∀ k, (∀ a b c l, LeO (impl_Pattern_isPlainKind.f k a b c l) (impl_Pattern_isPlainKind.f (k + 1) a b c l)) ∧ (∀ a, LeO (impl_Pattern__impl_Pattern_isPlainKind.f k a) (impl_Pattern__impl_Pattern_isPlainKind.f (k + 1) a)) ∧ (∀ a b c, LeO (impl_Pattern__impl_Pattern_isPlainKind.l0 k a b c) (impl_Pattern__impl_Pattern_isPlainKind.l0 (k + 1) a b c))
  |0=>⟨fun _ _ _ _ r h=>by simp[impl_Pattern_isPlainKind.f]at h,fun _ r h=>by simp[impl_Pattern__impl_Pattern_isPlainKind.f]at h,fun _ _ _ r h=>by simp[impl_Pattern__impl_Pattern_isPlainKind.l0]at h⟩
  |k+1=>by
    obtain⟨d,i,j⟩:=impl_Pattern_isPlainKind.mono_scc k
    refine⟨?_,?_,?_⟩
    · intro a b c l
      unfold impl_Pattern_isPlainKind.f
      repeat' first
      |(with_reducible exact d _ _ _ _)
      |(with_reducible exact i _)
      |(with_reducible exact j _ _ _)
      |(with_reducible exact LeO.refl _)
      |(with_reducible exact LeO.none _)
      |(with_reducible refine LeO.ite ?_ ?_)
      |(with_reducible refine LeO.bind ?_ (fun _=>?_))
      |exact d _ _ _ _
      |exact i _
      |exact j _ _ _
      |exact LeO.none _
      |refine LeO.ite ?_ ?_
      |refine LeO.bind ?_ (fun _=>?_)
    · intro a
      unfold impl_Pattern__impl_Pattern_isPlainKind.f
      repeat' first
      |(with_reducible exact d _ _ _ _)
      |(with_reducible exact i _)
      |(with_reducible exact j _ _ _)
      |(with_reducible exact LeO.refl _)
      |(with_reducible exact LeO.none _)
      |(with_reducible refine LeO.ite ?_ ?_)
      |(with_reducible refine LeO.bind ?_ (fun _=>?_))
      |exact d _ _ _ _
      |exact i _
      |exact j _ _ _
      |exact LeO.none _
      |refine LeO.ite ?_ ?_
      |refine LeO.bind ?_ (fun _=>?_)
    · intro a b c
      unfold impl_Pattern__impl_Pattern_isPlainKind.l0
      repeat' first
      |(with_reducible exact d _ _ _ _)
      |(with_reducible exact i _)
      |(with_reducible exact j _ _ _)
      |(with_reducible exact LeO.refl _)
      |(with_reducible exact LeO.none _)
      |(with_reducible refine LeO.ite ?_ ?_)
      |(with_reducible refine LeO.bind ?_ (fun _=>?_))
      |exact d _ _ _ _
      |exact i _
      |exact j _ _ _
      |exact LeO.none _
      |refine LeO.ite ?_ ?_
      |refine LeO.bind ?_ (fun _=>?_)
theorem impl_Pattern_isPlainKind.mono:∀a b c d k,LeO (impl_Pattern_isPlainKind.f k a b c d) (impl_Pattern_isPlainKind.f (k+1) a b c d):=fun a b c d k=>(impl_Pattern_isPlainKind.mono_scc k).1 a b c d
theorem impl_Pattern__impl_Pattern_isPlainKind.mono:∀a k,LeO (impl_Pattern__impl_Pattern_isPlainKind.f k a) (impl_Pattern__impl_Pattern_isPlainKind.f (k+1) a):=fun a k=>(impl_Pattern_isPlainKind.mono_scc k).2.1 a
set_option maxHeartbeats 8000000 in
set_option maxRecDepth 100000 in
theorem impl_Pattern_isPlainKind.step (k:Nat) (ih_impl_Pattern_isPlainKind:∀m,m<k+1→∀(a0_0:Int) (a0_1:Int) (a0_2:ByteArray) (A0_3:Option Addr) (c0_3:Nat) (l0_3:List (S36)) (r:Bool) (w:World) (hr0_3:Kd.C k36 w A0_3 l0_3.length l0_3) (hc0_3:l0_3.length≤c0_3) (h:impl_Pattern_isPlainKind.f m a0_0 a0_1 a0_2 l0_3=some r),
    Calls Try.prog 38 #[.agg #[.int .i64 a0_0,.int .i64 a0_1,.string a0_2,.slice A0_3 l0_3.length c0_3]] w fun e w'=>e= .returned (.bool r)∧Below w.heap.size w w') (ih_impl_Pattern__impl_Pattern_isPlainKind:∀m,m<k+1→∀(A0:Option Addr) (c0:Nat) (l0:List (S36)) (r:Bool) (w:World) (hr0:Kd.C k36 w A0 l0.length l0) (hc0:l0.length≤c0) (h:impl_Pattern__impl_Pattern_isPlainKind.f m l0=some r),
    Calls Try.prog 39 #[.slice A0 l0.length c0,.func (.func 38) #[] #[]] w fun e w'=>e= .returned (.bool r)∧Below w.heap.size w w'):∀(a0_0:Int) (a0_1:Int) (a0_2:ByteArray) (A0_3:Option Addr) (c0_3:Nat) (l0_3:List (S36)) (r:Bool) (w:World) (hr0_3:Kd.C k36 w A0_3 l0_3.length l0_3) (hc0_3:l0_3.length≤c0_3) (h:impl_Pattern_isPlainKind.f (k+1) a0_0 a0_1 a0_2 l0_3=some r),
    Calls Try.prog 38 #[.agg #[.int .i64 a0_0,.int .i64 a0_1,.string a0_2,.slice A0_3 l0_3.length c0_3]] w fun e w'=>e= .returned (.bool r)∧Below w.heap.size w w':=by
 intro a0_0 a0_1 a0_2 A0_3 c0_3 l0_3 r w hr0_3 hc0_3 h
 simp only[impl_Pattern_isPlainKind.f]at h
 have x:=Try.underlying36
 have s:=zM hr0_3
 have u:=zM hc0_3
 clear hr0_3 hc0_3
 have HB:=zM (Below.refl w.heap.size w)
 have H:(if a0_0=14 then(some false)else(if a0_0=15 then(some false)else(if a0_0=17 then(some false)else(if a0_0=22 then(some false)else(if a0_0=23 then(some false)else((impl_Pattern__impl_Pattern_isPlainKind.f k l0_3).bind fun q=>(some q)))))))=some r:=h
 clear h
 by_cases b:a0_0=14
 ·(
 rw[if_pos b]at H
 have c2b0:(a0_0==14)=true:=zE b
 have c2b1:(a0_0 !=14)=false:=zY b
 clear b
 obtain rfl:=zI H
 go_enter Try.func38,Try.ntmps38
 go_wp2_with (first|((with_reducible refine gate_dst (N:=1) rfl ?_);refine sV (N:=1) (cs:= #[.int .i64 a0_0,.int .i64 a0_1,.string a0_2,.slice A0_3 l0_3.length c0_3]) (t:=36) ?_;intro l hg y hbox hb;have a:=zM (hbox);have n:=sG HB hg;have p:=sG HB hg;replace HB:=sB HB hb;clear hb hbox hg;obtain⟨z,A,B,D,E,F,G,I⟩:=cells4 a.out))
 go_ret
 exact⟨sq,sb⟩)
 rw[if_neg b]at H
 have c2b0:(a0_0==14)=false:=zN b
 have c2b1:(a0_0 !=14)=true:=zX b
 by_cases c:a0_0=15
 ·(
 rw[if_pos c]at H
 have c5b0:(a0_0==15)=true:=zE c
 have c5b1:(a0_0 !=15)=false:=zY c
 clear c
 obtain rfl:=zI H
 go_enter Try.func38,Try.ntmps38
 go_wp2_with (first|((with_reducible refine gate_dst (N:=1) rfl ?_);refine sV (N:=1) (cs:= #[.int .i64 a0_0,.int .i64 a0_1,.string a0_2,.slice A0_3 l0_3.length c0_3]) (t:=36) ?_;intro l hg J hbox hb;have a:=zM (hbox);have n:=sG HB hg;have p:=sG HB hg;replace HB:=sB HB hb;clear hb hbox hg;obtain⟨K,L,M,O,P,Q,R,S⟩:=cells4 a.out))
 go_ret
 exact⟨sq,sb⟩)
 rw[if_neg c]at H
 have c5b0:(a0_0==15)=false:=zN c
 have c5b1:(a0_0 !=15)=true:=zX c
 by_cases d:a0_0=17
 ·(
 rw[if_pos d]at H
 have c8b0:(a0_0==17)=true:=zE d
 have c8b1:(a0_0 !=17)=false:=zY d
 clear d
 obtain rfl:=zI H
 go_enter Try.func38,Try.ntmps38
 go_wp2_with (first|((with_reducible refine gate_dst (N:=1) rfl ?_);refine sV (N:=1) (cs:= #[.int .i64 a0_0,.int .i64 a0_1,.string a0_2,.slice A0_3 l0_3.length c0_3]) (t:=36) ?_;intro l hg T hbox hb;have a:=zM (hbox);have n:=sG HB hg;have p:=sG HB hg;replace HB:=sB HB hb;clear hb hbox hg;obtain⟨U,V,W,X,Y,Z,aa,ab⟩:=cells4 a.out))
 go_ret
 exact⟨sq,sb⟩)
 rw[if_neg d]at H
 have c8b0:(a0_0==17)=false:=zN d
 have c8b1:(a0_0 !=17)=true:=zX d
 by_cases i:a0_0=22
 ·(
 rw[if_pos i]at H
 have c11b0:(a0_0==22)=true:=zE i
 have c11b1:(a0_0 !=22)=false:=zY i
 clear i
 obtain rfl:=zI H
 go_enter Try.func38,Try.ntmps38
 go_wp2_with (first|((with_reducible refine gate_dst (N:=1) rfl ?_);refine sV (N:=1) (cs:= #[.int .i64 a0_0,.int .i64 a0_1,.string a0_2,.slice A0_3 l0_3.length c0_3]) (t:=36) ?_;intro l hg ac hbox hb;have a:=zM (hbox);have n:=sG HB hg;have p:=sG HB hg;replace HB:=sB HB hb;clear hb hbox hg;obtain⟨ad,ae,af,ag,ah,ai,aj,ak⟩:=cells4 a.out))
 go_ret
 exact⟨sq,sb⟩)
 rw[if_neg i]at H
 have c11b0:(a0_0==22)=false:=zN i
 have c11b1:(a0_0 !=22)=true:=zX i
 by_cases j:a0_0=23
 ·(
 rw[if_pos j]at H
 have c14b0:(a0_0==23)=true:=zE j
 have c14b1:(a0_0 !=23)=false:=zY j
 clear j
 obtain rfl:=zI H
 go_enter Try.func38,Try.ntmps38
 go_wp2_with (first|((with_reducible refine gate_dst (N:=1) rfl ?_);refine sV (N:=1) (cs:= #[.int .i64 a0_0,.int .i64 a0_1,.string a0_2,.slice A0_3 l0_3.length c0_3]) (t:=36) ?_;intro l hg al hbox hb;have a:=zM (hbox);have n:=sG HB hg;have p:=sG HB hg;replace HB:=sB HB hb;clear hb hbox hg;obtain⟨am,an,ao,ap,aq,ar,au,av⟩:=cells4 a.out))
 go_ret
 exact⟨sq,sb⟩)
 rw[if_neg j]at H
 have c14b0:(a0_0==23)=false:=zN j
 have c14b1:(a0_0 !=23)=true:=zX j
 obtain⟨q,v,H⟩:=sO H
 obtain rfl:=zI H
 go_enter Try.func38,Try.ntmps38
 go_wp2_with (first|((with_reducible refine gate_dst (N:=1) rfl ?_);refine sV (N:=1) (cs:= #[.int .i64 a0_0,.int .i64 a0_1,.string a0_2,.slice A0_3 l0_3.length c0_3]) (t:=36) ?_;intro l hg aw hbox hb;have a:=zM (hbox);have n:=sG HB hg;have p:=sG HB hg;replace HB:=sB HB hb;clear hb hbox hg;obtain⟨ax,ay,az,aA,aB,aC,aD,aE⟩:=cells4 a.out)|((with_reducible refine gate_callee (f:=39) rfl ?_);refine sC (some 13) Try.func39 #[.slice A0_3 l0_3.length c0_3,.func (.func 38) #[] #[]] (ih_impl_Pattern__impl_Pattern_isPlainKind k (by omega) _ _ l0_3 q _ ?side1 ?side2 v.out) ?_;(case side1=>exact sD (zC s.out HB.out));(case side2=>exact u.out);rintro e aF ⟨rfl,hb⟩;refine⟨_,rfl,?_⟩;replace a:=sK a hb;replace HB:=sB HB hb;(try clear hb)))
 go_ret
 exact⟨sq,sb⟩
set_option maxHeartbeats 8000000 in
set_option maxRecDepth 100000 in
theorem impl_Pattern__impl_Pattern_isPlainKind.step (k:Nat) (ih_impl_Pattern_isPlainKind:∀m,m<k+1→∀(a0_0:Int) (a0_1:Int) (a0_2:ByteArray) (A0_3:Option Addr) (c0_3:Nat) (l0_3:List (S36)) (r:Bool) (w:World) (hr0_3:Kd.C k36 w A0_3 l0_3.length l0_3) (hc0_3:l0_3.length≤c0_3) (h:impl_Pattern_isPlainKind.f m a0_0 a0_1 a0_2 l0_3=some r),
    Calls Try.prog 38 #[.agg #[.int .i64 a0_0,.int .i64 a0_1,.string a0_2,.slice A0_3 l0_3.length c0_3]] w fun e w'=>e= .returned (.bool r)∧Below w.heap.size w w') (ih_impl_Pattern__impl_Pattern_isPlainKind:∀m,m<k+1→∀(A0:Option Addr) (c0:Nat) (l0:List (S36)) (r:Bool) (w:World) (hr0:Kd.C k36 w A0 l0.length l0) (hc0:l0.length≤c0) (h:impl_Pattern__impl_Pattern_isPlainKind.f m l0=some r),
    Calls Try.prog 39 #[.slice A0 l0.length c0,.func (.func 38) #[] #[]] w fun e w'=>e= .returned (.bool r)∧Below w.heap.size w w'):∀(A0:Option Addr) (c0:Nat) (l0:List (S36)) (r:Bool) (w:World) (hr0:Kd.C k36 w A0 l0.length l0) (hc0:l0.length≤c0) (h:impl_Pattern__impl_Pattern_isPlainKind.f (k+1) l0=some r),
    Calls Try.prog 39 #[.slice A0 l0.length c0,.func (.func 38) #[] #[]] w fun e w'=>e= .returned (.bool r)∧Below w.heap.size w w':=by
 intro A0 c0 l0 r w hr0 hc0 h
 simp only[impl_Pattern__impl_Pattern_isPlainKind.f]at h
 have P:=Try.underlying36
 have I:=zM hr0
 have Q:=zM hc0
 clear hr0 hc0
 have HB:=zM (Below.refl w.heap.size w)
 have H:(impl_Pattern__impl_Pattern_isPlainKind.l0 k l0 (l0.length:Int) 0)=some r:=h
 clear h
 have H':=zM H
 clear H
 go_enter Try.func39,Try.ntmps39
 go_wp2
 go_loopg [9] k (fun kq K w'=>∃(a:Int),K= .int .i64 a∧Aside0 (impl_Pattern__impl_Pattern_isPlainKind.l0 kq l0 (l0.length:Int) a=some r)∧Aside0 (kq≤k)∧Aside0 (Below w.heap.size w w'))
 case atStart=>exact⟨(0),sr,H',⟨Nat.le_refl _⟩,⟨sb⟩⟩
 case round=>(
 clear H'
 obtain⟨a,rfl,HA,u,HB⟩:=hrel
 cases gk with
 |zero=>exact absurd HA.out (by simp[impl_Pattern__impl_Pattern_isPlainKind.l0])
 |succ k1=>(
 have H:=HA.out
 clear HA
 simp only[impl_Pattern__impl_Pattern_isPlainKind.l0]at H
 by_cases i:a<(l0.length:Int)
 ·(
 rw[if_pos i]at H
 have c3b0:=zT i
 clear i
 by_cases v:0≤a
 ·(
 rw[if_pos v]at H
 have c4b0:=zT v
 clear v
 by_cases x:a<(l0.length:Int)
 ·(
 rw[if_pos x]at H
 have c5b0:=zT x
 clear x
 obtain⟨L,J,H⟩:=sO H
 by_cases y:L=true
 ·(
 subst y
 rewrite[if_pos rfl]at H
 have H':=zM H
 clear H
 have b:0≤(a:Int):=zzA
 have c:a<(l0.length:Int):=zzA
 obtain⟨M,z,A,B,j,l,n,p,q,s⟩:=at_T36 I.out a b c
 cases B
 replace j:=sX HB j
 replace l:=sX HB l
 replace n:=sX HB n
 replace p:=sX HB p
 have D:=zM s
 have E:=zM q
 clear s q
 replace b:=eq_true b
 replace c:=eq_true c
 go_wp2_with (first|((with_reducible refine gate_dst (N:=6) rfl ?_);refine sV (N:=6) (cs:= #[.int .i64 0,.int .i64 0,.string (⟨#[]⟩:ByteArray),.slice none 0 0]) (t:=36) ?_;intro F hg R hbox hb;have d:=zM (hbox);have O:=sG HB hg;have G:=sG HB hg;replace HB:=sB HB hb;clear hb hbox hg;obtain⟨S,T,U,V,W,X,Y,Z⟩:=cells4 d.out)|(go_at_call 38;(with_reducible refine(ih_impl_Pattern_isPlainKind k1 (by have:=u.out;omega) ((rd_T36 l0 a).f0) ((rd_T36 l0 a).f1) ((rd_T36 l0 a).f2) _ _ ((rd_T36 l0 a).f3) true _ ?side1 ?side2 J.out).mono ?_);(case side1=>exact zC D.out zzR);(case side2=>exact E.out);rintro e aa ⟨rfl,hb⟩;replace d:=zM (blk_below (g:=F) (o:= .cells #[.int .i64 ((rd_T36 l0 a).f0),.int .i64 ((rd_T36 l0 a).f1),.string ((rd_T36 l0 a).f2),.slice z ((rd_T36 l0 a).f3).length A] 36 (0,0)) (by exact sP4 (sT d.out)) hb);replace HB:=sB HB hb;(try clear hb)))
 go_roundg k1
 case measure=>have:=u.out;omega
 case rel=>exact⟨(wrap64 (a+1)),sr,H',⟨by have:=u.out;omega⟩,⟨sb⟩⟩)
 replace y:=zB y
 subst y
 rewrite[if_neg zQ]at H
 obtain rfl:=zI H
 have b:0≤(a:Int):=zzA
 have c:a<(l0.length:Int):=zzA
 obtain⟨M,z,A,B,j,l,n,p,q,s⟩:=at_T36 I.out a b c
 cases B
 replace j:=sX HB j
 replace l:=sX HB l
 replace n:=sX HB n
 replace p:=sX HB p
 have D:=zM s
 have E:=zM q
 clear s q
 replace b:=eq_true b
 replace c:=eq_true c
 go_wp2_with (first|((with_reducible refine gate_dst (N:=6) rfl ?_);refine sV (N:=6) (cs:= #[.int .i64 0,.int .i64 0,.string (⟨#[]⟩:ByteArray),.slice none 0 0]) (t:=36) ?_;intro F hg ab hbox hb;have d:=zM (hbox);have O:=sG HB hg;have G:=sG HB hg;replace HB:=sB HB hb;clear hb hbox hg;obtain⟨ac,ad,ae,af,ag,ah,ai,aj⟩:=cells4 d.out)|(go_at_call 38;(with_reducible refine(ih_impl_Pattern_isPlainKind k1 (by have:=u.out;omega) ((rd_T36 l0 a).f0) ((rd_T36 l0 a).f1) ((rd_T36 l0 a).f2) _ _ ((rd_T36 l0 a).f3) false _ ?side1 ?side2 J.out).mono ?_);(case side1=>exact zC D.out zzR);(case side2=>exact E.out);rintro e ak ⟨rfl,hb⟩;replace d:=zM (blk_below (g:=F) (o:= .cells #[.int .i64 ((rd_T36 l0 a).f0),.int .i64 ((rd_T36 l0 a).f1),.string ((rd_T36 l0 a).f2),.slice z ((rd_T36 l0 a).f3).length A] 36 (0,0)) (by exact sP4 (sT d.out)) hb);replace HB:=sB HB hb;(try clear hb)))
 go_ret
 exact⟨sq,sb⟩)
 rw[if_neg x]at H
 exact absurd H (by simp))
 rw[if_neg v]at H
 exact absurd H (by simp))
 rw[if_neg i]at H
 have c3b0:=zF i
 clear i
 obtain rfl:=zI H
 go_wp2
 go_ret
 exact⟨sq,sb⟩))
theorem impl_Pattern_isPlainKind.calls_scc (k:Nat):(∀(a0_0:Int) (a0_1:Int) (a0_2:ByteArray) (A0_3:Option Addr) (c0_3:Nat) (l0_3:List (S36)) (r:Bool) (w:World) (hr0_3:Kd.C k36 w A0_3 l0_3.length l0_3) (hc0_3:l0_3.length≤c0_3) (h:impl_Pattern_isPlainKind.f k a0_0 a0_1 a0_2 l0_3=some r),
    Calls Try.prog 38 #[.agg #[.int .i64 a0_0,.int .i64 a0_1,.string a0_2,.slice A0_3 l0_3.length c0_3]] w fun e w'=>e= .returned (.bool r)∧Below w.heap.size w w')∧
    (∀(A0:Option Addr) (c0:Nat) (l0:List (S36)) (r:Bool) (w:World) (hr0:Kd.C k36 w A0 l0.length l0) (hc0:l0.length≤c0) (h:impl_Pattern__impl_Pattern_isPlainKind.f k l0=some r),
    Calls Try.prog 39 #[.slice A0 l0.length c0,.func (.func 38) #[] #[]] w fun e w'=>e= .returned (.bool r)∧Below w.heap.size w w'):=by
 induction k using Nat.strongRecOn with
 |_ k ih=>
 cases k with
 |zero=>exact⟨by intros;rename_i h_;exact absurd h_ (by simp[impl_Pattern_isPlainKind.f]),by intros;rename_i h_;exact absurd h_ (by simp[impl_Pattern__impl_Pattern_isPlainKind.f])⟩
 |succ k=>exact⟨impl_Pattern_isPlainKind.step k (fun m hm=>(ih m hm).1) (fun m hm=>(ih m hm).2),impl_Pattern__impl_Pattern_isPlainKind.step k (fun m hm=>(ih m hm).1) (fun m hm=>(ih m hm).2)⟩
theorem impl_Pattern_isPlainKind.calls (k:Nat):∀(a:Int) (a0_1:Int) (a0_2:ByteArray) (A0_3:Option Addr) (c0_3:Nat) (l0_3:List (S36)) (r:Bool) (w:World) (hr0_3:Kd.C k36 w A0_3 l0_3.length l0_3) (hc0_3:l0_3.length≤c0_3) (h:impl_Pattern_isPlainKind.f k a a0_1 a0_2 l0_3=some r),
    Calls Try.prog 38 #[.agg #[.int .i64 a,.int .i64 a0_1,.string a0_2,.slice A0_3 l0_3.length c0_3]] w fun e w'=>e= .returned (.bool r)∧Below w.heap.size w w':=(impl_Pattern_isPlainKind.calls_scc k).1
theorem impl_Pattern__impl_Pattern_isPlainKind.calls (k:Nat):∀(a:Option Addr) (c0:Nat) (l0:List (S36)) (r:Bool) (w:World) (hr0:Kd.C k36 w a l0.length l0) (hc0:l0.length≤c0) (h:impl_Pattern__impl_Pattern_isPlainKind.f k l0=some r),
    Calls Try.prog 39 #[.slice a l0.length c0,.func (.func 38) #[] #[]] w fun e w'=>e= .returned (.bool r)∧Below w.heap.size w w':=(impl_Pattern_isPlainKind.calls_scc k).2
end Go.Proofs.Ytdihlgkcpooadaa.PFnExactIsPure
