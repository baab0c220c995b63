/- Printed functions: laws_szPattern, laws_szNamed, laws_szNamedS. -/
import Derived.Test.YtdihlgkcpooadaaYIpP0
namespace Go.Proofs.Ytdihlgkcpooadaa.PFnExactIsPure
open Go.RowKit Go.Proofs.YtdihlgkcpooadaaG Go.Proofs.YtdihlgkcpooadaaW.PrintWords Go.Proofs.YtdihlgkcpooadaaW.PrintLast Go.Proofs.YtdihlgkcpooadaaW.PrintMore
attribute [local go_sem] max2_int min2_int max_two min_two max_three min_three max_four min_four
set_option linter.unusedVariables false
set_option linter.unusedSimpArgs false
mutual
def laws_szPattern.f : Nat → Int → Int → ByteArray → List (S31) → Int → Option (Int)
  |0,_,_,_,_,_=>none
  |k+1,a0_0,a0_1,a0_2,l0_3,a1=>if(wrap64 (a1-(a0_2.size:Int)))<0 then(some (-1))else((laws_szPatternS.f k l0_3 (wrap64 (a1-(a0_2.size:Int)))).bind fun t102=>(if t102<0 then(some (-1))else(some t102)))
def laws_szPatternS.l0 : Nat → List (S31) → Int → Int → Option (Int)
  |0,_,_,_=>none
  |k+1,x0,x1,x5=>if x5<(x0.length:Int)then(if 0≤x5 then((laws_szPattern.f k ((rd_T31 x0 x5).f0) ((rd_T31 x0 x5).f1) ((rd_T31 x0 x5).f2) ((rd_T31 x0 x5).f3) x1).bind fun t104=>(if t104<0 then(some (-1))else(laws_szPatternS.l0 k x0 t104 (wrap64 (x5+1)))))else(none))else(some x1)
def laws_szPatternS.f : Nat → List (S31) → Int → Option (Int)
  |0,_,_=>none
  |k+1,l0,a1=>if(wrap64 (a1-(l0.length:Int)))<0 then(some (-1))else(laws_szPatternS.l0 k l0 (wrap64 (a1-(l0.length:Int))) 0)
end
theorem laws_szPattern.mono_scc : ∀ k, (∀ a b c j l, LeO (laws_szPattern.f k a b c j l) (laws_szPattern.f (k + 1) a b c j l)) ∧ (∀ a b, LeO (laws_szPatternS.f k a b) (laws_szPatternS.f (k + 1) a b)) ∧ (∀ a b c, LeO (laws_szPatternS.l0 k a b c) (laws_szPatternS.l0 (k + 1) a b c))
  |0=>⟨fun _ _ _ _ _ r h=>by simp[laws_szPattern.f]at h,fun _ _ r h=>by simp[laws_szPatternS.f]at h,fun _ _ _ r h=>by simp[laws_szPatternS.l0]at h⟩
  |k+1=>by
    obtain⟨d,g,i⟩:=laws_szPattern.mono_scc k
    refine⟨?_,?_,?_⟩
    · intro a b c j l
      unfold laws_szPattern.f
      repeat' first
      |(with_reducible exact d _ _ _ _ _)
      |(with_reducible exact g _ _)
      |(with_reducible exact i _ _ _)
      |(with_reducible exact LeO.refl _)
      |(with_reducible exact LeO.none _)
      |(with_reducible refine LeO.ite ?_ ?_)
      |(with_reducible refine LeO.bind ?_ (fun _=>?_))
      |exact d _ _ _ _ _
      |exact g _ _
      |exact i _ _ _
      |exact LeO.none _
      |refine LeO.ite ?_ ?_
      |refine LeO.bind ?_ (fun _=>?_)
    · intro a b
      unfold laws_szPatternS.f
      repeat' first
      |(with_reducible exact d _ _ _ _ _)
      |(with_reducible exact g _ _)
      |(with_reducible exact i _ _ _)
      |(with_reducible exact LeO.refl _)
      |(with_reducible exact LeO.none _)
      |(with_reducible refine LeO.ite ?_ ?_)
      |(with_reducible refine LeO.bind ?_ (fun _=>?_))
      |exact d _ _ _ _ _
      |exact g _ _
      |exact i _ _ _
      |exact LeO.none _
      |refine LeO.ite ?_ ?_
      |refine LeO.bind ?_ (fun _=>?_)
    · intro a b c
      unfold laws_szPatternS.l0
      repeat' first
      |(with_reducible exact d _ _ _ _ _)
      |(with_reducible exact g _ _)
      |(with_reducible exact i _ _ _)
      |(with_reducible exact LeO.refl _)
      |(with_reducible exact LeO.none _)
      |(with_reducible refine LeO.ite ?_ ?_)
      |(with_reducible refine LeO.bind ?_ (fun _=>?_))
      |exact d _ _ _ _ _
      |exact g _ _
      |exact i _ _ _
      |exact LeO.none _
      |refine LeO.ite ?_ ?_
      |refine LeO.bind ?_ (fun _=>?_)
theorem laws_szPattern.mono:∀a b c d g k,LeO (laws_szPattern.f k a b c d g) (laws_szPattern.f (k+1) a b c d g):=fun a b c d g k=>(laws_szPattern.mono_scc k).1 a b c d g
theorem laws_szPatternS.mono:∀a b k,LeO (laws_szPatternS.f k a b) (laws_szPatternS.f (k+1) a b):=fun a b k=>(laws_szPattern.mono_scc k).2.1 a b
set_option maxHeartbeats 8000000 in
set_option maxRecDepth 100000 in
theorem laws_szPattern.step (k:Nat) (ih_laws_szPattern:∀m,m<k+1→∀(a0_0:Int) (a0_1:Int) (a0_2:ByteArray) (A0_3:Option Addr) (c0_3:Nat) (l0_3:List (S31)) (a1:Int) (r:Int) (w:World) (hr0_3:Kd.C k31 w A0_3 l0_3.length l0_3) (hc0_3:l0_3.length≤c0_3) (h:laws_szPattern.f m a0_0 a0_1 a0_2 l0_3 a1=some r),
    Calls Try.prog 12 #[.agg #[.int .i64 a0_0,.int .i64 a0_1,.string a0_2,.slice A0_3 l0_3.length c0_3],.int .i64 a1] w fun e w'=>e= .returned (.int .i64 r)∧Below w.heap.size w w') (ih_laws_szPatternS:∀m,m<k+1→∀(A0:Option Addr) (c0:Nat) (l0:List (S31)) (a1:Int) (r:Int) (w:World) (hr0:Kd.C k31 w A0 l0.length l0) (hc0:l0.length≤c0) (h:laws_szPatternS.f m l0 a1=some r),
    Calls Try.prog 32 #[.slice A0 l0.length c0,.int .i64 a1] w fun e w'=>e= .returned (.int .i64 r)∧Below w.heap.size w w'):∀(a0_0:Int) (a0_1:Int) (a0_2:ByteArray) (A0_3:Option Addr) (c0_3:Nat) (l0_3:List (S31)) (a1:Int) (r:Int) (w:World) (hr0_3:Kd.C k31 w A0_3 l0_3.length l0_3) (hc0_3:l0_3.length≤c0_3) (h:laws_szPattern.f (k+1) a0_0 a0_1 a0_2 l0_3 a1=some r),
    Calls Try.prog 12 #[.agg #[.int .i64 a0_0,.int .i64 a0_1,.string a0_2,.slice A0_3 l0_3.length c0_3],.int .i64 a1] w fun e w'=>e= .returned (.int .i64 r)∧Below w.heap.size w w':=by
 intro a0_0 a0_1 a0_2 A0_3 c0_3 l0_3 a1 r w hr0_3 hc0_3 h
 simp only[laws_szPattern.f]at h
 have p:=Try.underlying31
 have g:=zM hr0_3
 have i:=zM hc0_3
 clear hr0_3 hc0_3
 have HB:=zM (Below.refl w.heap.size w)
 have H:(if(wrap64 (a1-(a0_2.size:Int)))<0 then(some (-1))else((laws_szPatternS.f k l0_3 (wrap64 (a1-(a0_2.size:Int)))).bind fun b=>(if b<0 then(some (-1))else(some b))))=some r:=h
 clear h
 by_cases c:(wrap64 (a1-(a0_2.size:Int)))<0
 ·(
 rw[if_pos c]at H
 have c3b0:=zT c
 clear c
 obtain rfl:=zI H
 go_enter Try.func12,Try.ntmps12
 go_wp2_with (first|((with_reducible refine gate_dst (N:=2) rfl ?_);refine sV (N:=2) (cs:= #[.int .i64 a0_0,.int .i64 a0_1,.string a0_2,.slice A0_3 l0_3.length c0_3]) (t:=31) ?_;intro j hg q hbox hb;have a:=zM (hbox);have l:=sG HB hg;have n:=sG HB hg;replace HB:=sB HB hb;clear hb hbox hg;obtain⟨s,u,v,x,y,z,A,B⟩:=cells4 a.out))
 go_ret
 exact⟨sq,sb⟩)
 rw[if_neg c]at H
 have c3b0:=zF c
 clear c
 obtain⟨b,o,H⟩:=sO H
 by_cases d:b<0
 ·(
 rw[if_pos d]at H
 have c7b0:=zT d
 clear d
 obtain rfl:=zI H
 go_enter Try.func12,Try.ntmps12
 go_wp2_with (first|((with_reducible refine gate_dst (N:=2) rfl ?_);refine sV (N:=2) (cs:= #[.int .i64 a0_0,.int .i64 a0_1,.string a0_2,.slice A0_3 l0_3.length c0_3]) (t:=31) ?_;intro j hg D hbox hb;have a:=zM (hbox);have l:=sG HB hg;have n:=sG HB hg;replace HB:=sB HB hb;clear hb hbox hg;obtain⟨E,F,G,I,J,K,L,M⟩:=cells4 a.out)|((with_reducible refine gate_callee (f:=32) rfl ?_);refine sC (some 15) Try.func32 #[.slice A0_3 l0_3.length c0_3,.int .i64 (wrap64 (a1-(a0_2.size:Int)))] (ih_laws_szPatternS k (by omega) _ _ l0_3 (wrap64 (a1-(a0_2.size:Int))) b _ ?side1 ?side2 o.out) ?_;(case side1=>exact sD (zC g.out HB.out));(case side2=>exact i.out);rintro e O ⟨rfl,hb⟩;refine⟨_,rfl,?_⟩;replace a:=sK a hb;replace HB:=sB HB hb;(try clear hb)))
 go_ret
 exact⟨sq,sb⟩)
 rw[if_neg d]at H
 have c7b0:=zF d
 clear d
 obtain rfl:=zI H
 go_enter Try.func12,Try.ntmps12
 go_wp2_with (first|((with_reducible refine gate_dst (N:=2) rfl ?_);refine sV (N:=2) (cs:= #[.int .i64 a0_0,.int .i64 a0_1,.string a0_2,.slice A0_3 l0_3.length c0_3]) (t:=31) ?_;intro j hg P hbox hb;have a:=zM (hbox);have l:=sG HB hg;have n:=sG HB hg;replace HB:=sB HB hb;clear hb hbox hg;obtain⟨Q,R,S,T,U,V,W,X⟩:=cells4 a.out)|((with_reducible refine gate_callee (f:=32) rfl ?_);refine sC (some 15) Try.func32 #[.slice A0_3 l0_3.length c0_3,.int .i64 (wrap64 (a1-(a0_2.size:Int)))] (ih_laws_szPatternS k (by omega) _ _ l0_3 (wrap64 (a1-(a0_2.size:Int))) b _ ?side1 ?side2 o.out) ?_;(case side1=>exact sD (zC g.out HB.out));(case side2=>exact i.out);rintro e Y ⟨rfl,hb⟩;refine⟨_,rfl,?_⟩;replace a:=sK a hb;replace HB:=sB HB hb;(try clear hb)))
 go_ret
 exact⟨sq,sb⟩
set_option maxHeartbeats 8000000 in
set_option maxRecDepth 100000 in
theorem laws_szPatternS.step (k:Nat) (ih_laws_szPattern:∀m,m<k+1→∀(a0_0:Int) (a0_1:Int) (a0_2:ByteArray) (A0_3:Option Addr) (c0_3:Nat) (l0_3:List (S31)) (a1:Int) (r:Int) (w:World) (hr0_3:Kd.C k31 w A0_3 l0_3.length l0_3) (hc0_3:l0_3.length≤c0_3) (h:laws_szPattern.f m a0_0 a0_1 a0_2 l0_3 a1=some r),
    Calls Try.prog 12 #[.agg #[.int .i64 a0_0,.int .i64 a0_1,.string a0_2,.slice A0_3 l0_3.length c0_3],.int .i64 a1] w fun e w'=>e= .returned (.int .i64 r)∧Below w.heap.size w w') (ih_laws_szPatternS:∀m,m<k+1→∀(A0:Option Addr) (c0:Nat) (l0:List (S31)) (a1:Int) (r:Int) (w:World) (hr0:Kd.C k31 w A0 l0.length l0) (hc0:l0.length≤c0) (h:laws_szPatternS.f m l0 a1=some r),
    Calls Try.prog 32 #[.slice A0 l0.length c0,.int .i64 a1] w fun e w'=>e= .returned (.int .i64 r)∧Below w.heap.size w w'):∀(A0:Option Addr) (c0:Nat) (l0:List (S31)) (a1:Int) (r:Int) (w:World) (hr0:Kd.C k31 w A0 l0.length l0) (hc0:l0.length≤c0) (h:laws_szPatternS.f (k+1) l0 a1=some r),
    Calls Try.prog 32 #[.slice A0 l0.length c0,.int .i64 a1] w fun e w'=>e= .returned (.int .i64 r)∧Below w.heap.size w w':=by
 intro A0 c0 l0 a1 r w hr0 hc0 h
 simp only[laws_szPatternS.f]at h
 have K:=Try.underlying31
 have E:=zM hr0
 have L:=zM hc0
 clear hr0 hc0
 have HB:=zM (Below.refl w.heap.size w)
 have H:(if(wrap64 (a1-(l0.length:Int)))<0 then(some (-1))else(laws_szPatternS.l0 k l0 (wrap64 (a1-(l0.length:Int))) 0))=some r:=h
 clear h
 by_cases b:(wrap64 (a1-(l0.length:Int)))<0
 ·(
 rw[if_pos b]at H
 have c3b0:=zT b
 clear b
 obtain rfl:=zI H
 go_enter Try.func32,Try.ntmps32
 go_wp2
 go_ret
 exact⟨sq,sb⟩)
 rw[if_neg b]at H
 have c3b0:=zF b
 clear b
 have H':=zM H
 clear H
 go_enter Try.func32,Try.ntmps32
 go_wp2
 go_loopg [1,5] k (fun kq G I w'=>∃(c:Int) (a:Int),G= .int .i64 c∧I= .int .i64 a∧Aside0 (laws_szPatternS.l0 kq l0 c a=some r)∧Aside0 (kq≤k)∧Aside0 (Below w.heap.size w w'))
 case atStart=>exact⟨(wrap64 (a1-(l0.length:Int))),(0),sr,sr,H',⟨Nat.le_refl _⟩,⟨sb⟩⟩
 case round=>(
 clear H'
 try clear b
 try clear c3b0
 obtain⟨c,a,rfl,rfl,HA,u,HB⟩:=hrel
 cases gk with
 |zero=>exact absurd HA.out (by simp[laws_szPatternS.l0])
 |succ k1=>(
 have H:=HA.out
 clear HA
 simp only[laws_szPatternS.l0]at H
 by_cases i:a<(l0.length:Int)
 ·(
 rw[if_pos i]at H
 have c4b0:=zT i
 clear i
 by_cases v:0≤a
 ·(
 rw[if_pos v]at H
 have c5b0:=zT v
 clear v
 obtain⟨x,F,H⟩:=sO H
 by_cases j:x<0
 ·(
 rw[if_pos j]at H
 have c7b0:=zT j
 clear j
 obtain rfl:=zI H
 have d:0≤(a:Int):=zzA
 have g:a<(l0.length:Int):=zzA
 obtain⟨J,y,z,A,l,n,o,p,q,s⟩:=at_T31 E.out a d g
 cases A
 replace l:=sX HB l
 replace n:=sX HB n
 replace o:=sX HB o
 replace p:=sX HB p
 have B:=zM s
 have D:=zM q
 clear s q
 replace d:=eq_true d
 replace g:=eq_true g
 go_wp2_with (first|((with_reducible refine gate_callee (f:=12) rfl ?_);refine goesL_ (some 23) rfl rfl Try.func12 (by kernel_rfl) rfl #[.agg #[.int .i64 ((rd_T31 l0 a).f0),.int .i64 ((rd_T31 l0 a).f1),.string ((rd_T31 l0 a).f2),.slice y ((rd_T31 l0 a).f3).length z],.int .i64 c] rfl (by(try simp only[List.map_toArray,List.map_cons,List.map_nil]);first|done|rfl|(simp only[List.length_drop,List.length_take];rfl)) ?_;(with_reducible refine(ih_laws_szPattern k1 (by have:=u.out;omega) ((rd_T31 l0 a).f0) ((rd_T31 l0 a).f1) ((rd_T31 l0 a).f2) _ _ ((rd_T31 l0 a).f3) c x _ ?side1 ?side2 F.out).mono ?_);(case side1=>exact sD (zC B.out HB.out));(case side2=>exact D.out);rintro e M ⟨rfl,hb⟩;refine⟨_,rfl,?_⟩;replace HB:=sB HB hb;(try clear hb)))
 go_ret
 exact⟨sq,sb⟩)
 rw[if_neg j]at H
 have c7b0:=zF j
 clear j
 have H':=zM H
 clear H
 have d:0≤(a:Int):=zzA
 have g:a<(l0.length:Int):=zzA
 obtain⟨J,y,z,A,l,n,o,p,q,s⟩:=at_T31 E.out a d g
 cases A
 replace l:=sX HB l
 replace n:=sX HB n
 replace o:=sX HB o
 replace p:=sX HB p
 have B:=zM s
 have D:=zM q
 clear s q
 replace d:=eq_true d
 replace g:=eq_true g
 go_wp2_with (first|((with_reducible refine gate_callee (f:=12) rfl ?_);refine goesL_ (some 23) rfl rfl Try.func12 (by kernel_rfl) rfl #[.agg #[.int .i64 ((rd_T31 l0 a).f0),.int .i64 ((rd_T31 l0 a).f1),.string ((rd_T31 l0 a).f2),.slice y ((rd_T31 l0 a).f3).length z],.int .i64 c] rfl (by(try simp only[List.map_toArray,List.map_cons,List.map_nil]);first|done|rfl|(simp only[List.length_drop,List.length_take];rfl)) ?_;(with_reducible refine(ih_laws_szPattern k1 (by have:=u.out;omega) ((rd_T31 l0 a).f0) ((rd_T31 l0 a).f1) ((rd_T31 l0 a).f2) _ _ ((rd_T31 l0 a).f3) c x _ ?side1 ?side2 F.out).mono ?_);(case side1=>exact sD (zC B.out HB.out));(case side2=>exact D.out);rintro e O ⟨rfl,hb⟩;refine⟨_,rfl,?_⟩;replace HB:=sB HB hb;(try clear hb)))
 go_roundg k1
 case measure=>have:=u.out;omega
 case rel=>exact⟨(x),(wrap64 (a+1)),sr,sr,H',⟨by have:=u.out;omega⟩,⟨sb⟩⟩)
 rw[if_neg v]at H
 exact absurd H (by simp))
 rw[if_neg i]at H
 have c4b0:=zF i
 clear i
 obtain rfl:=zI H
 go_wp2
 go_ret
 exact⟨sq,sb⟩))
theorem laws_szPattern.calls_scc (k:Nat):(∀(a0_0:Int) (a0_1:Int) (a0_2:ByteArray) (A0_3:Option Addr) (c0_3:Nat) (l0_3:List (S31)) (a1:Int) (r:Int) (w:World) (hr0_3:Kd.C k31 w A0_3 l0_3.length l0_3) (hc0_3:l0_3.length≤c0_3) (h:laws_szPattern.f k a0_0 a0_1 a0_2 l0_3 a1=some r),
    Calls Try.prog 12 #[.agg #[.int .i64 a0_0,.int .i64 a0_1,.string a0_2,.slice A0_3 l0_3.length c0_3],.int .i64 a1] w fun e w'=>e= .returned (.int .i64 r)∧Below w.heap.size w w')∧
    (∀(A0:Option Addr) (c0:Nat) (l0:List (S31)) (a1:Int) (r:Int) (w:World) (hr0:Kd.C k31 w A0 l0.length l0) (hc0:l0.length≤c0) (h:laws_szPatternS.f k l0 a1=some r),
    Calls Try.prog 32 #[.slice A0 l0.length c0,.int .i64 a1] w fun e w'=>e= .returned (.int .i64 r)∧Below w.heap.size w w'):=by
 induction k using Nat.strongRecOn with
 |_ k ih=>
 cases k with
 |zero=>exact⟨by intros;rename_i h_;exact absurd h_ (by simp[laws_szPattern.f]),by intros;rename_i h_;exact absurd h_ (by simp[laws_szPatternS.f])⟩
 |succ k=>exact⟨laws_szPattern.step k (fun m hm=>(ih m hm).1) (fun m hm=>(ih m hm).2),laws_szPatternS.step k (fun m hm=>(ih m hm).1) (fun m hm=>(ih m hm).2)⟩
theorem laws_szPattern.calls (k:Nat):∀(a:Int) (a0_1:Int) (a0_2:ByteArray) (A0_3:Option Addr) (c0_3:Nat) (l0_3:List (S31)) (a1:Int) (r:Int) (w:World) (hr0_3:Kd.C k31 w A0_3 l0_3.length l0_3) (hc0_3:l0_3.length≤c0_3) (h:laws_szPattern.f k a a0_1 a0_2 l0_3 a1=some r),
    Calls Try.prog 12 #[.agg #[.int .i64 a,.int .i64 a0_1,.string a0_2,.slice A0_3 l0_3.length c0_3],.int .i64 a1] w fun e w'=>e= .returned (.int .i64 r)∧Below w.heap.size w w':=(laws_szPattern.calls_scc k).1
theorem laws_szPatternS.calls (k:Nat):∀(a:Option Addr) (c0:Nat) (l0:List (S31)) (a1:Int) (r:Int) (w:World) (hr0:Kd.C k31 w a l0.length l0) (hc0:l0.length≤c0) (h:laws_szPatternS.f k l0 a1=some r),
    Calls Try.prog 32 #[.slice a l0.length c0,.int .i64 a1] w fun e w'=>e= .returned (.int .i64 r)∧Below w.heap.size w w':=(laws_szPattern.calls_scc k).2
def laws_szNamed.f (k:Nat) (a0_0:ByteArray) (a0_1:Int) (a0_2:Int) (a0_3:ByteArray) (l0_4:List (S31)) (a1:Int):Option (Int):=if(wrap64 (a1-(a0_0.size:Int)))<0 then(some (-1))else((laws_szPattern.f k a0_1 a0_2 a0_3 l0_4 (wrap64 (a1-(a0_0.size:Int)))).bind fun t106=>(if t106<0 then(some (-1))else(some t106)))
set_option maxHeartbeats 8000000 in
set_option maxRecDepth 100000 in
theorem laws_szNamed.calls (k:Nat) (a0_0:ByteArray) (a0_1:Int) (a0_2:Int) (a0_3:ByteArray) (A0_4:Option Addr) (c0_4:Nat) (l0_4:List (S31)) (a1:Int) (r:Int) (w:World) (hr0_4:Kd.C k31 w A0_4 l0_4.length l0_4) (hc0_4:l0_4.length≤c0_4) (h:laws_szNamed.f k a0_0 a0_1 a0_2 a0_3 l0_4 a1=some r):
  Calls Try.prog 22 #[.agg #[.string a0_0,.int .i64 a0_1,.int .i64 a0_2,.string a0_3,.slice A0_4 l0_4.length c0_4],.int .i64 a1] w fun e w'=>e= .returned (.int .i64 r)∧Below w.heap.size w w':=by
 have p:=Try.underlying49
 have q:=Try.underlying31
 have g:=zM hr0_4
 have i:=zM hc0_4
 clear hr0_4 hc0_4
 have HB:=zM (Below.refl w.heap.size w)
 have H:(if(wrap64 (a1-(a0_0.size:Int)))<0 then(some (-1))else((laws_szPattern.f k a0_1 a0_2 a0_3 l0_4 (wrap64 (a1-(a0_0.size:Int)))).bind fun b=>(if b<0 then(some (-1))else(some b))))=some r:=h
 clear h
 by_cases c:(wrap64 (a1-(a0_0.size:Int)))<0
 ·(
 rw[if_pos c]at H
 have c3b0:=zT c
 clear c
 obtain rfl:=zI H
 go_enter Try.func22,Try.ntmps22
 go_wp2_with (first|((with_reducible refine gate_dst (N:=2) rfl ?_);refine sV (N:=2) (cs:= #[.string a0_0,.int .i64 a0_1,.int .i64 a0_2,.string a0_3,.slice A0_4 l0_4.length c0_4]) (t:=49) ?_;intro j hg s hbox hb;have a:=zM (hbox);have l:=sG HB hg;have n:=sG HB hg;replace HB:=sB HB hb;clear hb hbox hg;obtain⟨u,v,x,y,z,A,B,D,E,F⟩:=cells5 a.out))
 go_ret
 exact⟨sq,sb⟩)
 rw[if_neg c]at H
 have c3b0:=zF c
 clear c
 obtain⟨b,o,H⟩:=sO H
 by_cases d:b<0
 ·(
 rw[if_pos d]at H
 have c7b0:=zT d
 clear d
 obtain rfl:=zI H
 go_enter Try.func22,Try.ntmps22
 go_wp2_with (first|((with_reducible refine gate_dst (N:=2) rfl ?_);refine sV (N:=2) (cs:= #[.string a0_0,.int .i64 a0_1,.int .i64 a0_2,.string a0_3,.slice A0_4 l0_4.length c0_4]) (t:=49) ?_;intro j hg G hbox hb;have a:=zM (hbox);have l:=sG HB hg;have n:=sG HB hg;replace HB:=sB HB hb;clear hb hbox hg;obtain⟨I,J,K,L,M,O,P,Q,R,S⟩:=cells5 a.out)|((with_reducible refine gate_callee (f:=12) rfl ?_);refine sC (some 15) Try.func12 #[.agg #[.int .i64 a0_1,.int .i64 a0_2,.string a0_3,.slice A0_4 l0_4.length c0_4],.int .i64 (wrap64 (a1-(a0_0.size:Int)))] (laws_szPattern.calls k a0_1 a0_2 a0_3 _ _ l0_4 (wrap64 (a1-(a0_0.size:Int))) b _ ?side1 ?side2 o.out) ?_;(case side1=>exact sD (zC g.out HB.out));(case side2=>exact i.out);rintro e T ⟨rfl,hb⟩;refine⟨_,rfl,?_⟩;replace a:=sK a hb;replace HB:=sB HB hb;(try clear hb)))
 go_ret
 exact⟨sq,sb⟩)
 rw[if_neg d]at H
 have c7b0:=zF d
 clear d
 obtain rfl:=zI H
 go_enter Try.func22,Try.ntmps22
 go_wp2_with (first|((with_reducible refine gate_dst (N:=2) rfl ?_);refine sV (N:=2) (cs:= #[.string a0_0,.int .i64 a0_1,.int .i64 a0_2,.string a0_3,.slice A0_4 l0_4.length c0_4]) (t:=49) ?_;intro j hg U hbox hb;have a:=zM (hbox);have l:=sG HB hg;have n:=sG HB hg;replace HB:=sB HB hb;clear hb hbox hg;obtain⟨V,W,X,Y,Z,aa,ab,ac,ad,ae⟩:=cells5 a.out)|((with_reducible refine gate_callee (f:=12) rfl ?_);refine sC (some 15) Try.func12 #[.agg #[.int .i64 a0_1,.int .i64 a0_2,.string a0_3,.slice A0_4 l0_4.length c0_4],.int .i64 (wrap64 (a1-(a0_0.size:Int)))] (laws_szPattern.calls k a0_1 a0_2 a0_3 _ _ l0_4 (wrap64 (a1-(a0_0.size:Int))) b _ ?side1 ?side2 o.out) ?_;(case side1=>exact sD (zC g.out HB.out));(case side2=>exact i.out);rintro e af ⟨rfl,hb⟩;refine⟨_,rfl,?_⟩;replace a:=sK a hb;replace HB:=sB HB hb;(try clear hb)))
 go_ret
 exact⟨sq,sb⟩
def laws_szNamedS.l0 : Nat → List (S49) → Int → Int → Option (Int)
 |0,_,_,_=>none
 |k+1,x0,x1,x5=>if x5<(x0.length:Int)then(if 0≤x5 then((laws_szNamed.f k ((rd_T49 x0 x5).f0) ((rd_T49 x0 x5).f1.f0) ((rd_T49 x0 x5).f1.f1) ((rd_T49 x0 x5).f1.f2) ((rd_T49 x0 x5).f1.f3) x1).bind fun t108=>(if t108<0 then(some (-1))else(laws_szNamedS.l0 k x0 t108 (wrap64 (x5+1)))))else(none))else(some x1)
def laws_szNamedS.f (k:Nat) (l0:List (S49)) (a1:Int):Option (Int):=if(wrap64 (a1-(l0.length:Int)))<0 then(some (-1))else(laws_szNamedS.l0 k l0 (wrap64 (a1-(l0.length:Int))) 0)
set_option maxHeartbeats 8000000 in
set_option maxRecDepth 100000 in
theorem laws_szNamedS.calls (k:Nat) (A0:Option Addr) (c0:Nat) (l0:List (S49)) (a1:Int) (r:Int) (w:World) (hr0:Kd.C k49 w A0 l0.length l0) (hc0:l0.length≤c0) (h:laws_szNamedS.f k l0 a1=some r):
  Calls Try.prog 7 #[.slice A0 l0.length c0,.int .i64 a1] w fun e w'=>e= .returned (.int .i64 r)∧Below w.heap.size w w':=by
 have L:=Try.underlying49
 have E:=zM hr0
 have M:=zM hc0
 clear hr0 hc0
 have HB:=zM (Below.refl w.heap.size w)
 have H:(if(wrap64 (a1-(l0.length:Int)))<0 then(some (-1))else(laws_szNamedS.l0 k l0 (wrap64 (a1-(l0.length:Int))) 0))=some r:=h
 clear h
 by_cases b:(wrap64 (a1-(l0.length:Int)))<0
 ·(
 rw[if_pos b]at H
 have c3b0:=zT b
 clear b
 obtain rfl:=zI H
 go_enter Try.func7,Try.ntmps7
 go_wp2
 go_ret
 exact⟨sq,sb⟩)
 rw[if_neg b]at H
 have c3b0:=zF b
 clear b
 have H':=zM H
 clear H
 go_enter Try.func7,Try.ntmps7
 go_wp2
 go_loopg [1,5] k (fun kq I J w'=>∃(c:Int) (a:Int),I= .int .i64 c∧J= .int .i64 a∧Aside0 (laws_szNamedS.l0 kq l0 c a=some r)∧Aside0 (kq≤k)∧Aside0 (Below w.heap.size w w'))
 case atStart=>exact⟨(wrap64 (a1-(l0.length:Int))),(0),sr,sr,H',⟨Nat.le_refl _⟩,⟨sb⟩⟩
 case round=>(
 clear H'
 try clear b
 try clear c3b0
 obtain⟨c,a,rfl,rfl,HA,F,HB⟩:=hrel
 cases gk with
 |zero=>exact absurd HA.out (by simp[laws_szNamedS.l0])
 |succ k1=>(
 have H:=HA.out
 clear HA
 simp only[laws_szNamedS.l0]at H
 by_cases i:a<(l0.length:Int)
 ·(
 rw[if_pos i]at H
 have c4b0:=zT i
 clear i
 by_cases v:0≤a
 ·(
 rw[if_pos v]at H
 have c5b0:=zT v
 clear v
 obtain⟨x,G,H⟩:=sO H
 by_cases j:x<0
 ·(
 rw[if_pos j]at H
 have c7b0:=zT j
 clear j
 obtain rfl:=zI H
 have d:0≤(a:Int):=zzA
 have g:a<(l0.length:Int):=zzA
 obtain⟨K,y,z,A,l,n,o,p,q,s,u⟩:=at_T49 E.out a d g
 cases A
 replace l:=sX HB l
 replace n:=sX HB n
 replace o:=sX HB o
 replace p:=sX HB p
 replace q:=sX HB q
 have B:=zM u
 have D:=zM s
 clear u s
 replace d:=eq_true d
 replace g:=eq_true g
 go_wp2_with (first|((with_reducible refine gate_callee (f:=22) rfl ?_);refine sC (some 23) Try.func22 #[.agg #[.string ((rd_T49 l0 a).f0),.int .i64 ((rd_T49 l0 a).f1.f0),.int .i64 ((rd_T49 l0 a).f1.f1),.string ((rd_T49 l0 a).f1.f2),.slice y ((rd_T49 l0 a).f1.f3).length z],.int .i64 c] (laws_szNamed.calls k1 ((rd_T49 l0 a).f0) ((rd_T49 l0 a).f1.f0) ((rd_T49 l0 a).f1.f1) ((rd_T49 l0 a).f1.f2) _ _ ((rd_T49 l0 a).f1.f3) c x _ ?side1 ?side2 G.out) ?_;(case side1=>exact sD (zC B.out HB.out));(case side2=>exact D.out);rintro e O ⟨rfl,hb⟩;refine⟨_,rfl,?_⟩;replace HB:=sB HB hb;(try clear hb)))
 go_ret
 exact⟨sq,sb⟩)
 rw[if_neg j]at H
 have c7b0:=zF j
 clear j
 have H':=zM H
 clear H
 have d:0≤(a:Int):=zzA
 have g:a<(l0.length:Int):=zzA
 obtain⟨K,y,z,A,l,n,o,p,q,s,u⟩:=at_T49 E.out a d g
 cases A
 replace l:=sX HB l
 replace n:=sX HB n
 replace o:=sX HB o
 replace p:=sX HB p
 replace q:=sX HB q
 have B:=zM u
 have D:=zM s
 clear u s
 replace d:=eq_true d
 replace g:=eq_true g
 go_wp2_with (first|((with_reducible refine gate_callee (f:=22) rfl ?_);refine sC (some 23) Try.func22 #[.agg #[.string ((rd_T49 l0 a).f0),.int .i64 ((rd_T49 l0 a).f1.f0),.int .i64 ((rd_T49 l0 a).f1.f1),.string ((rd_T49 l0 a).f1.f2),.slice y ((rd_T49 l0 a).f1.f3).length z],.int .i64 c] (laws_szNamed.calls k1 ((rd_T49 l0 a).f0) ((rd_T49 l0 a).f1.f0) ((rd_T49 l0 a).f1.f1) ((rd_T49 l0 a).f1.f2) _ _ ((rd_T49 l0 a).f1.f3) c x _ ?side1 ?side2 G.out) ?_;(case side1=>exact sD (zC B.out HB.out));(case side2=>exact D.out);rintro e P ⟨rfl,hb⟩;refine⟨_,rfl,?_⟩;replace HB:=sB HB hb;(try clear hb)))
 go_roundg k1
 case measure=>have:=F.out;omega
 case rel=>exact⟨(x),(wrap64 (a+1)),sr,sr,H',⟨by have:=F.out;omega⟩,⟨sb⟩⟩)
 rw[if_neg v]at H
 exact absurd H (by simp))
 rw[if_neg i]at H
 have c4b0:=zF i
 clear i
 obtain rfl:=zI H
 go_wp2
 go_ret
 exact⟨sq,sb⟩))
end Go.Proofs.Ytdihlgkcpooadaa.PFnExactIsPure
