/- Printed functions: laws_markObjectS. -/
import Derived.Test.YtengilknjiobiaaYPoP0
import Derived.Test.YtengilknjiobiaaYPoP27
namespace Go.Proofs.Ytengilknjiobiaa.PFnExactPairsOf
open Go.RowKit Go.Proofs.YtengilknjiobiaaG Go.Proofs.YtengilknjiobiaaW.PrintWords Go.Proofs.YtengilknjiobiaaW.PrintLast Go.Proofs.YtengilknjiobiaaW.PrintMore
attribute [local go_sem] max2_int min2_int max_two min_two max_three min_three max_four min_four
set_option linter.unusedVariables false
set_option linter.unusedSimpArgs false
def laws_markObjectS.mkLike (u v:Value):Prop:=(∃a b,u= .int .i64 a∧v= .int .i64 b)∨(∃a b,u= .string a∧v= .string b)∨u=v
theorem laws_markObjectS.mkLike_refl (u:Value):laws_markObjectS.mkLike u u:= .inr (.inr rfl)
theorem laws_markObjectS.mkLike_trans {u v x:Value} (h:laws_markObjectS.mkLike u v) (k:laws_markObjectS.mkLike v x):laws_markObjectS.mkLike u x:=by
 rcases h with⟨a,b,rfl,rfl⟩|⟨a,b,rfl,rfl⟩|rfl
 ·(
 rcases k with⟨c,d,e,rfl⟩|⟨c,d,e,rfl⟩|rfl
 ·exact .inl ⟨_,_,rfl,rfl⟩
 ·cases e
 ·exact .inl ⟨_,_,rfl,rfl⟩)
 ·(
 rcases k with⟨c,d,e,rfl⟩|⟨c,d,e,rfl⟩|rfl
 ·cases e
 ·exact .inr (.inl ⟨_,_,rfl,rfl⟩)
 ·exact .inr (.inl ⟨_,_,rfl,rfl⟩))
 ·exact k
theorem laws_markObjectS.mkLike_int {a:Int} {v:Value} (h:laws_markObjectS.mkLike (.int .i64 a) v):∃b,v= .int .i64 b:=by
 rcases h with⟨_,b,_,rfl⟩|⟨_,_,e,_⟩|rfl
 ·exact⟨b,rfl⟩
 ·cases e
 ·exact⟨a,rfl⟩
theorem laws_markObjectS.mkLike_str {a:ByteArray} {v:Value} (h:laws_markObjectS.mkLike (.string a) v):∃b,v= .string b:=by
 rcases h with⟨_,_,e,_⟩|⟨_,b,_,rfl⟩|rfl
 ·cases e
 ·exact⟨b,rfl⟩
 ·exact⟨a,rfl⟩
theorem laws_markObjectS.mkLike_slice {A:Option Addr} {n c:Nat} {v:Value} (h:laws_markObjectS.mkLike (.slice A n c) v):v= .slice A n c:=by
 rcases h with⟨_,_,e,_⟩|⟨_,_,e,_⟩|rfl
 ·cases e
 ·cases e
 ·rfl
def laws_markObjectS.mkSd (w w':World):Prop:=∀(g t:Nat) (cs:Array Value),(t=29∨t=56)→w.heap[g]?=some (.cells cs t (0,0))→∃cs':Array Value,w'.heap[g]?=some (.cells cs' t (0,0))∧cs'.size=cs.size∧∀(j:Nat) (u:Value),cs[j]?=some u→∃u',cs'[j]?=some u'∧laws_markObjectS.mkLike u u'
theorem laws_markObjectS.mkSd.refl (w:World):laws_markObjectS.mkSd w w:=fun g t cs _ hg=>⟨cs,hg,rfl,fun j u hu=>⟨u,hu,laws_markObjectS.mkLike_refl u⟩⟩
theorem laws_markObjectS.mkSd.trans {w w1 w2:World} (h:laws_markObjectS.mkSd w w1) (k:laws_markObjectS.mkSd w1 w2):laws_markObjectS.mkSd w w2:=by
 intro g t cs ht hg
 obtain⟨m,y,B,C⟩:=h g t cs ht hg
 obtain⟨D,F,G,H⟩:=k g t m ht y
 refine⟨D,F,G.trans B,fun j u hu=>?_⟩
 obtain⟨I,J,K⟩:=C j u hu
 obtain⟨L,N,O⟩:=H j I J
 exact⟨L,N,laws_markObjectS.mkLike_trans K O⟩
theorem laws_markObjectS.mkSd.of_below {w w1:World} (h:Below w.heap.size w w1):laws_markObjectS.mkSd w w1:=fun g t cs _ hg=>⟨cs,(h.block g (blk_lt hg)).trans hg,rfl,fun j u hu=>⟨u,hu,laws_markObjectS.mkLike_refl u⟩⟩
theorem laws_markObjectS.mkSd.set {w:World} {g j:Nat} {u v:Value} (hu:w.cell? ⟨g,j,none⟩=some u) (hl:laws_markObjectS.mkLike u v):laws_markObjectS.mkSd w (w.setCell ⟨g,j,none⟩ v):=by
 intro g' t cs ht hg
 by_cases e:g'=g
 ·(
 subst e
 refine⟨cs.setIfInBounds j v,blk_set hg j v,Array.size_setIfInBounds,fun i x hx=>?_⟩
 by_cases ei:i=j
 ·(
 subst ei
 have hc:w.cell? ⟨g',i,none⟩=cs[i]?:=by unfold World.cell?;simp only[hg];rfl
 rw[hc]at hu
 have:x=u:=zI (hx.symm.trans hu)
 subst this
 have hi:i<cs.size:=(Array.getElem?_eq_some_iff.1 hx).1
 exact⟨v,by rw[Array.getElem?_setIfInBounds_self_of_lt hi],hl⟩)
 ·exact⟨x,by rw[Array.getElem?_setIfInBounds_ne (Ne.symm ei)];exact hx,laws_markObjectS.mkLike_refl x⟩)
 ·exact⟨cs,(Below.heap_setCell w ⟨g,j,none⟩ v g' e).trans hg,rfl,fun i x hx=>⟨x,hx,laws_markObjectS.mkLike_refl x⟩⟩
theorem laws_markObjectS.mkReps {α : Type} {R R' : α → List Value → Prop} {rel : α → α → Prop} {sz : Nat} {xs : List α} {cs cs' : List Value} (h : Reps R sz xs cs) (hlen : cs'.length = cs.length) (hl : ∀ (j : Nat) (u : Value), cs[j]? = some u → ∃ u', cs'[j]? = some u' ∧ laws_markObjectS.mkLike u u')
    (hs:∀x c c',R x c→c'.length=c.length→(∀(j:Nat) (u:Value),c[j]?=some u→∃u',c'[j]?=some u'∧laws_markObjectS.mkLike u u')→∃x',R' x' c'∧rel x x'):
    ∃xs':List α,xs'.length=xs.length∧Reps R' sz xs' cs'∧∀(i:Nat) (x:α),xs[i]?=some x→∃x',xs'[i]?=some x'∧rel x x':=by
 have key:∀i:Fin xs.length,∃x',R' x' ((cs'.drop (i.1*sz)).take sz)∧rel xs[i.1] x':=by(
 intro i
 refine hs _ _ _ (h.2 i.1 _ (List.getElem?_eq_getElem i.2)) ?_ ?_
 ·simp only[List.length_take,List.length_drop,hlen]
 ·(
 intro j u hu
 rw[List.getElem?_take]at hu ⊢
 split at hu
 ·(
 rename_i hj
 rw[List.getElem?_drop]at hu ⊢
 rw[if_pos hj]
 exact hl _ _ hu)
 ·cases hu))
 refine⟨List.ofFn (fun i=>Classical.choose (key i)),List.length_ofFn,⟨by rw[List.length_ofFn,hlen];exact h.1,fun j p hp=>?_⟩,fun i x hx=>?_⟩
 ·(
 rw[List.getElem?_ofFn]at hp
 split at hp
 ·(
 rename_i hj
 cases hp
 exact(Classical.choose_spec (key ⟨j,hj⟩)).1)
 ·cases hp)
 ·(
 obtain⟨hi,rfl⟩:=List.getElem?_eq_some_iff.1 hx
 refine⟨Classical.choose (key ⟨i,hi⟩),by rw[List.getElem?_ofFn,dif_pos hi],(Classical.choose_spec (key ⟨i,hi⟩)).2⟩)
theorem laws_markObjectS.mkRow {α : Type} {d : Kd α} {rel : α → α → Prop} {e base : Nat} {ok : Nat → Prop} {w w' : World} {v : Value} {xs : List α} (he : e = 29 ∨ e = 56) (h : laws_markObjectS.mkSd w w') (hR : d.R e w base ok v xs)
    (hs:∀ok' x c c',d.M w base ok' x c→c'.length=c.length→(∀(j:Nat) (u:Value),c[j]?=some u→∃u',c'[j]?=some u'∧laws_markObjectS.mkLike u u')→∃x',d.M w' base ok' x' c'∧rel x x'):
    ∃xs':List α,xs'.length=xs.length∧d.R e w' base ok v xs'∧∀(i:Nat) (x:α),xs[i]?=some x→∃x',xs'[i]?=some x'∧rel x x':=by
 obtain⟨m,inner,ho,hr⟩:=hR
 obtain⟨y,B⟩:=ho
 rcases B with⟨rfl,hn⟩|⟨g,cap,cur,rfl,hb,hg,hnc,hm,hsz,htk⟩
 ·(
 have:xs=[]:=List.eq_nil_of_length_eq_zero hn
 subst this
 exact⟨[],rfl,Kd.R_nil _ _ _ _ _,fun i x hx=>by simp at hx⟩)
 ·(
 obtain⟨cs',hg',hsz',hl'⟩:=h g e cur he hg
 have hll:(cs'.toList.take (xs.length*d.sz)).length=inner.length:=by(
 rw[←htk];simp only[List.length_take,Array.length_toList,hsz'])
 have hcc:∀(j:Nat) (u:Value),inner[j]?=some u→∃u',(cs'.toList.take (xs.length*d.sz))[j]?=some u'∧laws_markObjectS.mkLike u u':=by(
 intro j u hu
 rw[←htk,List.getElem?_take]at hu
 split at hu
 ·(
 rename_i hj
 rw[List.getElem?_take,if_pos hj]
 rw[Array.getElem?_toList]at hu ⊢
 exact hl' j u hu)
 ·cases hu)
 obtain⟨xs',hx,hrep,hrel⟩:=laws_markObjectS.mkReps (R':=d.M w' base (fun k=>ok k∧some k≠(Value.slice (some ⟨g,0,none⟩) xs.length cap).ownBlock)) (rel:=rel) (cs':=cs'.toList.take (xs.length*d.sz)) hr hll hcc (fun x c c'=>hs _ x c c')
 refine⟨xs',hx,⟨fun k hk=>m k hk,cs'.toList.take (xs.length*d.sz),⟨by rw[hll,hx];exact y,.inr ⟨g,cap,cs',by rw[hx],hb,hg',by rw[hx];exact hnc,hm,by rw[hsz',hsz],by rw[hx]⟩⟩,hrep⟩,hrel⟩)
theorem laws_markObjectS.mkFour {c':List Value} {a b d:Int} {t:ByteArray} (hn:c'.length=4) (h:∀(j:Nat) (u:Value),([.int .i64 a,.int .i64 b,.string t,.int .i64 d]:List Value)[j]?=some u→∃u',c'[j]?=some u'∧laws_markObjectS.mkLike u u'):∃a' b' t' d',c'=[.int .i64 a',.int .i64 b',.string t',.int .i64 d']:=by
 obtain⟨I,m,D⟩:=h 0 _ rfl
 obtain⟨J,y,F⟩:=h 1 _ rfl
 obtain⟨K,B,G⟩:=h 2 _ rfl
 obtain⟨L,C,H⟩:=h 3 _ rfl
 obtain⟨a',rfl⟩:=laws_markObjectS.mkLike_int D
 obtain⟨b',rfl⟩:=laws_markObjectS.mkLike_int F
 obtain⟨t',rfl⟩:=laws_markObjectS.mkLike_str G
 obtain⟨d',rfl⟩:=laws_markObjectS.mkLike_int H
 match c',hn with
 |[x0,x1,x2,x3],_=>(
 simp only[List.getElem?_cons_zero,List.getElem?_cons_succ,Option.some.injEq]at m y B C
 subst m y B C
 exact⟨_,_,_,_,rfl⟩)
theorem laws_markObjectS.mkSd.R62 {w w':World} (h:laws_markObjectS.mkSd w w') {base:Nat} {ok:Nat→Prop} {v:Value} {xs:List S29} (hR:Kd.R k29 29 w base ok v xs):∃xs':List S29,xs'.length=xs.length∧Kd.R k29 29 w' base ok v xs':=by
 obtain⟨xs',hx,hr,_⟩:=laws_markObjectS.mkRow (rel:=fun _ _=>True) (.inl rfl) h hR (by(
 intro ok' x c c' hM hn hl
 obtain rfl:=k29_openM hM
 obtain⟨a,b,t,d,rfl⟩:=laws_markObjectS.mkFour hn hl
 exact⟨⟨a,b,t,d⟩,k29_mkM _ _ _ ⟨a,b,t,d⟩,trivial⟩))
 exact⟨xs',hx,hr⟩
theorem laws_markObjectS.mkSd.R64 {w w':World} (h:laws_markObjectS.mkSd w w') {base:Nat} {ok:Nat→Prop} {v:Value} {xs:List S56} (hR:Kd.R k56 56 w base ok v xs):∃xs':List S56,xs'.length=xs.length∧Kd.R k56 56 w' base ok v xs'∧∀(i:Nat) (x:S56),xs[i]?=some x→∃x',xs'[i]?=some x'∧x'.f4.length=x.f4.length∧x'.f5.length=x.f5.length:=
  laws_markObjectS.mkRow (rel:=fun x x'=>x'.f4.length=x.f4.length∧x'.f5.length=x.f5.length) (.inr rfl) h hR (by
    intro ok' x c c' hM hn hl
    obtain⟨v4,v5,rfl,m,y⟩:=k56_openM hM
    obtain⟨A4,c4,rfl⟩:=Kd.R_slice m
    obtain⟨A5,c5,rfl⟩:=Kd.R_slice y
    obtain⟨B,Z,r4⟩:=h.R62 m
    obtain⟨C,e5,r5⟩:=h.R62 y
    obtain⟨u0,D,l0⟩:=hl 0 _ rfl
    obtain⟨u1,F,l1⟩:=hl 1 _ rfl
    obtain⟨u2,G,l2⟩:=hl 2 _ rfl
    obtain⟨u3,H,l3⟩:=hl 3 _ rfl
    obtain⟨u4,I,l4⟩:=hl 4 _ rfl
    obtain⟨u5,J,l5⟩:=hl 5 _ rfl
    obtain⟨u6,K,l6⟩:=hl 6 _ rfl
    obtain⟨u7,L,l7⟩:=hl 7 _ rfl
    obtain⟨u8,N,l8⟩:=hl 8 _ rfl
    obtain⟨u9,O,l9⟩:=hl 9 _ rfl
    obtain⟨Q,rfl⟩:=laws_markObjectS.mkLike_int l0
    obtain⟨S,rfl⟩:=laws_markObjectS.mkLike_int l1
    obtain⟨T,rfl⟩:=laws_markObjectS.mkLike_str l2
    obtain⟨U,rfl⟩:=laws_markObjectS.mkLike_int l3
    obtain rfl:=laws_markObjectS.mkLike_slice l4
    obtain rfl:=laws_markObjectS.mkLike_slice l5
    obtain⟨V,rfl⟩:=laws_markObjectS.mkLike_int l6
    obtain⟨W,rfl⟩:=laws_markObjectS.mkLike_int l7
    obtain⟨X,rfl⟩:=laws_markObjectS.mkLike_str l8
    obtain⟨Y,rfl⟩:=laws_markObjectS.mkLike_int l9
    match c',hn with
    |[x0,x1,x2,x3,x4,x5,x6,x7,x8,x9],_=>
      simp only[List.getElem?_cons_zero,List.getElem?_cons_succ,Option.some.injEq]at D F G H I J K L N O
      subst D F G H I J K L N O
      exact⟨⟨Q,S,T,U,B,C,⟨V,W,X,Y⟩⟩,k56_mkM _ _ _ (⟨Q,S,T,U,B,C,⟨V,W,X,Y⟩⟩:S56) r4 r5,Z,e5⟩)
theorem laws_markObjectS.mkText (a:Int) (ha:a≤9223372036854775807):∃k t,laws_markText.f k a=some t:=by
 have key:∀(d:Nat) (x:Int) (s:ByteArray),x≤d→0≤x→(s.size:Int)+(x+1)/2+2≤9223372036854775807→x≤9223372036854775807→∃k t,laws_markText.l0 k x s=some t:=by(
 intro d
 induction d with
 |zero=>(
 intro x s hx m hs _
 refine⟨1,(⟨#[109]⟩:ByteArray)++s,?_⟩
 simp only[laws_markText.l0]
 rw[if_neg (by omega),if_pos (by omega)])
 |succ d ih=>(
 intro x s hx m hs hm
 by_cases h:x>0
 ·(
 have y:Int.tdiv x 10=x/10:=Int.tdiv_eq_ediv_of_nonneg (by omega)
 have B:wrap64 (Int.tdiv x 10)=x/10:=by rw[y];unfold wrap64;omega
 have hsz:(strOfNums [(wrap64 (48+(Int.tmod x 10)))%256]).size=1:=by simp[strOfNums,ByteArray.size]
 have C:(strOfNums [(wrap64 (48+(Int.tmod x 10)))%256]++s).size=1+s.size:=by rw[ByteArray.size_append,hsz]
 obtain⟨k,t,hk⟩:=ih (x/10) (strOfNums [(wrap64 (48+(Int.tmod x 10)))%256]++s) (by omega) (by omega) (by rw[C];push_cast;omega) (by omega)
 refine⟨k+1,t,?_⟩
 simp only[laws_markText.l0,Option.bind_some]
 rw[if_pos h,if_pos (by rw[hsz];omega),B]
 exact hk)
 ·(
 refine⟨1,(⟨#[109]⟩:ByteArray)++s,?_⟩
 simp only[laws_markText.l0]
 rw[if_neg h,if_pos (by omega)])))
 by_cases h:a≤0
 ·exact⟨0,_,by unfold laws_markText.f;rw[if_pos h]⟩
 ·(
 obtain⟨k,t,hk⟩:=key a.toNat a ⟨#[]⟩ (by omega) (by omega) (by show((0:Nat):Int)+(a+1)/2+2≤_;omega) ha
 exact⟨k,t,by unfold laws_markText.f;rw[if_neg h];exact hk⟩)
theorem laws_markObjectS.mkTop (a:Int):wrap64 a≤9223372036854775807:=by unfold wrap64;omega
def laws_markObjectS.c0 : Nat → Int → Int
  |0,a=>a
  |n+1,a=>laws_markObjectS.c0 n (wrap64 (wrap64 (wrap64 (wrap64 (a+1)+1)+1)+1))
structure laws_markObjectS.mkSt (w0 w:World) (P:Nat→Prop) (wr:World):Prop where
  s:laws_markObjectS.mkSd w wr
  k:Kept w wr P
  b:Below w0.heap.size w0 wr
theorem laws_markObjectS.mkSt.start {w0 w:World} (P:Nat→Prop) (h:Below w0.heap.size w0 w):laws_markObjectS.mkSt w0 w P w:=⟨laws_markObjectS.mkSd.refl w,Kept.refl w P,h⟩
theorem laws_markObjectS.mkSt.below {w0 w wr w1:World} {P:Nat→Prop} (h:laws_markObjectS.mkSt w0 w P wr) (hb:Below wr.heap.size wr w1):laws_markObjectS.mkSt w0 w P w1:=⟨h.s.trans (laws_markObjectS.mkSd.of_below hb),h.k.below hb,below_step h.b hb⟩
theorem laws_markObjectS.mkSt.set {w0 w wr:World} {P:Nat→Prop} (h:laws_markObjectS.mkSt w0 w P wr) {g j:Nat} {u v:Value} (hu:wr.cell? ⟨g,j,none⟩=some u) (hl:laws_markObjectS.mkLike u v) (hP:P g) (hg:w0.heap.size≤g):laws_markObjectS.mkSt w0 w P (wr.setCell ⟨g,j,none⟩ v):=
  ⟨h.s.trans (laws_markObjectS.mkSd.set hu hl),h.k.setCell (.inl hP) v,below_set h.b hg⟩
theorem laws_markObjectS.mkLike_i (a b:Int):laws_markObjectS.mkLike (.int .i64 a) (.int .i64 b):= .inl ⟨_,_,rfl,rfl⟩
theorem laws_markObjectS.mkLike_s (a b:ByteArray):laws_markObjectS.mkLike (.string a) (.string b):= .inr (.inl ⟨_,_,rfl,rfl⟩)
theorem laws_markObjectS.mkElV {w w1:World} {base:Nat} {ok:Nat→Prop} {xs:List S29} {g n c:Nat} (hs:laws_markObjectS.mkSd w w1) (hR:Kd.R k29 29 w base ok (.slice (some ⟨g,0,none⟩) n c) xs) (i:Nat) (hi:i<n):
    ∃ a b t d, w1.cell? ⟨g, i * 4, none⟩ = some (.int .i64 a) ∧ w1.cell? ⟨g, i * 4 + 1, none⟩ = some (.int .i64 b) ∧ w1.cell? ⟨g, i * 4 + 2, none⟩ = some (.string t) ∧ w1.cell? ⟨g, i * 4 + 3, none⟩ = some (.int .i64 d)
      ∧w1.frozen? ⟨g,i*4,none⟩=false∧w1.frozen? ⟨g,i*4+1,none⟩=false∧w1.frozen? ⟨g,i*4+2,none⟩=false∧w1.frozen? ⟨g,i*4+3,none⟩=false:=by
 obtain⟨xs',hl,hR'⟩:=hs.R62 hR
 obtain⟨ce,hcl,hM,hcc,hfr⟩:=Kd.R_elem hR' z29 (i:Int) (by omega) (by omega)
 obtain rfl:=k29_openM hM
 rw[Int.toNat_natCast]at hcc hfr
 exact⟨_,_,_,_,hcc 0 _ rfl,hcc 1 _ rfl,hcc 2 _ rfl,hcc 3 _ rfl,hfr 0,hfr 1,hfr 2,hfr 3⟩
theorem laws_markObjectS.mkMV (P:Nat→Prop) (u:Value) (xs:List S29) (a1:Int) (w0 w:World) (hB:Below w0.heap.size w0 w) (hR:Kd.R k29 29 w w0.heap.size P u xs):
    Calls Try.prog 23 #[u,.int .i64 a1] w fun e w'=>e= .returned (.int .i64 (laws_markObjectS.c0 xs.length a1))∧laws_markObjectS.mkSt w0 w P w':=by
 have HR:=zM hR
 have HS:=zM (laws_markObjectS.mkSt.start P hB)
 obtain⟨r,hr⟩:∃r,laws_markObjectS.c0 xs.length a1=r:=⟨_,rfl⟩
 rw[hr]
 have HM:xs.length≤9223372036854775807:=by(
 obtain⟨inner,ho⟩:=Kd.R_own hR
 rcases ho.2 with⟨_,h⟩|⟨g,cap,cur,_,_,_,h,hm,_⟩
 ·omega
 ·simp only[maxLen]at hm;omega)
 clear hB hR
 obtain⟨A,c,eu⟩:=Kd.R_slice HR.out
 subst eu
 go_enter Try.func23,Try.ntmps23
 go_wp2
 go_loopg [1,5] xs.length (fun kq N O w'=>∃(i:Nat) (x:Int),N= .int .i64 x∧O= .int .i64 (i:Int)∧Aside0 (i+kq=xs.length)∧Aside0 (laws_markObjectS.c0 kq x=r)∧Aside0 (laws_markObjectS.mkSt w0 w P w'))
 case atStart=>exact⟨0,a1,rfl,rfl,⟨by omega⟩,⟨hr⟩,HS⟩
 case round=>(
 clear hr HS
 obtain⟨i,x,rfl,rfl,HI,HN,HS⟩:=hrel
 cases gk with
 |zero=>(
 have hi:=HI.out
 have c3b:decide ((i:Int)<(xs.length:Int))=false:=zF (by omega)
 have hn:x=r:=HN.out
 subst hn
 go_wp2
 go_ret
 exact⟨rfl,HS.out⟩)
 |succ k1=>(
 have hi:=HI.out
 have c3b:decide ((i:Int)<(xs.length:Int))=true:=zT (by omega)
 have c4b:decide (0≤(i:Int))=true:=zT (by omega)
 have T:=eq_true (show 0≤(i:Int) by omega)
 have U:=eq_true (show(i:Int)<(xs.length:Int) by omega)
 obtain⟨g,cap,e,hb,hl,_⟩:=Kd.R_form HR.out (by omega)
 injection e with ea en ec
 subst ea ec
 clear en
 have GB:=zM hb
 have GP:=zM (show P g from HR.out.1 _ rfl)
 have HX:Aside0 (i<xs.length):=⟨by omega⟩
 clear hb hl hi
 obtain⟨k,t,ht⟩:=laws_markObjectS.mkText (wrap64 (wrap64 (x+1)+1)) (laws_markObjectS.mkTop _)
 have HT:=zM ht
 clear ht
 obtain⟨a,b,s,d,y,B,C,D,F,G,H,I⟩:=laws_markObjectS.mkElV HS.out.s HR.out i HX.out
 go_wp2_with (first
   |((with_reducible refine gate_store (t:=2) (p:=16) rfl ?_);refine store_event (t:=2) (p:=16) (v:=?vo_w12) (w1:=(wr.setCell ⟨g,i*4,none⟩ (.int .i64 x))) ?hg ?ho ?hn ?hr ?_;(case ho=>rfl);(case hg=>rfl);(case hn=>rfl);(case hr=>first|(go_simp;done)|(go_simp;rfl));intro J hw;have m:Aside0 (laws_markObjectS.mkSt w0 w P J):=⟨by rw[hw];exact HS.out.set y (laws_markObjectS.mkLike_i _ _) GP.out GB.out⟩;clear HS hw y B C D F G H I;have HS:=m;clear m;obtain⟨a,b,s,d,y,B,C,D,F,G,H,I⟩:=laws_markObjectS.mkElV HS.out.s HR.out i HX.out)
   |((with_reducible refine gate_store (t:=2) (p:=23) rfl ?_);refine store_event (t:=2) (p:=23) (v:=?vo_w14) (w1:=(J.setCell ⟨g,i*4+1,none⟩ (.int .i64 (wrap64 (x+1))))) ?hg ?ho ?hn ?hr ?_;(case ho=>rfl);(case hg=>rfl);(case hn=>rfl);(case hr=>first|(go_simp;done)|(go_simp;rfl));intro Q hw;have m:Aside0 (laws_markObjectS.mkSt w0 w P Q):=⟨by rw[hw];exact HS.out.set B (laws_markObjectS.mkLike_i _ _) GP.out GB.out⟩;clear HS hw y B C D F G H I;have HS:=m;clear m)
   |((with_reducible refine gate_callee (f:=60) rfl ?_);refine goesL_ (some 29) rfl rfl Try.func60 (by kernel_rfl) rfl #[.int .i64 (wrap64 ((wrap64 (x+1))+1))] rfl (by(try simp only[List.map_toArray,List.map_cons,List.map_nil]);first|done|rfl) ?_;(with_reducible refine(laws_markText.calls k (wrap64 ((wrap64 (x+1))+1)) t _ HT.out).mono ?_);rintro e K ⟨rfl,hb⟩;refine⟨_,rfl,?_⟩;have m:Aside0 (laws_markObjectS.mkSt w0 w P K):=⟨HS.out.below hb⟩;clear HS hb;have HS:=m;clear m;obtain⟨a,b,s,d,y,B,C,D,F,G,H,I⟩:=laws_markObjectS.mkElV HS.out.s HR.out i HX.out)
   |((with_reducible refine gate_store (t:=9) (p:=31) rfl ?_);refine store_event (t:=9) (p:=31) (v:=?vo_w17) (w1:=(K.setCell ⟨g,i*4+2,none⟩ (.string t))) ?hg ?ho ?hn ?hr ?_;(case ho=>rfl);(case hg=>rfl);(case hn=>rfl);(case hr=>first|(go_simp;done)|(go_simp;rfl));intro L hw;have m:Aside0 (laws_markObjectS.mkSt w0 w P L):=⟨by rw[hw];exact HS.out.set C (laws_markObjectS.mkLike_s _ _) GP.out GB.out⟩;clear HS hw y B C D F G H I;have HS:=m;clear m;obtain⟨a,b,s,d,y,B,C,D,F,G,H,I⟩:=laws_markObjectS.mkElV HS.out.s HR.out i HX.out)
   |((with_reducible refine gate_store (t:=2) (p:=38) rfl ?_);refine store_event (t:=2) (p:=38) (v:=?vo_w19) (w1:=(L.setCell ⟨g,i*4+3,none⟩ (.int .i64 (wrap64 ((wrap64 ((wrap64 (x+1))+1))+1))))) ?hg ?ho ?hn ?hr ?_;(case ho=>rfl);(case hg=>rfl);(case hn=>rfl);(case hr=>first|(go_simp;done)|(go_simp;rfl));intro S hw;have m:Aside0 (laws_markObjectS.mkSt w0 w P S):=⟨by rw[hw];exact HS.out.set D (laws_markObjectS.mkLike_i _ _) GP.out GB.out⟩;clear HS hw y B C D F G H I;have HS:=m;clear m))
 go_roundg k1
 case measure=>omega
 case rel=>exact⟨i+1,wrap64 (wrap64 (wrap64 (wrap64 (x+1)+1)+1)+1),rfl,by have:=HX.out;congr 1;unfold wrap64;omega,⟨by have:=HI.out;omega⟩,⟨HN.out⟩,HS⟩))
theorem laws_markObjectS.mkSt.after {w0 w wr w2:World} {P:Nat→Prop} (h:laws_markObjectS.mkSt w0 w P wr) (k:laws_markObjectS.mkSt w0 wr P w2):laws_markObjectS.mkSt w0 w P w2:=⟨h.s.trans k.s,h.k.then_ k.k (fun _ hk=> .inl hk),k.b⟩
def laws_markObjectS.cf (a:Int):Int:=wrap64 (wrap64 (wrap64 (wrap64 (a+1)+1)+1)+1)
def laws_markObjectS.v0 : List S56 → Int → Int
  |[],a=>a
  |o::l,a=>laws_markObjectS.v0 l (laws_markObjectS.cf (laws_markObjectS.c0 o.f5.length (laws_markObjectS.c0 o.f4.length (laws_markObjectS.cf a))))
theorem laws_markObjectS.mkElO {w w1:World} {base:Nat} {ok:Nat→Prop} {xs:List S56} {g n c:Nat} (hs:laws_markObjectS.mkSd w w1) (hR:Kd.R k56 56 w base ok (.slice (some ⟨g,0,none⟩) n c) xs) (i:Nat) (hi:i<xs.length) (hn:n=xs.length):
    ∃ a b s d m y B C e f t h, ∃ D ys5 : List S29, w1.cell? ⟨g, i * 10, none⟩ = some (.int .i64 a) ∧ w1.cell? ⟨g, i * 10 + 1, none⟩ = some (.int .i64 b) ∧ w1.cell? ⟨g, i * 10 + 2, none⟩ = some (.string s) ∧ w1.cell? ⟨g, i * 10 + 3, none⟩ = some (.int .i64 d) ∧ w1.cell? ⟨g, i * 10 + 4, none⟩ = some (.slice m D.length y) ∧ w1.cell? ⟨g, i * 10 + 5, none⟩ = some (.slice B ys5.length C) ∧ w1.cell? ⟨g, i * 10 + 6, none⟩ = some (.int .i64 e) ∧ w1.cell? ⟨g, i * 10 + 7, none⟩ = some (.int .i64 f) ∧ w1.cell? ⟨g, i * 10 + 8, none⟩ = some (.string t) ∧ w1.cell? ⟨g, i * 10 + 9, none⟩ = some (.int .i64 h)
      ∧w1.frozen? ⟨g,i*10,none⟩=false∧w1.frozen? ⟨g,i*10+1,none⟩=false∧w1.frozen? ⟨g,i*10+2,none⟩=false∧w1.frozen? ⟨g,i*10+3,none⟩=false∧w1.frozen? ⟨g,i*10+4,none⟩=false∧w1.frozen? ⟨g,i*10+5,none⟩=false∧w1.frozen? ⟨g,i*10+6,none⟩=false∧w1.frozen? ⟨g,i*10+7,none⟩=false∧w1.frozen? ⟨g,i*10+8,none⟩=false∧w1.frozen? ⟨g,i*10+9,none⟩=false
      ∧D.length=(xs[i]).f4.length∧ys5.length=(xs[i]).f5.length∧Kd.R k29 29 w1 base ok (.slice m D.length y) D∧Kd.R k29 29 w1 base ok (.slice B ys5.length C) ys5:=by
 obtain⟨xs',hl,hR',hrel⟩:=hs.R64 hR
 obtain⟨ce,hcl,hM,hcc,hfr⟩:=Kd.R_elem hR' z56 (i:Int) (by omega) (by omega)
 obtain⟨x',hx',H,I⟩:=hrel i xs[i] (List.getElem?_eq_getElem hi)
 have eg:xs'.getD (i:Int).toNat z56=x':=by rw[Int.toNat_natCast,List.getD_eq_getElem?_getD,hx'];rfl
 rw[eg]at hM
 obtain⟨J,K,rfl,F,G⟩:=k56_openM hM
 obtain⟨m,y,rfl⟩:=Kd.R_slice F
 obtain⟨B,C,rfl⟩:=Kd.R_slice G
 rw[Int.toNat_natCast]at hcc hfr
 exact⟨_,_,_,_,m,y,B,C,_,_,_,_,x'.f4,x'.f5,hcc 0 _ rfl,hcc 1 _ rfl,hcc 2 _ rfl,hcc 3 _ rfl,hcc 4 _ rfl,hcc 5 _ rfl,hcc 6 _ rfl,hcc 7 _ rfl,hcc 8 _ rfl,hcc 9 _ rfl,hfr 0,hfr 1,hfr 2,hfr 3,hfr 4,hfr 5,hfr 6,hfr 7,hfr 8,hfr 9,H,I,Kd.R_mono F (fun _ hk=>hk.1),Kd.R_mono G (fun _ hk=>hk.1)⟩
set_option maxHeartbeats 8000000 in
set_option maxRecDepth 100000 in
theorem laws_markObjectS.mkMO (P:Nat→Prop) (u:Value) (xs:List S56) (a1:Int) (w0 w:World) (hB:Below w0.heap.size w0 w) (hR:Kd.R k56 56 w w0.heap.size P u xs):
    Calls Try.prog 59 #[u,.int .i64 a1] w fun e w'=>e= .returned (.int .i64 (laws_markObjectS.v0 xs a1))∧laws_markObjectS.mkSt w0 w P w':=by
 have HR:=zM hR
 have HS:=zM (laws_markObjectS.mkSt.start P hB)
 obtain⟨r,hr⟩:∃r,laws_markObjectS.v0 xs a1=r:=⟨_,rfl⟩
 rw[hr]
 have ae:xs.length≤9223372036854775807:=by(
 obtain⟨inner,ho⟩:=Kd.R_own hR
 rcases ho.2 with⟨_,h⟩|⟨g,cap,cur,_,_,_,h,hm,_⟩
 ·omega
 ·simp only[maxLen]at hm;omega)
 have HM:=zM ae
 clear hB hR ae
 obtain⟨A,c,eu⟩:=Kd.R_slice HR.out
 subst eu
 go_enter Try.func59,Try.ntmps59
 go_wp2
 go_loopg [1,5] xs.length (fun kq v1 v5 w'=>∃(i:Nat) (x:Int),v1= .int .i64 x∧v5= .int .i64 (i:Int)∧Aside0 (i+kq=xs.length)∧Aside0 (laws_markObjectS.v0 (xs.drop i) x=r)∧Aside0 (laws_markObjectS.mkSt w0 w P w'))
 case atStart=>exact⟨0,a1,rfl,rfl,⟨by omega⟩,⟨hr⟩,HS⟩
 case round=>(
 clear hr HS
 obtain⟨i,x,rfl,rfl,HI,HN,HS⟩:=hrel
 cases gk with
 |zero=>(
 have hi:=HI.out
 have c3b:decide ((i:Int)<(xs.length:Int))=false:=zF (by omega)
 have hn:x=r:=by have:=HN.out;rw[List.drop_eq_nil_of_le (by omega)]at this;exact this
 subst hn
 go_wp2
 go_ret
 exact⟨rfl,HS.out⟩)
 |succ k1=>(
 have hi:=HI.out
 have c3b:decide ((i:Int)<(xs.length:Int))=true:=zT (by omega)
 have c4b:decide (0≤(i:Int))=true:=zT (by omega)
 have p5:=eq_true (show 0≤(i:Int) by omega)
 have q5:=eq_true (show(i:Int)<(xs.length:Int) by omega)
 have hil:i<xs.length:=by omega
 have HX:Aside0 (i<xs.length):=⟨hil⟩
 obtain⟨z,hz⟩:∃z,laws_markObjectS.c0 (xs[i]).f5.length (laws_markObjectS.c0 (xs[i]).f4.length (wrap64 ((wrap64 ((wrap64 ((wrap64 (x+1))+1))+1))+1)))=z:=⟨_,rfl⟩
 have HZ:=zM hz
 have af:Aside0 (laws_markObjectS.v0 (xs.drop (i+1)) (laws_markObjectS.cf z)=r):=⟨by have:=HN.out;rw[List.drop_eq_getElem_cons hil]at this;rw[←hz];exact this⟩
 obtain⟨g,cap,e,hb,hl,_⟩:=Kd.R_form HR.out (by omega)
 injection e with ea en ec
 subst ea ec
 clear en
 have GB:=zM hb
 have GP:=zM (show P g from HR.out.1 _ rfl)
 clear hb hl hi hz HN
 obtain⟨k,t1,ht⟩:=laws_markObjectS.mkText (wrap64 ((wrap64 (x+1))+1)) (laws_markObjectS.mkTop _)
 have T1:=zM ht
 clear ht
 obtain⟨k',t2,ht⟩:=laws_markObjectS.mkText (wrap64 ((wrap64 (z+1))+1)) (laws_markObjectS.mkTop _)
 have T2:=zM ht
 clear ht
 obtain⟨a,b,s,d,A4,c4,A5,c5,e,f,t,h,aa,ab,L,N,O,Q,X,Y,S,m,y,B,Z,f1,f2,f3,f4,f5,f6,C,D,F,G,H,I,J⟩:=laws_markObjectS.mkElO HS.out.s HR.out i HX.out rfl;have T:=zM G;have U:=zM H;have V:=zM I;have W:=zM J;clear G H I J;have y7:wr.cell? ⟨g,i*10+6+1,none⟩=some (.int .i64 f):=m;have q7:wr.frozen? ⟨g,i*10+6+1,none⟩=false:=C;have y8:wr.cell? ⟨g,i*10+6+2,none⟩=some (.string t):=y;have q8:wr.frozen? ⟨g,i*10+6+2,none⟩=false:=D;have y9:wr.cell? ⟨g,i*10+6+3,none⟩=some (.int .i64 h):=B;have q9:wr.frozen? ⟨g,i*10+6+3,none⟩=false:=F
 go_wp2_with (first
   |((with_reducible refine gate_store (t:=2) (p:=16) rfl ?_);refine store_event (t:=2) (p:=16) (v:=?vo_W1) (w1:=(wr.setCell ⟨g,i*10,none⟩ (.int .i64 x))) ?hg ?ho ?hn ?hr ?_;(case ho=>rfl);(case hg=>rfl);(case hn=>rfl);(case hr=>first|(go_simp;done)|(go_simp;rfl));intro W1 hw;have K:Aside0 (laws_markObjectS.mkSt w0 w P W1):=⟨by rw[hw];exact HS.out.set L (laws_markObjectS.mkLike_i _ _) GP.out GB.out⟩;clear HS hw;clear L N O Q X Y S m y B Z f1 f2 f3 f4 f5 f6 C D F y7 y8 y9 q7 q8 q9 T U V W;have HS:=K;clear K;obtain⟨a,b,s,d,A4,c4,A5,c5,e,f,t,h,aa,ab,L,N,O,Q,X,Y,S,m,y,B,Z,f1,f2,f3,f4,f5,f6,C,D,F,G,H,I,J⟩:=laws_markObjectS.mkElO HS.out.s HR.out i HX.out rfl;have T:=zM G;have U:=zM H;have V:=zM I;have W:=zM J;clear G H I J;have y7:W1.cell? ⟨g,i*10+6+1,none⟩=some (.int .i64 f):=m;have q7:W1.frozen? ⟨g,i*10+6+1,none⟩=false:=C;have y8:W1.cell? ⟨g,i*10+6+2,none⟩=some (.string t):=y;have q8:W1.frozen? ⟨g,i*10+6+2,none⟩=false:=D;have y9:W1.cell? ⟨g,i*10+6+3,none⟩=some (.int .i64 h):=B;have q9:W1.frozen? ⟨g,i*10+6+3,none⟩=false:=F)
   |((with_reducible refine gate_store (t:=2) (p:=23) rfl ?_);refine store_event (t:=2) (p:=23) (v:=?vo_W2) (w1:=(W1.setCell ⟨g,i*10+1,none⟩ (.int .i64 (wrap64 (x+1))))) ?hg ?ho ?hn ?hr ?_;(case ho=>rfl);(case hg=>rfl);(case hn=>rfl);(case hr=>first|(go_simp;done)|(go_simp;rfl));intro W2 hw;have K:Aside0 (laws_markObjectS.mkSt w0 w P W2):=⟨by rw[hw];exact HS.out.set N (laws_markObjectS.mkLike_i _ _) GP.out GB.out⟩;clear HS hw;clear L N O Q X Y S m y B Z f1 f2 f3 f4 f5 f6 C D F y7 y8 y9 q7 q8 q9 T U V W;have HS:=K;clear K;obtain⟨a,b,s,d,A4,c4,A5,c5,e,f,t,h,aa,ab,L,N,O,Q,X,Y,S,m,y,B,Z,f1,f2,f3,f4,f5,f6,C,D,F,G,H,I,J⟩:=laws_markObjectS.mkElO HS.out.s HR.out i HX.out rfl;have T:=zM G;have U:=zM H;have V:=zM I;have W:=zM J;clear G H I J;have y7:W2.cell? ⟨g,i*10+6+1,none⟩=some (.int .i64 f):=m;have q7:W2.frozen? ⟨g,i*10+6+1,none⟩=false:=C;have y8:W2.cell? ⟨g,i*10+6+2,none⟩=some (.string t):=y;have q8:W2.frozen? ⟨g,i*10+6+2,none⟩=false:=D;have y9:W2.cell? ⟨g,i*10+6+3,none⟩=some (.int .i64 h):=B;have q9:W2.frozen? ⟨g,i*10+6+3,none⟩=false:=F)
   |((with_reducible refine gate_callee (f:=60) rfl ?_);refine goesL_ (some 29) rfl rfl Try.func60 (by kernel_rfl) rfl #[.int .i64 (wrap64 ((wrap64 (x+1))+1))] rfl (by(try simp only[List.map_toArray,List.map_cons,List.map_nil]);first|done|rfl) ?_;(with_reducible refine(laws_markText.calls _ (wrap64 ((wrap64 (x+1))+1)) _ _ T1.out).mono ?_);rintro e_ W3 ⟨rfl,hb⟩;refine⟨_,rfl,?_⟩;have K:Aside0 (laws_markObjectS.mkSt w0 w P W3):=⟨HS.out.below hb⟩;clear HS hb;clear L N O Q X Y S m y B Z f1 f2 f3 f4 f5 f6 C D F y7 y8 y9 q7 q8 q9 T U V W;have HS:=K;clear K;obtain⟨a,b,s,d,A4,c4,A5,c5,e,f,t,h,aa,ab,L,N,O,Q,X,Y,S,m,y,B,Z,f1,f2,f3,f4,f5,f6,C,D,F,G,H,I,J⟩:=laws_markObjectS.mkElO HS.out.s HR.out i HX.out rfl;have T:=zM G;have U:=zM H;have V:=zM I;have W:=zM J;clear G H I J;have y7:W3.cell? ⟨g,i*10+6+1,none⟩=some (.int .i64 f):=m;have q7:W3.frozen? ⟨g,i*10+6+1,none⟩=false:=C;have y8:W3.cell? ⟨g,i*10+6+2,none⟩=some (.string t):=y;have q8:W3.frozen? ⟨g,i*10+6+2,none⟩=false:=D;have y9:W3.cell? ⟨g,i*10+6+3,none⟩=some (.int .i64 h):=B;have q9:W3.frozen? ⟨g,i*10+6+3,none⟩=false:=F)
   |((with_reducible refine gate_store (t:=9) (p:=31) rfl ?_);refine store_event (t:=9) (p:=31) (v:=?vo_W4) (w1:=(W3.setCell ⟨g,i*10+2,none⟩ (.string t1))) ?hg ?ho ?hn ?hr ?_;(case ho=>rfl);(case hg=>rfl);(case hn=>rfl);(case hr=>first|(go_simp;done)|(go_simp;rfl));intro W4 hw;have K:Aside0 (laws_markObjectS.mkSt w0 w P W4):=⟨by rw[hw];exact HS.out.set O (laws_markObjectS.mkLike_s _ _) GP.out GB.out⟩;clear HS hw;clear L N O Q X Y S m y B Z f1 f2 f3 f4 f5 f6 C D F y7 y8 y9 q7 q8 q9 T U V W;have HS:=K;clear K;obtain⟨a,b,s,d,A4,c4,A5,c5,e,f,t,h,aa,ab,L,N,O,Q,X,Y,S,m,y,B,Z,f1,f2,f3,f4,f5,f6,C,D,F,G,H,I,J⟩:=laws_markObjectS.mkElO HS.out.s HR.out i HX.out rfl;have T:=zM G;have U:=zM H;have V:=zM I;have W:=zM J;clear G H I J;have y7:W4.cell? ⟨g,i*10+6+1,none⟩=some (.int .i64 f):=m;have q7:W4.frozen? ⟨g,i*10+6+1,none⟩=false:=C;have y8:W4.cell? ⟨g,i*10+6+2,none⟩=some (.string t):=y;have q8:W4.frozen? ⟨g,i*10+6+2,none⟩=false:=D;have y9:W4.cell? ⟨g,i*10+6+3,none⟩=some (.int .i64 h):=B;have q9:W4.frozen? ⟨g,i*10+6+3,none⟩=false:=F)
   |((with_reducible refine gate_store (t:=2) (p:=38) rfl ?_);refine store_event (t:=2) (p:=38) (v:=?vo_W5) (w1:=(W4.setCell ⟨g,i*10+3,none⟩ (.int .i64 (wrap64 ((wrap64 ((wrap64 (x+1))+1))+1))))) ?hg ?ho ?hn ?hr ?_;(case ho=>rfl);(case hg=>rfl);(case hn=>rfl);(case hr=>first|(go_simp;done)|(go_simp;rfl));intro W5 hw;have K:Aside0 (laws_markObjectS.mkSt w0 w P W5):=⟨by rw[hw];exact HS.out.set Q (laws_markObjectS.mkLike_i _ _) GP.out GB.out⟩;clear HS hw;clear L N O Q X Y S m y B Z f1 f2 f3 f4 f5 f6 C D F y7 y8 y9 q7 q8 q9 T U V W;have HS:=K;clear K;obtain⟨a,b,s,d,A4,c4,A5,c5,e,f,t,h,aa,ab,L,N,O,Q,X,Y,S,m,y,B,Z,f1,f2,f3,f4,f5,f6,C,D,F,G,H,I,J⟩:=laws_markObjectS.mkElO HS.out.s HR.out i HX.out rfl;have T:=zM G;have U:=zM H;have V:=zM I;have W:=zM J;clear G H I J;have y7:W5.cell? ⟨g,i*10+6+1,none⟩=some (.int .i64 f):=m;have q7:W5.frozen? ⟨g,i*10+6+1,none⟩=false:=C;have y8:W5.cell? ⟨g,i*10+6+2,none⟩=some (.string t):=y;have q8:W5.frozen? ⟨g,i*10+6+2,none⟩=false:=D;have y9:W5.cell? ⟨g,i*10+6+3,none⟩=some (.int .i64 h):=B;have q9:W5.frozen? ⟨g,i*10+6+3,none⟩=false:=F)
   |((with_reducible refine gate_callee (f:=23) rfl ?_);refine goesL_ (some 47) rfl rfl Try.func23 (by kernel_rfl) rfl #[.slice A4 aa.length c4,.int .i64 (wrap64 ((wrap64 ((wrap64 ((wrap64 (x+1))+1))+1))+1))] rfl (by(try simp only[List.map_toArray,List.map_cons,List.map_nil]);first|done|rfl) ?_;(with_reducible refine(laws_markObjectS.mkMV P _ aa (wrap64 ((wrap64 ((wrap64 ((wrap64 (x+1))+1))+1))+1)) w0 W5 HS.out.b V.out).mono ?_);rintro e_ W6 ⟨rfl,hb⟩;refine⟨_,rfl,?_⟩;have K:Aside0 (laws_markObjectS.mkSt w0 w P W6):=⟨HS.out.after hb⟩;rw[T.out];clear HS hb;clear L N O Q X Y S m y B Z f1 f2 f3 f4 f5 f6 C D F y7 y8 y9 q7 q8 q9 T U V W;have HS:=K;clear K;obtain⟨a,b,s,d,A4,c4,A5,c5,e,f,t,h,aa,ab,L,N,O,Q,X,Y,S,m,y,B,Z,f1,f2,f3,f4,f5,f6,C,D,F,G,H,I,J⟩:=laws_markObjectS.mkElO HS.out.s HR.out i HX.out rfl;have T:=zM G;have U:=zM H;have V:=zM I;have W:=zM J;clear G H I J;have y7:W6.cell? ⟨g,i*10+6+1,none⟩=some (.int .i64 f):=m;have q7:W6.frozen? ⟨g,i*10+6+1,none⟩=false:=C;have y8:W6.cell? ⟨g,i*10+6+2,none⟩=some (.string t):=y;have q8:W6.frozen? ⟨g,i*10+6+2,none⟩=false:=D;have y9:W6.cell? ⟨g,i*10+6+3,none⟩=some (.int .i64 h):=B;have q9:W6.frozen? ⟨g,i*10+6+3,none⟩=false:=F)
   |((with_reducible refine gate_callee (f:=23) rfl ?_);refine goesL_ (some 54) rfl rfl Try.func23 (by kernel_rfl) rfl #[.slice A5 ab.length c5,.int .i64 (laws_markObjectS.c0 (xs[i]).f4.length (wrap64 ((wrap64 ((wrap64 ((wrap64 (x+1))+1))+1))+1)))] rfl (by(try simp only[List.map_toArray,List.map_cons,List.map_nil]);first|done|rfl) ?_;(with_reducible refine(laws_markObjectS.mkMV P _ ab (laws_markObjectS.c0 (xs[i]).f4.length (wrap64 ((wrap64 ((wrap64 ((wrap64 (x+1))+1))+1))+1))) w0 W6 HS.out.b W.out).mono ?_);rintro e_ W7 ⟨rfl,hb⟩;refine⟨_,rfl,?_⟩;have K:Aside0 (laws_markObjectS.mkSt w0 w P W7):=⟨HS.out.after hb⟩;rw[U.out,HZ.out];clear HS hb;clear L N O Q X Y S m y B Z f1 f2 f3 f4 f5 f6 C D F y7 y8 y9 q7 q8 q9 T U V W;have HS:=K;clear K;obtain⟨a,b,s,d,A4,c4,A5,c5,e,f,t,h,aa,ab,L,N,O,Q,X,Y,S,m,y,B,Z,f1,f2,f3,f4,f5,f6,C,D,F,G,H,I,J⟩:=laws_markObjectS.mkElO HS.out.s HR.out i HX.out rfl;have T:=zM G;have U:=zM H;have V:=zM I;have W:=zM J;clear G H I J;have y7:W7.cell? ⟨g,i*10+6+1,none⟩=some (.int .i64 f):=m;have q7:W7.frozen? ⟨g,i*10+6+1,none⟩=false:=C;have y8:W7.cell? ⟨g,i*10+6+2,none⟩=some (.string t):=y;have q8:W7.frozen? ⟨g,i*10+6+2,none⟩=false:=D;have y9:W7.cell? ⟨g,i*10+6+3,none⟩=some (.int .i64 h):=B;have q9:W7.frozen? ⟨g,i*10+6+3,none⟩=false:=F)
   |((with_reducible refine gate_store (t:=2) (p:=60) rfl ?_);refine store_event (t:=2) (p:=60) (v:=?vo_W8) (w1:=(W7.setCell ⟨g,i*10+6,none⟩ (.int .i64 z))) ?hg ?ho ?hn ?hr ?_;(case ho=>rfl);(case hg=>rfl);(case hn=>rfl);(case hr=>first|(go_simp;done)|(go_simp;rfl));intro W8 hw;have K:Aside0 (laws_markObjectS.mkSt w0 w P W8):=⟨by rw[hw];exact HS.out.set S (laws_markObjectS.mkLike_i _ _) GP.out GB.out⟩;clear HS hw;clear L N O Q X Y S m y B Z f1 f2 f3 f4 f5 f6 C D F y7 y8 y9 q7 q8 q9 T U V W;have HS:=K;clear K;obtain⟨a,b,s,d,A4,c4,A5,c5,e,f,t,h,aa,ab,L,N,O,Q,X,Y,S,m,y,B,Z,f1,f2,f3,f4,f5,f6,C,D,F,G,H,I,J⟩:=laws_markObjectS.mkElO HS.out.s HR.out i HX.out rfl;have T:=zM G;have U:=zM H;have V:=zM I;have W:=zM J;clear G H I J;have y7:W8.cell? ⟨g,i*10+6+1,none⟩=some (.int .i64 f):=m;have q7:W8.frozen? ⟨g,i*10+6+1,none⟩=false:=C;have y8:W8.cell? ⟨g,i*10+6+2,none⟩=some (.string t):=y;have q8:W8.frozen? ⟨g,i*10+6+2,none⟩=false:=D;have y9:W8.cell? ⟨g,i*10+6+3,none⟩=some (.int .i64 h):=B;have q9:W8.frozen? ⟨g,i*10+6+3,none⟩=false:=F)
   |((with_reducible refine gate_store (t:=2) (p:=68) rfl ?_);refine store_event (t:=2) (p:=68) (v:=?vo_W9) (w1:=(W8.setCell ⟨g,i*10+7,none⟩ (.int .i64 (wrap64 (z+1))))) ?hg ?ho ?hn ?hr ?_;(case ho=>rfl);(case hg=>rfl);(case hn=>rfl);(case hr=>first|(go_simp;done)|(go_simp;rfl));intro W9 hw;have K:Aside0 (laws_markObjectS.mkSt w0 w P W9):=⟨by rw[hw];exact HS.out.set m (laws_markObjectS.mkLike_i _ _) GP.out GB.out⟩;clear HS hw;clear L N O Q X Y S m y B Z f1 f2 f3 f4 f5 f6 C D F y7 y8 y9 q7 q8 q9 T U V W;have HS:=K;clear K;obtain⟨a,b,s,d,A4,c4,A5,c5,e,f,t,h,aa,ab,L,N,O,Q,X,Y,S,m,y,B,Z,f1,f2,f3,f4,f5,f6,C,D,F,G,H,I,J⟩:=laws_markObjectS.mkElO HS.out.s HR.out i HX.out rfl;have T:=zM G;have U:=zM H;have V:=zM I;have W:=zM J;clear G H I J;have y7:W9.cell? ⟨g,i*10+6+1,none⟩=some (.int .i64 f):=m;have q7:W9.frozen? ⟨g,i*10+6+1,none⟩=false:=C;have y8:W9.cell? ⟨g,i*10+6+2,none⟩=some (.string t):=y;have q8:W9.frozen? ⟨g,i*10+6+2,none⟩=false:=D;have y9:W9.cell? ⟨g,i*10+6+3,none⟩=some (.int .i64 h):=B;have q9:W9.frozen? ⟨g,i*10+6+3,none⟩=false:=F)
   |((with_reducible refine gate_callee (f:=60) rfl ?_);refine goesL_ (some 74) rfl rfl Try.func60 (by kernel_rfl) rfl #[.int .i64 (wrap64 ((wrap64 (z+1))+1))] rfl (by(try simp only[List.map_toArray,List.map_cons,List.map_nil]);first|done|rfl) ?_;(with_reducible refine(laws_markText.calls _ (wrap64 ((wrap64 (z+1))+1)) _ _ T2.out).mono ?_);rintro e_ ac ⟨rfl,hb⟩;refine⟨_,rfl,?_⟩;have K:Aside0 (laws_markObjectS.mkSt w0 w P ac):=⟨HS.out.below hb⟩;clear HS hb;clear L N O Q X Y S m y B Z f1 f2 f3 f4 f5 f6 C D F y7 y8 y9 q7 q8 q9 T U V W;have HS:=K;clear K;obtain⟨a,b,s,d,A4,c4,A5,c5,e,f,t,h,aa,ab,L,N,O,Q,X,Y,S,m,y,B,Z,f1,f2,f3,f4,f5,f6,C,D,F,G,H,I,J⟩:=laws_markObjectS.mkElO HS.out.s HR.out i HX.out rfl;have T:=zM G;have U:=zM H;have V:=zM I;have W:=zM J;clear G H I J;have y7:ac.cell? ⟨g,i*10+6+1,none⟩=some (.int .i64 f):=m;have q7:ac.frozen? ⟨g,i*10+6+1,none⟩=false:=C;have y8:ac.cell? ⟨g,i*10+6+2,none⟩=some (.string t):=y;have q8:ac.frozen? ⟨g,i*10+6+2,none⟩=false:=D;have y9:ac.cell? ⟨g,i*10+6+3,none⟩=some (.int .i64 h):=B;have q9:ac.frozen? ⟨g,i*10+6+3,none⟩=false:=F)
   |((with_reducible refine gate_store (t:=9) (p:=77) rfl ?_);refine store_event (t:=9) (p:=77) (v:=?vo_W11) (w1:=(ac.setCell ⟨g,i*10+8,none⟩ (.string t2))) ?hg ?ho ?hn ?hr ?_;(case ho=>rfl);(case hg=>rfl);(case hn=>rfl);(case hr=>first|(go_simp;done)|(go_simp;rfl));intro ad hw;have K:Aside0 (laws_markObjectS.mkSt w0 w P ad):=⟨by rw[hw];exact HS.out.set y (laws_markObjectS.mkLike_s _ _) GP.out GB.out⟩;clear HS hw;clear L N O Q X Y S m y B Z f1 f2 f3 f4 f5 f6 C D F y7 y8 y9 q7 q8 q9 T U V W;have HS:=K;clear K;obtain⟨a,b,s,d,A4,c4,A5,c5,e,f,t,h,aa,ab,L,N,O,Q,X,Y,S,m,y,B,Z,f1,f2,f3,f4,f5,f6,C,D,F,G,H,I,J⟩:=laws_markObjectS.mkElO HS.out.s HR.out i HX.out rfl;have T:=zM G;have U:=zM H;have V:=zM I;have W:=zM J;clear G H I J;have y7:ad.cell? ⟨g,i*10+6+1,none⟩=some (.int .i64 f):=m;have q7:ad.frozen? ⟨g,i*10+6+1,none⟩=false:=C;have y8:ad.cell? ⟨g,i*10+6+2,none⟩=some (.string t):=y;have q8:ad.frozen? ⟨g,i*10+6+2,none⟩=false:=D;have y9:ad.cell? ⟨g,i*10+6+3,none⟩=some (.int .i64 h):=B;have q9:ad.frozen? ⟨g,i*10+6+3,none⟩=false:=F)
   |((with_reducible refine gate_store (t:=2) (p:=85) rfl ?_);refine store_event (t:=2) (p:=85) (v:=?vo_W12) (w1:=(ad.setCell ⟨g,i*10+9,none⟩ (.int .i64 (wrap64 ((wrap64 ((wrap64 (z+1))+1))+1))))) ?hg ?ho ?hn ?hr ?_;(case ho=>rfl);(case hg=>rfl);(case hn=>rfl);(case hr=>first|(go_simp;done)|(go_simp;rfl));intro ag hw;have K:Aside0 (laws_markObjectS.mkSt w0 w P ag):=⟨by rw[hw];exact HS.out.set B (laws_markObjectS.mkLike_i _ _) GP.out GB.out⟩;clear HS hw;clear L N O Q X Y S m y B Z f1 f2 f3 f4 f5 f6 C D F y7 y8 y9 q7 q8 q9 T U V W;have HS:=K;clear K))
 go_roundg k1
 case measure=>omega
 case rel=>exact⟨i+1,laws_markObjectS.cf z,rfl,by have:=HX.out;have:=HM.out;congr 1;unfold wrap64;omega,⟨by have:=HI.out;omega⟩,af,HS⟩))
def laws_markObjectS.f (l0:List S56) (a1:Int):Option Int:=some (laws_markObjectS.v0 l0 a1)
theorem laws_markObjectS.calls (P0_:Nat→Prop) (u9000_:Value) (l0:List S56) (a1:Int) (r1:Int) (w0 w:World) (hB:Below w0.heap.size w0 w) (ho0:Kd.R k56 56 w w0.heap.size P0_ u9000_ l0) (h:laws_markObjectS.f l0 a1=some r1):
    Calls Try.prog 59 #[u9000_,.int .i64 a1] w fun e w'=>e= .returned (.int .i64 r1)∧Below w0.heap.size w0 w'∧Kept w w' (fun m=>P0_ m∧w0.heap.size≤m∧m<w.heap.size∧∃q,q∈56::k56.E∧∃cells,w.heap[m]?=some (.cells cells q (0,0))):=by
 obtain rfl:=zI h
 exact(laws_markObjectS.mkMO _ u9000_ l0 a1 w0 w hB (Kd.R_bound ho0)).mono (fun e w' hh=>⟨hh.1,hh.2.b,hh.2.k⟩)
end Go.Proofs.Ytengilknjiobiaa.PFnExactPairsOf
