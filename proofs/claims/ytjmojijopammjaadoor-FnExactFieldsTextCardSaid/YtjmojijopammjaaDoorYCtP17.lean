/- Printed functions: impl_Field_isValid, impl_Field__impl_Field_isValid, impl_FieldsText. -/
import Derived.Test.YtjmojijopammjaaDoorYCtP0
import Derived.Test.YtjmojijopammjaaDoorYCtP8
import Derived.Test.YtjmojijopammjaaDoorYCtP18
namespace Go.Proofs.YtjmojijopammjaaDoor.PFnExactCaptureText
open Go.RowKit Go.Proofs.YtjmojijopammjaaDoorG Go.Proofs.YtjmojijopammjaaDoorW.PrintWords Go.Proofs.YtjmojijopammjaaDoorW.PrintLast Go.Proofs.YtjmojijopammjaaDoorW.PrintMore
attribute [local go_sem] max2_int min2_int max_two min_two max_three min_three max_four min_four
set_option linter.unusedVariables false
set_option linter.unusedSimpArgs false
def impl_Field_isValid.f (a0_0:Bool) (a0_1:Int) (a0_2:ByteArray):Option (Bool):=if a0_0=true then(some (a0_1==0))else((impl_within.f a0_1 (-1000000000000000) 1000000000000000).bind fun t295=>(if t295=true then(some (a0_2.toList.isEmpty))else(some false)))
set_option maxHeartbeats 8000000 in
set_option maxRecDepth 100000 in
theorem impl_Field_isValid.calls (a0_0:Bool) (a0_1:Int) (a0_2:ByteArray) (r:Bool) (w:World) (h:impl_Field_isValid.f a0_0 a0_1 a0_2=some r):
  Calls Tryd.prog 44 #[.agg #[.bool a0_0,.int .i64 a0_1,.string a0_2]] w fun e w'=>e= .returned (.bool r)∧Below w.heap.size w w':=by
 have x:=Tryd.underlying64
 have HB:=zM (Below.refl w.heap.size w)
 have H:(if a0_0=true then(some (a0_1==0))else((impl_within.f a0_1 (-1000000000000000) 1000000000000000).bind fun l=>(if l=true then(some (a0_2.toList.isEmpty))else(some false))))=some r:=h
 clear h
 by_cases d:a0_0=true
 ·(
 subst d
 rewrite[if_pos rfl]at H
 obtain rfl:=zI H
 go_enter Tryd.func44,Tryd.ntmps44
 go_wp2_with (first|((with_reducible refine gate_dst (N:=1) rfl ?_);refine sV (N:=1) (cs:= #[.bool true,.int .i64 a0_1,.string a0_2]) (t:=64) ?_;intro m hg y hbox hb;have a:=zM (hbox);have n:=sG HB hg;have q:=sG HB hg;replace HB:=sB HB hb;clear hb hbox hg;obtain⟨z,A,D,E,F,G⟩:=cells3 a.out))
 go_ret
 exact⟨sq,sb⟩)
 replace d:=zB d
 subst d
 rewrite[if_neg zQ]at H
 obtain⟨l,u,H⟩:=sO H
 by_cases j:l=true
 ·(
 subst j
 rewrite[if_pos rfl]at H
 obtain rfl:=zI H
 go_enter Tryd.func44,Tryd.ntmps44
 go_wp2_with (first|((with_reducible refine gate_dst (N:=1) rfl ?_);refine sV (N:=1) (cs:= #[.bool false,.int .i64 a0_1,.string a0_2]) (t:=64) ?_;intro m hg I hbox hb;have a:=zM (hbox);have n:=sG HB hg;have q:=sG HB hg;replace HB:=sB HB hb;clear hb hbox hg;obtain⟨J,K,L,M,O,P⟩:=cells3 a.out)|((with_reducible refine gate_callee (f:=54) rfl ?_);refine sC (some 10) Tryd.func54 #[.int .i64 a0_1,.int .i64 (-1000000000000000),.int .i64 1000000000000000] (impl_within.calls a0_1 (-1000000000000000) 1000000000000000 true _ u.out) ?_;rintro e w' ⟨rfl,⟨nd,rfl⟩⟩;refine⟨_,rfl,?_⟩))
 go_ret
 exact⟨sq,sb⟩)
 replace j:=zB j
 subst j
 rewrite[if_neg zQ]at H
 obtain rfl:=zI H
 go_enter Tryd.func44,Tryd.ntmps44
 go_wp2_with (first|((with_reducible refine gate_dst (N:=1) rfl ?_);refine sV (N:=1) (cs:= #[.bool false,.int .i64 a0_1,.string a0_2]) (t:=64) ?_;intro m hg Q hbox hb;have a:=zM (hbox);have n:=sG HB hg;have q:=sG HB hg;replace HB:=sB HB hb;clear hb hbox hg;obtain⟨R,S,U,V,W,X⟩:=cells3 a.out)|((with_reducible refine gate_callee (f:=54) rfl ?_);refine sC (some 10) Tryd.func54 #[.int .i64 a0_1,.int .i64 (-1000000000000000),.int .i64 1000000000000000] (impl_within.calls a0_1 (-1000000000000000) 1000000000000000 false _ u.out) ?_;rintro e w' ⟨rfl,⟨nd,rfl⟩⟩;refine⟨_,rfl,?_⟩))
 go_ret
 exact⟨sq,sb⟩
def impl_Field__impl_Field_isValid.l0 : Nat → List (S64) → Int → Int → Option (Bool)
 |0,_,_,_=>none
 |k+1,x7,x8,x9=>if x9<x8 then(if 0≤x9 then(if x9<(x7.length:Int)then((impl_Field_isValid.f ((rd_T64 x7 x9).f0) ((rd_T64 x7 x9).f1) ((rd_T64 x7 x9).f2)).bind fun t298=>(if t298=true then(impl_Field__impl_Field_isValid.l0 k x7 x8 (wrap64 (x9+1)))else(some false)))else(none))else(none))else(some true)
def impl_Field__impl_Field_isValid.f (k:Nat) (l0:List (S64)):Option (Bool):=impl_Field__impl_Field_isValid.l0 k l0 (l0.length:Int) 0
set_option maxHeartbeats 8000000 in
set_option maxRecDepth 100000 in
theorem impl_Field__impl_Field_isValid.calls (k:Nat) (A0:Option Addr) (c0:Nat) (l0:List (S64)) (r:Bool) (w:World) (hr0:Kd.C k64 w A0 l0.length l0) (hc0:l0.length≤c0) (h:impl_Field__impl_Field_isValid.f k l0=some r):
  Calls Tryd.prog 43 #[.slice A0 l0.length c0,.func (.func 44) #[] #[]] w fun e w'=>e= .returned (.bool r)∧Below w.heap.size w w':=by
 have O:=Tryd.underlying64
 have E:=zM hr0
 have P:=zM hc0
 clear hr0 hc0
 have HB:=zM (Below.refl w.heap.size w)
 have H:(impl_Field__impl_Field_isValid.l0 k l0 (l0.length:Int) 0)=some r:=h
 clear h
 have H':=zM H
 clear H
 go_enter Tryd.func43,Tryd.ntmps43
 go_wp2
 go_loopg [9] k (fun kq I w'=>∃(a:Int),I= .int .i64 a∧Aside0 (impl_Field__impl_Field_isValid.l0 kq l0 (l0.length:Int) a=some r)∧Aside0 (kq≤k)∧Aside0 (Below w.heap.size w w'))
 case atStart=>exact⟨(0),sr,H',⟨Nat.le_refl _⟩,⟨sb⟩⟩
 case round=>(
 clear H'
 obtain⟨a,rfl,HA,F,HB⟩:=hrel
 cases gk with
 |zero=>exact absurd HA.out (by simp[impl_Field__impl_Field_isValid.l0])
 |succ k1=>(
 have H:=HA.out
 clear HA
 simp only[impl_Field__impl_Field_isValid.l0]at H
 by_cases m:a<(l0.length:Int)
 ·(
 rw[if_pos m]at H
 have c3b0:=zT m
 clear m
 by_cases x:0≤a
 ·(
 rw[if_pos x]at H
 have c4b0:=zT x
 clear x
 by_cases y:a<(l0.length:Int)
 ·(
 rw[if_pos y]at H
 have c5b0:=zT y
 clear y
 obtain⟨J,G,H⟩:=sO H
 by_cases z:J=true
 ·(
 subst z
 rewrite[if_pos rfl]at H
 have H':=zM H
 clear H
 have d:0≤(a:Int):=zzA
 have j:a<(l0.length:Int):=zzA
 obtain⟨K,A,n,q,u⟩:=at_T64 E.out a d j
 cases A
 replace n:=sX HB n
 replace q:=sX HB q
 replace u:=sX HB u
 replace d:=eq_true d
 replace j:=eq_true j
 go_wp2_with (first|((with_reducible refine gate_dst (N:=6) rfl ?_);refine sV (N:=6) (cs:= #[.bool false,.int .i64 0,.string (⟨#[]⟩:ByteArray)]) (t:=64) ?_;intro D hg Q hbox hb;have l:=zM (hbox);have L:=sG HB hg;have M:=sG HB hg;replace HB:=sB HB hb;clear hb hbox hg;obtain⟨R,S,U,V,W,X⟩:=cells3 l.out)|(go_at_call 44;(with_reducible refine(impl_Field_isValid.calls ((rd_T64 l0 a).f0) ((rd_T64 l0 a).f1) ((rd_T64 l0 a).f2) true _ G.out).mono ?_);rintro e Y ⟨rfl,hb⟩;replace l:=zM (blk_below (g:=D) (o:= .cells #[.bool ((rd_T64 l0 a).f0),.int .i64 ((rd_T64 l0 a).f1),.string ((rd_T64 l0 a).f2)] 64 (0,0)) (by exact sP3 (sT l.out)) hb);replace HB:=sB HB hb;(try clear hb)))
 go_roundg k1
 case measure=>have:=F.out;omega
 case rel=>exact⟨(wrap64 (a+1)),sr,H',⟨by have:=F.out;omega⟩,⟨sb⟩⟩)
 replace z:=zB z
 subst z
 rewrite[if_neg zQ]at H
 obtain rfl:=zI H
 have d:0≤(a:Int):=zzA
 have j:a<(l0.length:Int):=zzA
 obtain⟨K,A,n,q,u⟩:=at_T64 E.out a d j
 cases A
 replace n:=sX HB n
 replace q:=sX HB q
 replace u:=sX HB u
 replace d:=eq_true d
 replace j:=eq_true j
 go_wp2_with (first|((with_reducible refine gate_dst (N:=6) rfl ?_);refine sV (N:=6) (cs:= #[.bool false,.int .i64 0,.string (⟨#[]⟩:ByteArray)]) (t:=64) ?_;intro D hg Z hbox hb;have l:=zM (hbox);have L:=sG HB hg;have M:=sG HB hg;replace HB:=sB HB hb;clear hb hbox hg;obtain⟨aa,ab,ac,ad,ae,af⟩:=cells3 l.out)|(go_at_call 44;(with_reducible refine(impl_Field_isValid.calls ((rd_T64 l0 a).f0) ((rd_T64 l0 a).f1) ((rd_T64 l0 a).f2) false _ G.out).mono ?_);rintro e ag ⟨rfl,hb⟩;replace l:=zM (blk_below (g:=D) (o:= .cells #[.bool ((rd_T64 l0 a).f0),.int .i64 ((rd_T64 l0 a).f1),.string ((rd_T64 l0 a).f2)] 64 (0,0)) (by exact sP3 (sT l.out)) hb);replace HB:=sB HB hb;(try clear hb)))
 go_ret
 exact⟨sq,sb⟩)
 rw[if_neg y]at H
 exact absurd H (by simp))
 rw[if_neg x]at H
 exact absurd H (by simp))
 rw[if_neg m]at H
 have c3b0:=zF m
 clear m
 obtain rfl:=zI H
 go_wp2
 go_ret
 exact⟨sq,sb⟩))
theorem impl_FieldsText.kept {T e:TypeId} {B b:Nat} {bs:List Value} {w w':World} (h:Lib.IsBuilderF T e B b bs w) (hb:Below w.heap.size w w'):Lib.IsBuilderF T e B b bs w':=by
 have key:∀p,Lib.BuilderAtF T e B b p bs w→Lib.BuilderAtF T e B b p bs w':=by(
 rintro p ⟨hB,v,hbk,hown,hne⟩
 refine⟨hB,v,(hb.block b (blk_lt hbk)).trans hbk,⟨hown.1,?_⟩,hne⟩
 rcases hown.2 with h0|⟨g,cap,cur,fz,hv,hg,hbg,r⟩
 ·exact .inl h0
 ·exact .inr ⟨g,cap,cur,fz,hv,hg,(hb.block g (blk_lt hbg)).trans hbg,r⟩)
 rcases h with h|h
 ·exact .inl (key _ h)
 ·exact .inr (key _ h)
theorem impl_FieldsText.lt {T e:TypeId} {B b:Nat} {bs:List Value} {w:World} (h:Lib.IsBuilderF T e B b bs w):b≤w.heap.size:=Nat.le_of_lt (h.elim (fun h=>h.lt) (fun h=>h.lt))
theorem impl_FieldsText.only {T e t gb:Nat} {B b:Nat} {bs:List Value} {cs:Array Value} {fz:Nat×Nat} {w w':World} (h:Lib.IsBuilderF T e B b bs w) (hk:w.heap[gb]?=some (.cells cs t fz)) (hT:t≠T) (he:t≠e) (ho:∀k,k≠gb→w'.heap[k]?=w.heap[k]?):Lib.IsBuilderF T e B b bs w':=by
 have key:∀p,Lib.BuilderAtF T e B b p bs w→Lib.BuilderAtF T e B b p bs w':=by(
 rintro p ⟨hB,v,hbk,hown,hne⟩
 have nb:b≠gb:=by(
 rintro rfl
 rw[hbk]at hk
 injection hk with hk
 injection hk with _ hk _
 exact hT hk.symm)
 refine⟨hB,v,(ho b nb).trans hbk,⟨hown.1,?_⟩,hne⟩
 rcases hown.2 with h0|⟨g,cap,cur,fz',hv,hg,hbg,r⟩
 ·exact .inl h0
 ·(
 have ng:g≠gb:=by(
 rintro rfl
 rw[hbg]at hk
 injection hk with hk
 injection hk with _ hk _
 exact he hk.symm)
 exact .inr ⟨g,cap,cur,fz',hv,hg,(ho g ng).trans hbg,r⟩))
 rcases h with h|h
 ·exact .inl (key _ h)
 ·exact .inr (key _ h)
theorem impl_FieldsText.set3 (w:World) (g:Nat) (v0 v1 v2:Value):∀k,k≠g→(((w.setCell ⟨g,0,none⟩ v0).setCell ⟨g,1,none⟩ v1).setCell ⟨g,2,none⟩ v2).heap[k]?=w.heap[k]?:=by
 intro k hk
 rw[Below.heap_setCell _ _ _ k hk,Below.heap_setCell _ _ _ k hk,Below.heap_setCell _ _ _ k hk]
def impl_FieldsText.l0 : Nat → List (S64) → ByteArray → Int → Option (ByteArray)
 |0,_,_,_=>none
 |k+1,x0,s,i=>if i<(x0.length:Int)then(if 0≤i then((impl_Field_text.f ((rd_T64 x0 i).f0) ((rd_T64 x0 i).f1) ((rd_T64 x0 i).f2)).bind fun t=>(if 0<i then(if s.size+1+t.size≤140737488355328 then(impl_FieldsText.l0 k x0 ((s++(⟨#[32]⟩:ByteArray))++t) (wrap64 (i+1)))else(none))else(if s.size+t.size≤140737488355328 then(impl_FieldsText.l0 k x0 (s++t) (wrap64 (i+1)))else(none))))else(none))else(some s)
def impl_FieldsText.f (k:Nat) (l0:List (S64)):Option (ByteArray):=if(l0.length:Int)≤9223372036854775807 then(if(l0.length:Int)>20000 then(some (⟨#[]⟩:ByteArray))else((impl_Field__impl_Field_isValid.f k l0).bind fun b=>(if b=true then(impl_FieldsText.l0 k l0 (⟨#[]⟩:ByteArray) 0)else(some (⟨#[]⟩:ByteArray)))))else(none)
set_option maxHeartbeats 8000000 in
set_option maxRecDepth 100000 in
theorem impl_FieldsText.calls (k:Nat) (A0:Option Addr) (c0_:Nat) (l0:List (S64)) (r:ByteArray) (w:World) (hr0:Kd.C k64 w A0 l0.length l0) (hc0:l0.length≤c0_) (h:impl_FieldsText.f k l0=some r) (HT:EnvT w):
  Calls Tryd.prog 16 #[.slice A0 l0.length c0_] w fun e w'=>e= .returned (.string r)∧Below w.heap.size w w':=by
 have ab:=Tryd.underlying64
 have J:=zM hr0
 have Q:=zM hc0
 clear hr0 hc0
 have HB:=zM (Below.refl w.heap.size w)
 have hlen:(l0.length:Int)≤9223372036854775807:=by(
 unfold impl_FieldsText.f at h
 split at h
 ·assumption
 ·cases h)
 by_cases u:(l0.length:Int)>20000
 ·(
 have c0b0:=zT u
 have H:some (⟨#[]⟩:ByteArray)=some r:=by(
 unfold impl_FieldsText.f at h
 rw[if_pos hlen,if_pos u]at h
 exact h)
 clear h u
 obtain rfl:=zI H
 go_enter Tryd.func16,Tryd.ntmps16
 go_wp2
 go_ret
 exact⟨sq,sb⟩)
 have c0b0:=zF u
 obtain⟨X,K,H⟩:=sO (show(impl_Field__impl_Field_isValid.f k l0).bind _=some r from(by(
 have z:=h
 unfold impl_FieldsText.f at z
 rw[if_pos hlen,if_neg u]at z
 exact z)))
 clear h u
 by_cases E:X=true
 ·(
 subst E
 rewrite[if_pos rfl]at H
 have H':=zM H
 clear H
 go_enter Tryd.func16,Tryd.ntmps16
 go_wp2_with (go_at_call 43;(with_reducible refine(impl_Field__impl_Field_isValid.calls k A0 c0_ l0 true _ J.out Q.out K.out).mono ?_);rintro e j ⟨rfl,hb⟩;replace HB:=sB HB hb)
 have hbld:Lib.IsBuilderF 70 5 j.heap.size j.heap.size (Lib.byteCells (⟨#[]⟩:ByteArray).data.toList) (j.alloc (.cells #[.pointer none,.slice none 0 0] 70)):=Lib.IsBuilderF.of (Lib.fresh_isBuilder 70 5 j)
 have R:Aside0 (Below w.heap.size w (j.alloc (.cells #[.pointer none,.slice none 0 0] 70))):=⟨HB.out.alloc hb.size _⟩
 have F:w.heap.size≤j.heap.size:=hb.size
 have ac:j.heap.size<(j.alloc (.cells #[.pointer none,.slice none 0 0] 70)).heap.size:=by simp
 clear HB hb K
 generalize hW:j.alloc (.cells #[.pointer none,.slice none 0 0] 70)=W1 at *
 generalize hgb:j.heap.size=g at *
 clear hW hgb
 go_loopg [17] k (fun kq Y w'=>∃(s:ByteArray) (i:Int),Y= .int .i64 i∧Aside0 (impl_FieldsText.l0 kq l0 s i=some r)∧Aside0 (kq≤k)∧Aside0 (Below w.heap.size w w')∧Aside0 (Lib.IsBuilderF 70 5 g g (Lib.byteCells s.data.toList) w'))
 case atStart=>exact⟨_,0,rfl,H',⟨Nat.le_refl _⟩,R,⟨hbld⟩⟩
 case round=>(
 clear H' hbld R
 obtain⟨s,i,rfl,HA,G,HB,HI⟩:=hrel
 cases gk with
 |zero=>exact absurd HA.out (by simp[impl_FieldsText.l0])
 |succ k1=>(
 have H:=HA.out
 clear HA
 have hgW:g<wr.heap.size:=HI.out.elim (fun h=>h.lt) (fun h=>h.lt)
 simp only[impl_FieldsText.l0]at H
 by_cases x:i<(l0.length:Int)
 ·(
 rw[if_pos x]at H
 have c3b0:=zT x
 clear x
 by_cases I:0≤i
 ·(
 rw[if_pos I]at H
 have c4b0:=zT I
 have L:0≤(i:Int):=I
 have M:i<(l0.length:Int):=zO c3b0
 obtain⟨ad,Z,S,U,V⟩:=at_T64 J.out i L M
 cases Z
 replace S:=sX HB S
 replace U:=sX HB U
 replace V:=sX HB V
 replace L:=eq_true L
 replace M:=eq_true M
 obtain⟨t,AT,H⟩:=sO H
 by_cases y:0<i
 ·(
 have c6b0:decide (0<i)=true:=zT y
 rw[if_pos y]at H
 by_cases A:s.size+1+t.size≤140737488355328
 ·(
 rw[if_pos A]at H
 have O:wrap64 (i+1)=i+1:=by have:=zO c3b0;unfold wrap64;omega
 rw[O]at H
 have H':=zM H
 clear H
 clear y
 go_wp2_with (first|(go_at_call 45;have hal:=(Below.refl wr.heap.size wr).alloc (Nat.le_refl _) (.cells #[.bool ((rd_T64 l0 i).f0),.int .i64 ((rd_T64 l0 i).f1),.string ((rd_T64 l0 i).f2)] 64);have hszr:w.heap.size≤wr.heap.size:=HB.out.size;have hba:=HB.out.alloc hszr (.cells #[.bool ((rd_T64 l0 i).f0),.int .i64 ((rd_T64 l0 i).f1),.string ((rd_T64 l0 i).f2)] 64);(refine(writeString_k g g (Lib.byteCells s.data.toList) (⟨#[32]⟩:ByteArray) _ (impl_FieldsText.kept HI.out hal) (by rw[Lib.byteCells_length];have a:s.data.toList.length=s.size:=(by simp);have z:(⟨#[32]⟩:ByteArray).size=1:=rfl;omega) (impl_FieldsText.lt (impl_FieldsText.kept HI.out hal))).mono ?_);rintro e W ⟨rfl,a,l,q⟩;have d:Aside0 (Below w.heap.size w W):=⟨Below.trans hba (l.mono F)⟩;have m:=zM (q wr.heap.size (.cells #[.bool ((rd_T64 l0 i).f0),.int .i64 ((rd_T64 l0 i).f1),.string ((rd_T64 l0 i).f2)] 64 (0,0)) (by show(wr.heap.push _)[wr.heap.size]?=_;simp) (by intro h;injection h with h;omega) (by intro c fz h;injection h with _ h _;exact absurd h (by decide)));rw[Lib.strCells_eq, ←Lib.byteCells_append]at a;have n:Aside0 (Lib.IsBuilderF 70 5 g g _ W):=⟨.inr a⟩;clear HB HI q l a hal hba;have HB:=d;have aa:=m;have HI:=n;clear d m n;obtain⟨ae,af,ag,_⟩:=cells3 aa.out)|(go_at_call 46;(refine(impl_Field_text.calls _ _ _ t _ AT.out (by first|with_reducible exact HT|exact EnvT.below HT sb)).mono ?_);rintro e P ⟨rfl,hb⟩;have m:=zM (impl_FieldsText.kept HI.out hb);have d:=sB HB hb;clear HB HI;have HB:=d;have HI:=m;clear d m hb)|(go_at_call 45;(refine(writeString_k g g _ t _ HI.out (by rw[Lib.byteCells_length,List.length_append];have a:s.data.toList.length=s.size:=(by simp);have z:([32]:List UInt8).length=1:=rfl;have h3:(⟨#[32]⟩:ByteArray).data.toList.length=1:=rfl;omega) (impl_FieldsText.lt HI.out)).mono ?_);rintro e D ⟨rfl,a,l,q⟩;have d:Aside0 (Below w.heap.size w D):=⟨Below.trans (by exact sb) (l.mono F)⟩;rw[Lib.strCells_eq, ←Lib.byteCells_append]at a;have n:Aside0 (Lib.IsBuilderF 70 5 g g _ D):=⟨.inr a⟩;clear HB HI q l a;have HB:=d;have HI:=n;clear d n))
 go_roundg k1
 case measure=>have:=G.out;omega
 case rel=>exact⟨_,(i+1),sr,H',⟨by have:=G.out;omega⟩,HB,⟨by have h:=HI.out;simpa using h⟩⟩)
 ·(
 rw[if_neg A]at H
 cases H))
 ·(
 have c6b0:decide (0<i)=false:=zF y
 rw[if_neg y]at H
 by_cases A:s.size+t.size≤140737488355328
 ·(
 rw[if_pos A]at H
 have O:wrap64 (i+1)=i+1:=by have:=zO c3b0;unfold wrap64;omega
 rw[O]at H
 have H':=zM H
 clear H
 clear y
 go_wp2_with (first|(go_at_call 46;have hal:=(Below.refl wr.heap.size wr).alloc (Nat.le_refl _) (.cells #[.bool ((rd_T64 l0 i).f0),.int .i64 ((rd_T64 l0 i).f1),.string ((rd_T64 l0 i).f2)] 64);have hszr:w.heap.size≤wr.heap.size:=HB.out.size;have hba:=HB.out.alloc hszr (.cells #[.bool ((rd_T64 l0 i).f0),.int .i64 ((rd_T64 l0 i).f1),.string ((rd_T64 l0 i).f2)] 64);have HT:=EnvT.below HT hba;(refine(impl_Field_text.calls _ _ _ t _ AT.out (by first|with_reducible exact HT|exact EnvT.below HT sb)).mono ?_);rintro e P ⟨rfl,hb⟩;have m:=zM (impl_FieldsText.kept (impl_FieldsText.kept HI.out hal) hb);have d:=sB (zM hba) hb;clear HB HI;have HB:=d;have HI:=m;clear d m hb hal hba)|(go_at_call 45;(refine(writeString_k g g _ t _ HI.out (by rw[Lib.byteCells_length];have a:s.data.toList.length=s.size:=(by simp);omega) (impl_FieldsText.lt HI.out)).mono ?_);rintro e D ⟨rfl,a,l,q⟩;have d:Aside0 (Below w.heap.size w D):=⟨Below.trans (by exact sb) (l.mono F)⟩;rw[Lib.strCells_eq, ←Lib.byteCells_append]at a;have n:Aside0 (Lib.IsBuilderF 70 5 g g _ D):=⟨.inr a⟩;clear HB HI q l a;have HB:=d;have HI:=n;clear d n))
 go_roundg k1
 case measure=>have:=G.out;omega
 case rel=>exact⟨_,(i+1),sr,H',⟨by have:=G.out;omega⟩,HB,⟨by have h:=HI.out;simpa using h⟩⟩)
 ·(
 rw[if_neg A]at H
 cases H)))
 ·(
 rw[if_neg I]at H
 exact absurd H (by simp)))
 ·(
 rw[if_neg x]at H
 have c3b0:=zF x
 clear x
 obtain rfl:=zI H
 go_wp2_with (go_at_call 47;(refine(Tryd.Builder_String_any_k g g s.data.toList _ HI.out (Nat.le_of_lt hgW)).mono ?_);rintro e P ⟨rfl,a,l,q⟩;replace HB:Aside0 (Below w.heap.size w P):=⟨Below.trans (by exact sb) (l.mono F)⟩;clear HI)
 go_ret
 exact⟨sq,sb⟩))))
 ·(
 replace E:=zB E
 subst E
 rewrite[if_neg zQ]at H
 obtain rfl:=zI H
 go_enter Tryd.func16,Tryd.ntmps16
 go_wp2_with (go_at_call 43;(with_reducible refine(impl_Field__impl_Field_isValid.calls k A0 c0_ l0 false _ J.out Q.out K.out).mono ?_);rintro e j ⟨rfl,hb⟩;replace HB:=sB HB hb)
 go_ret
 exact⟨sq,sb⟩)
end Go.Proofs.YtjmojijopammjaaDoor.PFnExactCaptureText
