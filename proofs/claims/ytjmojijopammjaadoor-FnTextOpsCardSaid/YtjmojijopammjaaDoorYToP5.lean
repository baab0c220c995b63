/- Printed functions: strings_Repeat, impl_PadText, laws_FnTextOps. -/
import Derived.Test.YtjmojijopammjaaDoorYToP0
import Derived.Test.YtjmojijopammjaaDoorYToP1
import Derived.Test.YtjmojijopammjaaDoorYToP2
import Derived.Test.YtjmojijopammjaaDoorYToP3
import Derived.Test.YtjmojijopammjaaDoorYToP4
namespace Go.Proofs.YtjmojijopammjaaDoor.PFnTextOps
open Go.RowKit Go.Proofs.YtjmojijopammjaaDoorG Go.Proofs.YtjmojijopammjaaDoorW.PrintWords Go.Proofs.YtjmojijopammjaaDoorW.PrintLast Go.Proofs.YtjmojijopammjaaDoorW.PrintMore
attribute [local go_sem] max2_int min2_int max_two min_two max_three min_three max_four min_four
set_option linter.unusedVariables false
set_option linter.unusedSimpArgs false
def strings_Repeat.f (a0:ByteArray) (a1:Int):Option (ByteArray):=if 0≤a1 then(if a1≤9223372036854775807 then(if a0.size*a1.toNat≤140737488355328 then(some ⟨(Lib.repeatL a0.data.toList a1.toNat).toArray⟩)else(none))else(none))else(none)
theorem strings_Repeat.calls (a0:ByteArray) (a1:Int) (r:ByteArray) (w:World) (h:strings_Repeat.f a0 a1=some r):
  Calls Tryd.prog 82 #[.string a0,.int .i64 a1] w fun e w'=>e= .returned (.string r)∧Below w.heap.size w w':=by
 unfold strings_Repeat.f at h
 split at h
 ·(
 rename_i h1
 obtain⟨n,rfl⟩:∃n:Nat,a1=(n:Int):=⟨a1.toNat,by omega⟩
 split at h
 ·(
 split at h
 ·(
 rename_i h2 h3
 obtain rfl:=zI h
 rw[Int.toNat_natCast]at h3 ⊢
 exact Tryd.strings_Repeat a0 n w (by omega) h3)
 ·cases h)
 ·cases h)
 ·cases h
def impl_PadText.j0 : Nat → ByteArray → Int → ByteArray → Bool → Bool → Option (ByteArray × Bool)
 |0,_,_,_,_,_=>none
 |k+1,x0,x1,x2,x3,x18=>if x18=true then(some ((⟨#[]⟩:ByteArray),false))else((strings_Repeat.f x2 (mx 0 (wrap64 (x1-(x0.size:Int))))).bind fun t209=>(if x3=true then(if t209.size+x0.size≤9223372036854775807 then(some (t209++x0,true))else(none))else(if x0.size+t209.size≤9223372036854775807 then(some (x0++t209,true))else(none))))
def impl_PadText.f (k:Nat) (a0:ByteArray) (a1:Int) (a2:ByteArray) (a3:Bool):Option (ByteArray×Bool):=(impl_within.f a1 0 200).bind fun t208=>(if t208=true then(impl_PadText.j0 k a0 a1 a2 a3 ((a2.size:Int) !=1))else(impl_PadText.j0 k a0 a1 a2 a3 true))
set_option maxHeartbeats 8000000 in
set_option maxRecDepth 100000 in
theorem impl_PadText.calls (k:Nat) (a0:ByteArray) (a1:Int) (a2:ByteArray) (a3:Bool) (r1:ByteArray) (r2:Bool) (w:World) (h:impl_PadText.f k a0 a1 a2 a3=some (r1,r2)):
  Calls Tryd.prog 34 #[.string a0,.int .i64 a1,.string a2,.bool a3] w fun e w'=>e= .returned (.tuple #[.string r1,.bool r2])∧Below w.heap.size w w':=by
 have HB:=zM (Below.refl w.heap.size w)
 have H:((impl_within.f a1 0 200).bind fun l=>(if l=true then(impl_PadText.j0 k a0 a1 a2 a3 ((a2.size:Int) !=1))else(impl_PadText.j0 k a0 a1 a2 a3 true)))=some (r1,r2):=h
 clear h
 have m:=zM H
 clear H
 go_enter Tryd.func34,Tryd.ntmps34
 go_upto_region 1 with(fail)
 go_cut [18] (fun q wc=>∃(kq:Nat) (d:Bool),q= .bool d∧Aside0 (impl_PadText.j0 kq a0 a1 a2 a3 d=some (r1,r2))∧Aside0 (kq≤k)∧Aside0 (Below w.heap.size w wc))
 case first=>(
 have H:=m.out
 clear m
 obtain⟨l,o,H⟩:=sO H
 by_cases g:l=true
 ·(
 subst g
 rewrite[if_pos rfl]at H
 have H':=zM H
 clear H
 go_wp2_with (first|((with_reducible refine gate_callee (f:=54) rfl ?_);refine sC (some 12) Tryd.func54 #[.int .i64 a1,.int .i64 0,.int .i64 200] (impl_within.calls a1 0 200 true _ o.out) ?_;rintro e w' ⟨rfl,⟨nd,rfl⟩⟩;refine⟨_,rfl,?_⟩))
 go_meet
 case rel=>exact⟨_,(((a2.size:Int) !=1)),sr,H',⟨by first|omega|exact Nat.le_refl _⟩,⟨sb⟩⟩)
 replace g:=zB g
 subst g
 rewrite[if_neg zQ]at H
 have H':=zM H
 clear H
 go_wp2_with (first|((with_reducible refine gate_callee (f:=54) rfl ?_);refine sC (some 12) Tryd.func54 #[.int .i64 a1,.int .i64 0,.int .i64 200] (impl_within.calls a1 0 200 false _ o.out) ?_;rintro e w' ⟨rfl,⟨nd,rfl⟩⟩;refine⟨_,rfl,?_⟩))
 go_meet
 case rel=>exact⟨_,(true),sr,H',⟨by first|omega|exact Nat.le_refl _⟩,⟨sb⟩⟩)
 case rest=>(
 clear m
 obtain⟨kq,d,rfl,HA,s,HB⟩:=hcut
 cases kq with
 |zero=>exact absurd HA.out (by simp[impl_PadText.j0])
 |succ kj4=>(
 have H:=HA.out
 clear HA
 simp only[impl_PadText.j0]at H
 by_cases i:d=true
 ·(
 subst i
 rewrite[if_pos rfl]at H
 simp only[Option.some.injEq,Prod.mk.injEq]at H
 obtain⟨rfl,rfl⟩:=H
 go_wp2
 go_ret2
 exact⟨sq,sb⟩)
 replace i:=zB i
 subst i
 rewrite[if_neg zQ]at H
 obtain⟨ji9,hji9⟩:∃j_:Int,(mx 0 (wrap64 (a1-(a0.size:Int))))=j_:=⟨_,rfl⟩
 replace H:((strings_Repeat.f a2 (ji9)).bind fun a=>(if a3=true then(if a.size+a0.size≤9223372036854775807 then(some (a++a0,true))else(none))else(if a0.size+a.size≤9223372036854775807 then(some (a0++a,true))else(none))))=some (r1,r2):=by first|(rw[hji9]at H;exact H)|(simp only[hji9]at H ⊢;exact H)
 have t:(if 0<(wrap64 (a1-(a0.size:Int)))then(wrap64 (a1-(a0.size:Int)))else 0)=ji9:=hji9
 obtain⟨a,p,H⟩:=sO H
 by_cases j:a3=true
 ·(
 subst j
 rewrite[if_pos rfl]at H
 by_cases b:a.size+a0.size≤9223372036854775807
 ·(
 rw[if_pos b]at H
 have c12b0:=eq_true b
 have c12b1:=zT b
 try have c12b2:(9223372036854775807<a.size+a0.size)=False:=eq_false (Nat.not_lt.2 b)
 simp only[Option.some.injEq,Prod.mk.injEq]at H
 obtain⟨rfl,rfl⟩:=H
 go_wp2_with (first|((with_reducible refine gate_callee (f:=82) rfl ?_);refine goesL_ (some 25) rfl rfl Tryd.func82 (by kernel_rfl) rfl #[.string a2,.int .i64 ji9] rfl (by(try simp only[List.map_toArray,List.map_cons,List.map_nil]);first|done|(simp only[hji9];rfl)|rfl|(simp only[List.length_drop,List.length_take];rfl)) ?_;(with_reducible refine(strings_Repeat.calls a2 ji9 a _ p.out).mono ?_);rintro e u ⟨rfl,hb⟩;refine⟨_,rfl,?_⟩;replace HB:=sB HB hb;(try clear hb)))
 go_ret2
 exact⟨by first|rfl|(simp[errW_none,errW_some]<;>rfl)|(simp only[←hji9];first|rfl|(simp[errW_none,errW_some]<;>rfl))|(simp[*,errW_none,errW_some]<;>rfl),sb⟩)
 rw[if_neg b]at H
 exact absurd H (by simp))
 replace j:=zB j
 subst j
 rewrite[if_neg zQ]at H
 by_cases c:a0.size+a.size≤9223372036854775807
 ·(
 rw[if_pos c]at H
 have c14b0:=eq_true c
 have c14b1:=zT c
 try have c14b2:(9223372036854775807<a0.size+a.size)=False:=eq_false (Nat.not_lt.2 c)
 simp only[Option.some.injEq,Prod.mk.injEq]at H
 obtain⟨rfl,rfl⟩:=H
 go_wp2_with (first|((with_reducible refine gate_callee (f:=82) rfl ?_);refine goesL_ (some 25) rfl rfl Tryd.func82 (by kernel_rfl) rfl #[.string a2,.int .i64 ji9] rfl (by(try simp only[List.map_toArray,List.map_cons,List.map_nil]);first|done|(simp only[hji9];rfl)|rfl|(simp only[List.length_drop,List.length_take];rfl)) ?_;(with_reducible refine(strings_Repeat.calls a2 ji9 a _ p.out).mono ?_);rintro e v ⟨rfl,hb⟩;refine⟨_,rfl,?_⟩;replace HB:=sB HB hb;(try clear hb)))
 go_ret2
 exact⟨by first|rfl|(simp[errW_none,errW_some]<;>rfl)|(simp only[←hji9];first|rfl|(simp[errW_none,errW_some]<;>rfl))|(simp[*,errW_none,errW_some]<;>rfl),sb⟩)
 rw[if_neg c]at H
 exact absurd H (by simp)))
mutual
def laws_FnTextOps.j0 : Nat → List Int → Bool → Option (Bool)
 |0,_,_=>none
 |k+1,x0,x40=>if x40=true then(some false)else((spec_DrawPadText.f k x0).bind fun bt216=>((impl_PadText.f k bt216.1 bt216.2.1 bt216.2.2.1 bt216.2.2.2).bind fun bt220=>(if bt220.2=true then(if(bt220.1.size:Int)=(mx bt216.2.1 (bt216.1.size:Int))then(laws_FnTextOps.j1 k bt216.1 bt216.2.2.2 bt220.1 (decide ((bt220.1.size:Int)<(bt216.1.size:Int))))else(laws_FnTextOps.j1 k bt216.1 bt216.2.2.2 bt220.1 true))else(if bt216.2.1<0 then(some true)else(if bt216.2.1>200 then(some true)else(some ((bt216.2.2.1.size:Int) !=1)))))))
def laws_FnTextOps.j1 : Nat → ByteArray → Bool → ByteArray → Bool → Option (Bool)
 |0,_,_,_,_=>none
 |k+1,x5,x8,x9,x82=>if x82=true then(some false)else(if x8=true then(if 0≤(wrap64 ((x9.size:Int)-(x5.size:Int)))then(if(wrap64 ((x9.size:Int)-(x5.size:Int)))≤(x9.size:Int)then(some ((x9.extract ((wrap64 ((x9.size:Int)-(x5.size:Int))):Int).toNat x9.size).toList==x5.toList))else(none))else(none))else(if 0≤(x5.size:Int)then(if(x5.size:Int)≤(x9.size:Int)then(some ((x9.extract 0 ((x5.size:Int):Int).toNat).toList==x5.toList))else(none))else(none)))
end
def laws_FnTextOps.f (k:Nat) (l0:List Int):Option (Bool):=(laws_c2Long.f l0).bind fun t210=>(if t210=true then(some true)else((spec_DrawTrimText.f k l0).bind fun t211=>((impl_ReverseText.f k t211).bind fun t212=>((impl_ReverseText.f k t212).bind fun t213=>(if t213.toList=t211.toList then((impl_TrimText.f t211).bind fun t214=>(if(t214.size:Int)>(t211.size:Int)then(laws_FnTextOps.j0 k l0 true)else((impl_TrimText.f t214).bind fun t215=>(if t215.toList=t214.toList then(if 0≤(t214.size:Int)then(if(t214.size:Int)≤(t211.size:Int)then(laws_FnTextOps.j0 k l0 ((t211.extract 0 ((t214.size:Int):Int).toNat).toList !=t214.toList))else(none))else(none))else(laws_FnTextOps.j0 k l0 true)))))else(some false))))))
set_option maxHeartbeats 8000000 in
set_option maxRecDepth 100000 in
theorem laws_FnTextOps.calls (k:Nat) (A0:Option Addr) (c0:Nat) (l0:List Int) (r:Bool) (w:World) (hr0:Kd.C (Kd.int .u8) w A0 l0.length l0) (hc0:l0.length≤c0) (h:laws_FnTextOps.f k l0=some r):
  Calls Tryd.prog 8 #[.slice A0 l0.length c0] w fun e w'=>e= .returned (.bool r)∧Below w.heap.size w w':=by
 have l:=zM hr0
 have m:=zM hc0
 clear hr0 hc0
 have HB:=zM (Below.refl w.heap.size w)
 have H:((laws_c2Long.f l0).bind fun R=>(if R=true then(some true)else((spec_DrawTrimText.f k l0).bind fun b=>((impl_ReverseText.f k b).bind fun s=>((impl_ReverseText.f k s).bind fun o=>(if o.toList=b.toList then((impl_TrimText.f b).bind fun g=>(if(g.size:Int)>(b.size:Int)then(laws_FnTextOps.j0 k l0 true)else((impl_TrimText.f g).bind fun p=>(if p.toList=g.toList then(if 0≤(g.size:Int)then(if(g.size:Int)≤(b.size:Int)then(laws_FnTextOps.j0 k l0 ((b.extract 0 ((g.size:Int):Int).toNat).toList !=g.toList))else(none))else(none))else(laws_FnTextOps.j0 k l0 true)))))else(some false)))))))=some r:=h
 clear h
 obtain⟨R,S,H⟩:=sO H
 by_cases x:R=true
 ·(
 subst x
 rewrite[if_pos rfl]at H
 obtain rfl:=zI H
 go_enter Tryd.func8,Tryd.ntmps8
 go_wp2_with (first|((with_reducible refine gate_callee (f:=29) rfl ?_);refine sC (some 12) Tryd.func29 #[.slice A0 l0.length c0] (laws_c2Long.calls _ _ l0 true _ ?side1 ?side2 S.out) ?_;(case side1=>exact sD l.out);(case side2=>exact m.out);rintro e w' ⟨rfl,⟨nd,rfl⟩⟩;refine⟨_,rfl,?_⟩))
 go_ret
 exact⟨sq,sb⟩)
 replace x:=zB x
 subst x
 rewrite[if_neg zQ]at H
 obtain⟨b,V,H⟩:=sO H
 obtain⟨s,W,H⟩:=sO H
 obtain⟨o,X,H⟩:=sO H
 by_cases q:o.toList=b.toList
 ·(
 rw[if_pos q]at H
 have c7b0:(o.toList==b.toList)=true:=zE q
 have c7b1:(o.toList !=b.toList)=false:=zY q
 clear q
 obtain⟨g,A8,H⟩:=sO H
 have T:=zM H
 clear H
 go_enter Tryd.func8,Tryd.ntmps8
 go_upto_region 7 with(first|((with_reducible refine gate_callee (f:=29) rfl ?_);refine sC (some 12) Tryd.func29 #[.slice A0 l0.length c0] (laws_c2Long.calls _ _ l0 false _ ?side1 ?side2 S.out) ?_;(case side1=>exact sD l.out);(case side2=>exact m.out);rintro e w' ⟨rfl,⟨nd,rfl⟩⟩;refine⟨_,rfl,?_⟩)|((with_reducible refine gate_callee (f:=30) rfl ?_);refine sC (some 14) Tryd.func30 #[.slice A0 l0.length c0] (spec_DrawTrimText.calls k _ _ l0 b _ ?side1 ?side2 V.out) ?_;(case side1=>exact sD l.out);(case side2=>exact m.out);rintro e af ⟨rfl,hb⟩;refine⟨_,rfl,?_⟩;replace HB:=sB HB hb;(try clear hb))|((with_reducible refine gate_callee (f:=31) rfl ?_);refine sC (some 16) Tryd.func31 #[.string b] (impl_ReverseText.calls k b s _ W.out) ?_;rintro e ag ⟨rfl,hb⟩;refine⟨_,rfl,?_⟩;replace HB:=sB HB hb;(try clear hb))|((with_reducible refine gate_callee (f:=31) rfl ?_);refine sC (some 17) Tryd.func31 #[.string s] (impl_ReverseText.calls k s o _ X.out) ?_;rintro e ah ⟨rfl,hb⟩;refine⟨_,rfl,?_⟩;replace HB:=sB HB hb;(try clear hb))|((with_reducible refine gate_callee (f:=32) rfl ?_);refine sC (some 21) Tryd.func32 #[.string b] (impl_TrimText.calls b g _ A8.out) ?_;rintro e ai ⟨rfl,hb⟩;refine⟨_,rfl,?_⟩;replace HB:=sB HB hb;(try clear hb)))
 (try simp only[zP])
 go_cut [40] (fun ad wc=>∃(kq:Nat) (L:Bool),ad= .bool L∧Aside0 (laws_FnTextOps.j0 kq l0 L=some r)∧Aside0 (kq≤k)∧Aside0 (Below w.heap.size w wc))
 case first=>(
 have H:=T.out
 clear T
 by_cases t:(g.size:Int)>(b.size:Int)
 ·(
 rw[if_pos t]at H
 have c14b0:decide ((b.size:Int)<(g.size:Int))=true:=zT t
 have c14b1:decide (b.size<g.size)=true:=zT (Int.ofNat_lt.mp t)
 clear t
 (first|rw[c14b0]|(simp only[i64_w,i32_w];rw[c14b0])|rw[c14b2]|skip)
 have H':=zM H
 clear H
 go_wp2
 go_meet
 case rel=>exact⟨_,(true),sr,H',⟨by first|omega|exact Nat.le_refl _⟩,⟨sb⟩⟩)
 rw[if_neg t]at H
 have c14b0:decide ((b.size:Int)<(g.size:Int))=false:=zF t
 have c14b1:decide (b.size<g.size)=false:=zF (fun h=>t (Int.ofNat_lt.mpr h))
 clear t
 (first|rw[c14b0]|(simp only[i64_w,i32_w];rw[c14b0])|rw[c14b2]|skip)
 obtain⟨p,Y,H⟩:=sO H
 by_cases u:p.toList=g.toList
 ·(
 rw[if_pos u]at H
 have c16b0:(p.toList==g.toList)=true:=zE u
 have c16b1:(p.toList !=g.toList)=false:=zY u
 clear u
 by_cases A:0≤(g.size:Int)
 ·(
 rw[if_pos A]at H
 have c17b0:=eq_true A
 have c17b1:=zT A
 clear A
 by_cases B:(g.size:Int)≤(b.size:Int)
 ·(
 rw[if_pos B]at H
 have c18b0:=eq_true B
 have c18b1:=zT B
 clear B
 have H':=zM H
 clear H
 go_wp2_with (first|(go_at_call 32;(with_reducible refine(impl_TrimText.calls g p _ Y.out).mono ?_);rintro e aj ⟨rfl,hb⟩;replace HB:=sB HB hb;(try clear hb)))
 go_meet
 case rel=>exact⟨_,(((b.extract 0 ((g.size:Int):Int).toNat).toList !=g.toList)),sr,H',⟨by first|omega|exact Nat.le_refl _⟩,⟨sb⟩⟩)
 rw[if_neg B]at H
 exact absurd H (by simp))
 rw[if_neg A]at H
 exact absurd H (by simp))
 rw[if_neg u]at H
 have c16b0:(p.toList==g.toList)=false:=zN u
 have c16b1:(p.toList !=g.toList)=true:=zX u
 have H':=zM H
 clear H
 go_wp2_with (first|(go_at_call 32;(with_reducible refine(impl_TrimText.calls g p _ Y.out).mono ?_);rintro e ak ⟨rfl,hb⟩;replace HB:=sB HB hb;(try clear hb)))
 go_meet
 case rel=>exact⟨_,(true),sr,H',⟨by first|omega|exact Nat.le_refl _⟩,⟨sb⟩⟩)
 case rest=>(
 clear T
 try clear x
 try clear q
 try clear c7b0
 try clear c7b1
 obtain⟨kq,L,rfl,HA,Z,HB⟩:=hcut
 cases kq with
 |zero=>exact absurd HA.out (by simp[laws_FnTextOps.j0])
 |succ kj8=>(
 have H:=HA.out
 clear HA
 simp only[laws_FnTextOps.j0]at H
 by_cases D:L=true
 ·(
 subst D
 rewrite[if_pos rfl]at H
 obtain rfl:=zI H
 go_wp2
 go_ret
 exact⟨sq,sb⟩)
 replace D:=zB D
 subst D
 rewrite[if_neg zQ]at H
 replace H:=Option.bind_eq_some_iff.mp H
 obtain⟨⟨a,c,j,i⟩,aa,H⟩:=H
 replace H:((impl_PadText.f kj8 a c j i).bind fun E=>(if E.2=true then(if(E.1.size:Int)=(mx c (a.size:Int))then(laws_FnTextOps.j1 kj8 a i E.1 (decide ((E.1.size:Int)<(a.size:Int))))else(laws_FnTextOps.j1 kj8 a i E.1 true))else(if c<0 then(some true)else(if c>200 then(some true)else(some ((j.size:Int) !=1))))))=some r:=H
 have M:=zM aa
 clear aa
 replace H:=Option.bind_eq_some_iff.mp H
 obtain⟨⟨d,ab⟩,ac,H⟩:=H
 replace H:(if ab=true then(if(d.size:Int)=(mx c (a.size:Int))then(laws_FnTextOps.j1 kj8 a i d (decide ((d.size:Int)<(a.size:Int))))else(laws_FnTextOps.j1 kj8 a i d true))else(if c<0 then(some true)else(if c>200 then(some true)else(some ((j.size:Int) !=1)))))=some r:=H
 have N:=zM ac
 clear ac
 by_cases F:ab=true
 ·(
 subst F
 rewrite[if_pos rfl]at H
 have U:=zM H
 clear H
 go_upto_region 13 with(first|((with_reducible refine gate_callee (f:=33) rfl ?_);refine sC (some 43) Tryd.func33 #[.slice A0 l0.length c0] (spec_DrawPadText.calls kj8 _ _ l0 a c j i _ ?side1 ?side2 M.out) ?_;(case side1=>exact sD (zC l.out HB.out));(case side2=>exact m.out);rintro e al ⟨rfl,hb⟩;refine⟨_,rfl,?_⟩;replace HB:=sB HB hb;(try clear hb))|((with_reducible refine gate_callee (f:=34) rfl ?_);refine sC (some 53) Tryd.func34 #[.string a,.int .i64 c,.string j,.bool i] (impl_PadText.calls kj8 a c j i d true _ N.out) ?_;rintro e am ⟨rfl,hb⟩;refine⟨_,rfl,?_⟩;replace HB:=sB HB hb;(try clear hb)))
 (try simp only[zP])
 go_cut [82] (fun ae wc=>∃(kq:Nat) (O:Bool),ae= .bool O∧Aside0 (laws_FnTextOps.j1 kq a i d O=some r)∧Aside0 (kq≤kj8)∧Aside0 (Below w.heap.size w wc))
 case first=>(
 have H:=U.out
 clear U
 obtain⟨ji28,hji28⟩:∃j_:Int,(mx c (a.size:Int))=j_:=⟨_,rfl⟩
 replace H:(if(d.size:Int)=(ji28)then(laws_FnTextOps.j1 kj8 a i d (decide ((d.size:Int)<(a.size:Int))))else(laws_FnTextOps.j1 kj8 a i d true))=some r:=by first|(rw[hji28]at H;exact H)|(simp only[hji28]at H ⊢;exact H)
 (try(have hji28l:0≤ji28:=by(rw[←hji28];unfold mx;(repeat' split)<;>omega)))
 (try(have hji28m:0≤ji28:=by omega))
 have an:(if c<(a.size:Int)then(a.size:Int)else c)=ji28:=hji28
 by_cases v:(d.size:Int)=(ji28)
 ·(
 rw[if_pos v]at H
 have c29b0:((d.size:Int)==(ji28))=true:=zE v
 have c29b1:((d.size:Int) !=(ji28))=false:=zY v
 clear v
 (first|rw[c29b0]|(simp only[i64_w,i32_w];rw[c29b0])|rw[c29b2]|skip)
 have H':=zM H
 clear H
 go_wp2
 go_meet
 case rel=>exact⟨_,(decide ((d.size:Int)<(a.size:Int))),sr,H',⟨by have:=Z.out;first|omega|exact Nat.le_refl _⟩,⟨sb⟩⟩)
 rw[if_neg v]at H
 have c29b0:((d.size:Int)==(ji28))=false:=zN v
 have c29b1:((d.size:Int) !=(ji28))=true:=zX v
 (first|rw[c29b0]|(simp only[i64_w,i32_w];rw[c29b0])|rw[c29b2]|skip)
 have H':=zM H
 clear H
 go_wp2
 go_meet
 case rel=>exact⟨_,(true),sr,H',⟨by have:=Z.out;first|omega|exact Nat.le_refl _⟩,⟨sb⟩⟩)
 case rest=>(
 clear U
 try clear x
 try clear q
 try clear c7b0
 try clear c7b1
 try clear D
 try clear F
 obtain⟨kq,O,rfl,HA,ao,HB⟩:=hcut
 cases kq with
 |zero=>exact absurd HA.out (by simp[laws_FnTextOps.j1])
 |succ kj24=>(
 have H:=HA.out
 clear HA
 simp only[laws_FnTextOps.j1]at H
 by_cases P:O=true
 ·(
 subst P
 rewrite[if_pos rfl]at H
 obtain rfl:=zI H
 go_wp2
 go_ret
 exact⟨sq,sb⟩)
 replace P:=zB P
 subst P
 rewrite[if_neg zQ]at H
 by_cases Q:i=true
 ·(
 subst Q
 rewrite[if_pos rfl]at H
 obtain⟨ji32,hji32⟩:∃j_:Int,(wrap64 ((d.size:Int)-(a.size:Int)))=j_:=⟨_,rfl⟩
 replace H:(if 0≤(ji32)then(if(ji32)≤(d.size:Int)then(some ((d.extract ((ji32):Int).toNat d.size).toList==a.toList))else(none))else(none))=some r:=by first|(rw[hji32]at H;exact H)|(simp only[hji32]at H ⊢;exact H)
 have hji32w:(IntKind.i64.wrap ((d.size:Int)-(a.size:Int)))=ji32:=(i64_w _).trans hji32
 by_cases G:0≤(ji32)
 ·(
 rw[if_pos G]at H
 have c33b0:=eq_true G
 have c33b1:=zT G
 clear G
 by_cases I:(ji32)≤(d.size:Int)
 ·(
 rw[if_pos I]at H
 have c34b0:=eq_true I
 have c34b1:=zT I
 clear I
 obtain rfl:=zI H
 go_wp2
 go_ret
 exact⟨by first|rfl|(simp[errW_none,errW_some]<;>rfl)|(simp only[←hji32];first|rfl|(simp[errW_none,errW_some]<;>rfl))|(simp[*,errW_none,errW_some]<;>rfl),sb⟩)
 rw[if_neg I]at H
 exact absurd H (by simp))
 rw[if_neg G]at H
 exact absurd H (by simp))
 replace Q:=zB Q
 subst Q
 rewrite[if_neg zQ]at H
 by_cases J:0≤(a.size:Int)
 ·(
 rw[if_pos J]at H
 have c35b0:=eq_true J
 have c35b1:=zT J
 clear J
 by_cases K:(a.size:Int)≤(d.size:Int)
 ·(
 rw[if_pos K]at H
 have c36b0:=eq_true K
 have c36b1:=zT K
 clear K
 obtain rfl:=zI H
 go_wp2
 go_ret
 exact⟨sq,sb⟩)
 rw[if_neg K]at H
 exact absurd H (by simp))
 rw[if_neg J]at H
 exact absurd H (by simp))))
 replace F:=zB F
 subst F
 rewrite[if_neg zQ]at H
 by_cases y:c<0
 ·(
 rw[if_pos y]at H
 have c37b0:=zT y
 clear y
 obtain rfl:=zI H
 go_wp2_with (first|((with_reducible refine gate_callee (f:=33) rfl ?_);refine sC (some 43) Tryd.func33 #[.slice A0 l0.length c0] (spec_DrawPadText.calls kj8 _ _ l0 a c j i _ ?side1 ?side2 M.out) ?_;(case side1=>exact sD (zC l.out HB.out));(case side2=>exact m.out);rintro e ap ⟨rfl,hb⟩;refine⟨_,rfl,?_⟩;replace HB:=sB HB hb;(try clear hb))|((with_reducible refine gate_callee (f:=34) rfl ?_);refine sC (some 53) Tryd.func34 #[.string a,.int .i64 c,.string j,.bool i] (impl_PadText.calls kj8 a c j i d false _ N.out) ?_;rintro e aq ⟨rfl,hb⟩;refine⟨_,rfl,?_⟩;replace HB:=sB HB hb;(try clear hb)))
 go_ret
 exact⟨sq,sb⟩)
 rw[if_neg y]at H
 have c37b0:=zF y
 clear y
 by_cases z:c>200
 ·(
 rw[if_pos z]at H
 have c40b0:decide (200<c)=true:=zT z
 clear z
 obtain rfl:=zI H
 go_wp2_with (first|((with_reducible refine gate_callee (f:=33) rfl ?_);refine sC (some 43) Tryd.func33 #[.slice A0 l0.length c0] (spec_DrawPadText.calls kj8 _ _ l0 a c j i _ ?side1 ?side2 M.out) ?_;(case side1=>exact sD (zC l.out HB.out));(case side2=>exact m.out);rintro e ar ⟨rfl,hb⟩;refine⟨_,rfl,?_⟩;replace HB:=sB HB hb;(try clear hb))|((with_reducible refine gate_callee (f:=34) rfl ?_);refine sC (some 53) Tryd.func34 #[.string a,.int .i64 c,.string j,.bool i] (impl_PadText.calls kj8 a c j i d false _ N.out) ?_;rintro e au ⟨rfl,hb⟩;refine⟨_,rfl,?_⟩;replace HB:=sB HB hb;(try clear hb)))
 go_ret
 exact⟨sq,sb⟩)
 rw[if_neg z]at H
 have c40b0:decide (200<c)=false:=zF z
 clear z
 obtain rfl:=zI H
 go_wp2_with (first|((with_reducible refine gate_callee (f:=33) rfl ?_);refine sC (some 43) Tryd.func33 #[.slice A0 l0.length c0] (spec_DrawPadText.calls kj8 _ _ l0 a c j i _ ?side1 ?side2 M.out) ?_;(case side1=>exact sD (zC l.out HB.out));(case side2=>exact m.out);rintro e av ⟨rfl,hb⟩;refine⟨_,rfl,?_⟩;replace HB:=sB HB hb;(try clear hb))|((with_reducible refine gate_callee (f:=34) rfl ?_);refine sC (some 53) Tryd.func34 #[.string a,.int .i64 c,.string j,.bool i] (impl_PadText.calls kj8 a c j i d false _ N.out) ?_;rintro e aw ⟨rfl,hb⟩;refine⟨_,rfl,?_⟩;replace HB:=sB HB hb;(try clear hb)))
 go_ret
 exact⟨sq,sb⟩)))
 rw[if_neg q]at H
 have c7b0:(o.toList==b.toList)=false:=zN q
 have c7b1:(o.toList !=b.toList)=true:=zX q
 obtain rfl:=zI H
 go_enter Tryd.func8,Tryd.ntmps8
 go_wp2_with (first|((with_reducible refine gate_callee (f:=29) rfl ?_);refine sC (some 12) Tryd.func29 #[.slice A0 l0.length c0] (laws_c2Long.calls _ _ l0 false _ ?side1 ?side2 S.out) ?_;(case side1=>exact sD l.out);(case side2=>exact m.out);rintro e w' ⟨rfl,⟨nd,rfl⟩⟩;refine⟨_,rfl,?_⟩)|((with_reducible refine gate_callee (f:=30) rfl ?_);refine sC (some 14) Tryd.func30 #[.slice A0 l0.length c0] (spec_DrawTrimText.calls k _ _ l0 b _ ?side1 ?side2 V.out) ?_;(case side1=>exact sD l.out);(case side2=>exact m.out);rintro e ax ⟨rfl,hb⟩;refine⟨_,rfl,?_⟩;replace HB:=sB HB hb;(try clear hb))|((with_reducible refine gate_callee (f:=31) rfl ?_);refine sC (some 16) Tryd.func31 #[.string b] (impl_ReverseText.calls k b s _ W.out) ?_;rintro e ay ⟨rfl,hb⟩;refine⟨_,rfl,?_⟩;replace HB:=sB HB hb;(try clear hb))|((with_reducible refine gate_callee (f:=31) rfl ?_);refine sC (some 17) Tryd.func31 #[.string s] (impl_ReverseText.calls k s o _ X.out) ?_;rintro e az ⟨rfl,hb⟩;refine⟨_,rfl,?_⟩;replace HB:=sB HB hb;(try clear hb)))
 go_ret
 exact⟨sq,sb⟩
end Go.Proofs.YtjmojijopammjaaDoor.PFnTextOps
