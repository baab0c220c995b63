/- Printed functions: impl_typeName, impl_Value_text. -/
import Derived.Test.YtjmojijopammjaaDoorYCtP0
import Derived.Test.YtjmojijopammjaaDoorYCtPE
import Derived.Test.YtjmojijopammjaaDoorYCtP5
namespace Go.Proofs.YtjmojijopammjaaDoor.PFnExactCaptureText
open Go.RowKit Go.Proofs.YtjmojijopammjaaDoorG Go.Proofs.YtjmojijopammjaaDoorW.PrintWords Go.Proofs.YtjmojijopammjaaDoorW.PrintLast Go.Proofs.YtjmojijopammjaaDoorW.PrintMore
attribute [local go_sem] max2_int min2_int max_two min_two max_three min_three max_four min_four
set_option linter.unusedVariables false
set_option linter.unusedSimpArgs false
section
attribute [local go_sem high] eqA40
def impl_typeName.names:List ByteArray:=[(⟨#[]⟩:ByteArray),(⟨#[115,116,114,105,110,103]⟩:ByteArray),(⟨#[105,110,116,101,103,101,114]⟩:ByteArray),(⟨#[112,97,116,116,101,114,110]⟩:ByteArray),(⟨#[97,114,114,97,121]⟩:ByteArray),(⟨#[116,97,98,108,101]⟩:ByteArray),(⟨#[114,101,99,111,114,100]⟩:ByteArray),(⟨#[110,97,109,101]⟩:ByteArray),(⟨#[101,120,112,114,101,115,115,105,111,110]⟩:ByteArray)]
def impl_typeName.f (a0:Int):Option (ByteArray):=if 0≤a0 then(if a0<9 then(some (rdOf ByteArray.empty impl_typeName.names a0))else none)else none
set_option maxHeartbeats 4000000 in
set_option maxRecDepth 100000 in
theorem impl_typeName.calls (a0:Int) (r:ByteArray) (w:World) (h:impl_typeName.f a0=some r):
  Calls Tryd.prog 96 #[.int .i64 a0] w fun e w'=>e= .returned (.string r)∧Below w.heap.size w w':=by
 unfold impl_typeName.f at h
 split at h
 ·(
 rename_i h0
 split at h
 ·(
 rename_i h1
 obtain rfl:=zI h
 clear h
 have HB:=zM (Below.refl w.heap.size w)
 have hn:∃n:Nat,a0=n∧n<9:=⟨a0.toNat,by omega,by omega⟩
 obtain⟨n,rfl,hn⟩:=hn
 have:n=0∨n=1∨n=2∨n=3∨n=4∨n=5∨n=6∨n=7∨n=8:=by omega
 go_enter Tryd.func96,Tryd.ntmps96
 rcases this with rfl|rfl|rfl|rfl|rfl|rfl|rfl|rfl|rfl<;>(go_wp2;go_ret;exact⟨rfl,sb⟩))
 ·cases h)
 ·cases h
end
section
attribute [local go_sem high] eqA40
def impl_Value_text.f (a0_0:Int) (a0_1:Int) (a0_2:ByteArray) (a0_3:Int):Option (ByteArray):=if a0_0=1 then((impl_QuoteText.f a0_2).bind fun t235=>(some t235))else(if a0_0=2 then((impl_decimal.f a0_1).bind fun t236=>(some t236))else(if a0_0=3 then(if 1+a0_2.size≤9223372036854775807 then(if 1+a0_2.size+1≤9223372036854775807 then(some (((⟨#[60]⟩:ByteArray)++a0_2)++(⟨#[62]⟩:ByteArray)))else(none))else(none))else(if a0_0=7 then(if 1+a0_2.size≤9223372036854775807 then(some ((⟨#[46]⟩:ByteArray)++a0_2))else(none))else(if a0_0=8 then(if 1+a0_2.size≤9223372036854775807 then(some ((⟨#[42]⟩:ByteArray)++a0_2))else(none))else((impl_typeName.f a0_0).bind fun t237=>(if t237.size+1≤9223372036854775807 then((impl_decimal.f a0_3).bind fun t238=>(if t237.size+1+t238.size≤9223372036854775807 then(some ((t237++(⟨#[35]⟩:ByteArray))++t238))else(none)))else(none)))))))
def impl_Value_text.T12:Bool×List (List Nat×List Nat):=(true,[([],[]),([0],[0]),([1],[1]),([2],[2]),([],[]),([4],[4]),([5,2],[5]),([3,6],[3,6]),([7,6,0,1,2,3,4,5,6,7],[7])])
def impl_Value_text.B12:List Nat:=[0,1,3,7,0,16,55,127,255]
theorem impl_Value_text.tab12:rtab .any (opsOf Tryd.f57 12)=impl_Value_text.T12:=by kernel_rfl
theorem impl_Value_text.bits12:waitsOk impl_Value_text.T12.2 impl_Value_text.B12=true:=by kernel_rfl
set_option maxHeartbeats 8000000 in
set_option maxRecDepth 100000 in
theorem impl_Value_text.calls (a0_0:Int) (a0_1:Int) (a0_2:ByteArray) (a0_3:Int) (r:ByteArray) (w:World) (h:impl_Value_text.f a0_0 a0_1 a0_2 a0_3=some r) (HT:EnvT w):
  Calls Tryd.prog 57 #[.agg #[.int .i64 a0_0,.int .i64 a0_1,.string a0_2,.int .i64 a0_3]] w fun e w'=>e= .returned (.string r)∧Below w.heap.size w w':=by
 have Q:=Tryd.underlying40
 have HB:=zM (Below.refl w.heap.size w)
 have H:(if a0_0=1 then((impl_QuoteText.f a0_2).bind fun B=>(some B))else(if a0_0=2 then((impl_decimal.f a0_1).bind fun C=>(some C))else(if a0_0=3 then(if 1+a0_2.size≤9223372036854775807 then(if 1+a0_2.size+1≤9223372036854775807 then(some (((⟨#[60]⟩:ByteArray)++a0_2)++(⟨#[62]⟩:ByteArray)))else(none))else(none))else(if a0_0=7 then(if 1+a0_2.size≤9223372036854775807 then(some ((⟨#[46]⟩:ByteArray)++a0_2))else(none))else(if a0_0=8 then(if 1+a0_2.size≤9223372036854775807 then(some ((⟨#[42]⟩:ByteArray)++a0_2))else(none))else((impl_typeName.f a0_0).bind fun c=>(if c.size+1≤9223372036854775807 then((impl_decimal.f a0_3).bind fun o=>(if c.size+1+o.size≤9223372036854775807 then(some ((c++(⟨#[35]⟩:ByteArray))++o))else(none)))else(none))))))))=some r:=h
 clear h
 by_cases g:a0_0=1
 ·(
 rw[if_pos g]at H
 have c2b0:(a0_0==1)=true:=zE g
 have c2b1:(a0_0 !=1)=false:=zY g
 clear g
 obtain⟨B,E,H⟩:=sO H
 obtain rfl:=zI H
 go_enter Tryd.func57,Tryd.ntmps57
 go_wp2_with (first|((with_reducible refine gate_dst (N:=1) rfl ?_);refine sV (N:=1) (cs:= #[.int .i64 a0_0,.int .i64 a0_1,.string a0_2,.int .i64 a0_3]) (t:=40) ?_;intro d hg R hbox hb;have a:=zM (hbox);have p:=sG HB hg;have q:=sG HB hg;replace HB:=sB HB hb;clear hb hbox hg;obtain⟨T,U,V,W,X,Y,Z,aa⟩:=cells4 a.out)|((with_reducible refine gate_callee (f:=38) rfl ?_);refine sC (some 9) Tryd.func38 #[.string a0_2] (impl_QuoteText.calls a0_2 B _ E.out (by first|with_reducible exact HT|exact EnvT.below HT sb)) ?_;rintro e w6 ⟨rfl,hb⟩;refine⟨_,rfl,?_⟩;replace a:=sK a hb;replace HB:=sB HB hb;(try clear hb)))
 go_ret
 exact⟨sq,sb⟩)
 rw[if_neg g]at H
 have c2b0:(a0_0==1)=false:=zN g
 have c2b1:(a0_0 !=1)=true:=zX g
 by_cases j:a0_0=2
 ·(
 rw[if_pos j]at H
 have c7b0:(a0_0==2)=true:=zE j
 have c7b1:(a0_0 !=2)=false:=zY j
 clear j
 obtain⟨C,F,H⟩:=sO H
 obtain rfl:=zI H
 go_enter Tryd.func57,Tryd.ntmps57
 go_wp2_with (first|((with_reducible refine gate_dst (N:=1) rfl ?_);refine sV (N:=1) (cs:= #[.int .i64 a0_0,.int .i64 a0_1,.string a0_2,.int .i64 a0_3]) (t:=40) ?_;intro d hg w9 hbox hb;have a:=zM (hbox);have p:=sG HB hg;have q:=sG HB hg;replace HB:=sB HB hb;clear hb hbox hg;obtain⟨ab,ac,ad,ae,af,ag,ah,ai⟩:=cells4 a.out)|((with_reducible refine gate_callee (f:=37) rfl ?_);refine sC (some 14) Tryd.func37 #[.int .i64 a0_1] (impl_decimal.calls a0_1 C _ F.out (by first|with_reducible exact HT|exact EnvT.below HT sb)) ?_;rintro e aj ⟨rfl,hb⟩;refine⟨_,rfl,?_⟩;replace a:=sK a hb;replace HB:=sB HB hb;(try clear hb)))
 go_ret
 exact⟨sq,sb⟩)
 rw[if_neg j]at H
 have c7b0:(a0_0==2)=false:=zN j
 have c7b1:(a0_0 !=2)=true:=zX j
 by_cases k:a0_0=3
 ·(
 rw[if_pos k]at H
 have c12b0:(a0_0==3)=true:=zE k
 have c12b1:(a0_0 !=3)=false:=zY k
 clear k
 by_cases s:1+a0_2.size≤9223372036854775807
 ·(
 rw[if_pos s]at H
 have c13b0:=eq_true s
 have c13b1:=zT s
 try have c13b2:(9223372036854775807<1+a0_2.size)=False:=eq_false (Nat.not_lt.2 s)
 by_cases u:1+a0_2.size+1≤9223372036854775807
 ·(
 rw[if_pos u]at H
 have c14b0:=eq_true u
 have c14b1:=zT u
 try have c14b2:(9223372036854775807<1+a0_2.size+1)=False:=eq_false (Nat.not_lt.2 u)
 obtain rfl:=zI H
 go_enter Tryd.func57,Tryd.ntmps57
 go_wp2_with (first|((with_reducible refine gate_dst (N:=1) rfl ?_);refine sV (N:=1) (cs:= #[.int .i64 a0_0,.int .i64 a0_1,.string a0_2,.int .i64 a0_3]) (t:=40) ?_;intro d hg ak hbox hb;have a:=zM (hbox);have p:=sG HB hg;have q:=sG HB hg;replace HB:=sB HB hb;clear hb hbox hg;obtain⟨al,am,an,ao,ap,aq,ar,au⟩:=cells4 a.out))
 go_ret
 exact⟨sq,sb⟩)
 rw[if_neg u]at H
 exact absurd H (by simp))
 rw[if_neg s]at H
 exact absurd H (by simp))
 rw[if_neg k]at H
 have c12b0:(a0_0==3)=false:=zN k
 have c12b1:(a0_0 !=3)=true:=zX k
 by_cases l:a0_0=7
 ·(
 rw[if_pos l]at H
 have c17b0:(a0_0==7)=true:=zE l
 have c17b1:(a0_0 !=7)=false:=zY l
 clear l
 by_cases x:1+a0_2.size≤9223372036854775807
 ·(
 rw[if_pos x]at H
 have c18b0:=eq_true x
 have c18b1:=zT x
 try have c18b2:(9223372036854775807<1+a0_2.size)=False:=eq_false (Nat.not_lt.2 x)
 obtain rfl:=zI H
 go_enter Tryd.func57,Tryd.ntmps57
 go_wp2_with (first|((with_reducible refine gate_dst (N:=1) rfl ?_);refine sV (N:=1) (cs:= #[.int .i64 a0_0,.int .i64 a0_1,.string a0_2,.int .i64 a0_3]) (t:=40) ?_;intro d hg av hbox hb;have a:=zM (hbox);have p:=sG HB hg;have q:=sG HB hg;replace HB:=sB HB hb;clear hb hbox hg;obtain⟨aw,ax,ay,az,aA,aB,aC,aD⟩:=cells4 a.out))
 go_ret
 exact⟨sq,sb⟩)
 rw[if_neg x]at H
 exact absurd H (by simp))
 rw[if_neg l]at H
 have c17b0:(a0_0==7)=false:=zN l
 have c17b1:(a0_0 !=7)=true:=zX l
 by_cases m:a0_0=8
 ·(
 rw[if_pos m]at H
 have c21b0:(a0_0==8)=true:=zE m
 have c21b1:(a0_0 !=8)=false:=zY m
 clear m
 by_cases y:1+a0_2.size≤9223372036854775807
 ·(
 rw[if_pos y]at H
 have c22b0:=eq_true y
 have c22b1:=zT y
 try have c22b2:(9223372036854775807<1+a0_2.size)=False:=eq_false (Nat.not_lt.2 y)
 obtain rfl:=zI H
 go_enter Tryd.func57,Tryd.ntmps57
 go_wp2_with (first|((with_reducible refine gate_dst (N:=1) rfl ?_);refine sV (N:=1) (cs:= #[.int .i64 a0_0,.int .i64 a0_1,.string a0_2,.int .i64 a0_3]) (t:=40) ?_;intro d hg aE hbox hb;have a:=zM (hbox);have p:=sG HB hg;have q:=sG HB hg;replace HB:=sB HB hb;clear hb hbox hg;obtain⟨aF,aG,aH,aI,aJ,aK,aL,aM⟩:=cells4 a.out))
 go_ret
 exact⟨sq,sb⟩)
 rw[if_neg y]at H
 exact absurd H (by simp))
 rw[if_neg m]at H
 have c21b0:(a0_0==8)=false:=zN m
 have c21b1:(a0_0 !=8)=true:=zX m
 obtain⟨c,G,H⟩:=sO H
 by_cases z:c.size+1≤9223372036854775807
 ·(
 rw[if_pos z]at H
 have c26b0:=eq_true z
 have c26b1:=zT z
 try have c26b2:(9223372036854775807<c.size+1)=False:=eq_false (Nat.not_lt.2 z)
 obtain⟨o,I,H⟩:=sO H
 by_cases A:c.size+1+o.size≤9223372036854775807
 ·(
 rw[if_pos A]at H
 have c28b0:=eq_true A
 have c28b1:=zT A
 try have c28b2:(9223372036854775807<c.size+1+o.size)=False:=eq_false (Nat.not_lt.2 A)
 obtain rfl:=zI H
 go_enter Tryd.func57,Tryd.ntmps57
 try go_wp2_with (first|((with_reducible refine gate_dst (N:=1) rfl ?_);refine sV (N:=1) (cs:= #[.int .i64 a0_0,.int .i64 a0_1,.string a0_2,.int .i64 a0_3]) (t:=40) ?_;intro d hg J hbox hb;have a:=zM (hbox);have p:=sG HB hg;have q:=sG HB hg;replace HB:=sB HB hb;clear hb hbox hg;obtain⟨aN,aO,aP,aQ,aR,aS,aT,aU⟩:=cells4 a.out))
 replace a:=zM (blk_drew a.out)
 replace HB:=zM (below_drew1 HB.out)
 refine start_ (n:=9) (S:=fun w'=>w'.cell? ⟨d,0,none⟩=some (.int .i64 a0_0)∧w'.cell? ⟨d,1,none⟩=some (.int .i64 a0_1)∧w'.cell? ⟨d,2,none⟩=some (.string a0_2)∧w'.cell? ⟨d,3,none⟩=some (.int .i64 a0_3)) (ds:=[]) #[false,false,false,false,false,false,false,false,false] (by kernel_rfl) rfl rfl ⟨(blk_cell a.out 0).trans rfl,(blk_cell a.out 1).trans rfl,(blk_cell a.out 2).trans rfl,(blk_cell a.out 3).trans rfl⟩ (fun hHeld=>?_);refine with_tabW impl_Value_text.tab12 impl_Value_text.bits12 (fun b D=>?_)
 generalize J.drew=w31 at a HB hHeld ⊢
 refine pure_ (i:=0) (N:=some 31) (v:=?_) (a':=?_) (bN 9 1) rfl rfl (any_of b.out (by kernel_rfl)) (fun _ _ _ h=>h) (Or.inl ⟨by rfl,?_⟩) ?_ ?_
 rotate_left
 ·(
 intro w'
 go_simp
 with_reducible rfl)
 rotate_left
 ·(
 simp only[zP,i64_w,i32_w]
 rfl)
 refine pure_ (i:=4) (N:=some 35) (v:=?_) (a':=?_) (bN 9 17) rfl rfl (any_of b.out (by kernel_rfl)) (fun _ _ _ h=>h) (Or.inl ⟨by rfl,?_⟩) ?_ ?_
 rotate_left
 ·(
 intro w'
 go_simp
 with_reducible rfl)
 rotate_left
 ·(
 simp only[zP,i64_w,i32_w]
 rfl)
 refine take_ (i:=1) (N:=some 32) (v:=?_) (a':=?_) (bN 9 19) rfl rfl (take_ofW b.out D.out (by kernel_rfl)) (fun _ _ _ h=>h) (Or.inl ⟨by rfl,?_⟩) hHeld ?_ ?_
 rotate_left
 ·(
 rintro w' ⟨L,M,O,P⟩
 go_simp
 with_reducible rfl)
 rotate_left
 ·(
 simp only[zP,i64_w,i32_w]
 rfl)
 refine take_ (i:=5) (N:=some 36) (v:=?_) (a':=?_) (bN 9 51) rfl rfl (take_ofW b.out D.out (by kernel_rfl)) (fun _ _ _ h=>h) (Or.inl ⟨by rfl,?_⟩) hHeld ?_ ?_
 rotate_left
 ·(
 rintro w' ⟨L,M,O,P⟩
 go_simp
 with_reducible rfl)
 rotate_left
 ·(
 simp only[zP,i64_w,i32_w]
 rfl)
 refine one_ (i:=2) (N:=some 33) (bN 9 55) rfl rfl (one_of b.out (by kernel_rfl)) (by decide) (fun K hK=>?_)
 refine goes_ Tryd.func96 (by kernel_rfl) rfl #[.int .i64 a0_0] (by rfl) rfl rfl (by(try simp only[List.map_toArray,List.map_cons,List.map_nil]);first|done|rfl|(simp only[List.length_drop,List.length_take];rfl)) ?_
 with_reducible refine(impl_typeName.calls a0_0 c _ G.out).mono ?_
 rintro e aV ⟨rfl,hb⟩
 refine⟨_,rfl,?_⟩
 replace a:=sK a hb
 replace HB:=sB HB hb
 (try clear hb)
 (try clear hb2)
 (try clear hk)
 (try clear hi)
 refine hK.out _ _ ⟨(blk_cell a.out 0).trans rfl,(blk_cell a.out 1).trans rfl,(blk_cell a.out 2).trans rfl,(blk_cell a.out 3).trans rfl⟩ (fun hHeld=>?_)
 clear hK K
 refine norm_ (a':=?_) ?_ ?_
 rotate_left
 ·(
 show Act.put _ (some 33) _=_
 simp only[zP,i64_w,i32_w]
 rfl)
 refine pure_ (i:=3) (N:=some 34) (v:=?_) (a':=?_) (bN 9 63) rfl rfl (any_of b.out (by kernel_rfl)) (fun _ _ _ h=>h) (Or.inl ⟨by rfl,?_⟩) ?_ ?_
 rotate_left
 ·(
 intro w'
 go_simp
 with_reducible rfl)
 rotate_left
 ·(
 simp only[zP,i64_w,i32_w]
 rfl)
 refine one_ (i:=6) (N:=some 37) (bN 9 127) rfl rfl (one_of b.out (by kernel_rfl)) (by decide) (fun K hK=>?_)
 refine goes_ Tryd.func37 (by kernel_rfl) rfl #[.int .i64 a0_3] (by rfl) rfl rfl (by(try simp only[List.map_toArray,List.map_cons,List.map_nil]);first|done|rfl|(simp only[List.length_drop,List.length_take];rfl)) ?_
 with_reducible refine(impl_decimal.calls a0_3 o _ I.out (by first|with_reducible exact HT|exact EnvT.below HT sb)).mono ?_
 rintro e aW ⟨rfl,hb⟩
 refine⟨_,rfl,?_⟩
 replace a:=sK a hb
 replace HB:=sB HB hb
 (try clear hb)
 (try clear hb2)
 (try clear hk)
 (try clear hi)
 refine hK.out _ _ ⟨(blk_cell a.out 0).trans rfl,(blk_cell a.out 1).trans rfl,(blk_cell a.out 2).trans rfl,(blk_cell a.out 3).trans rfl⟩ (fun hHeld=>?_)
 clear hK K
 refine norm_ (a':=?_) ?_ ?_
 rotate_left
 ·(
 show Act.put _ (some 37) _=_
 simp only[zP,i64_w,i32_w]
 rfl)
 refine pure_ (i:=7) (N:=some 38) (v:=?_) (a':=?_) (bN 9 255) rfl rfl (any_of b.out (by kernel_rfl)) (fun _ _ _ h=>h) (Or.inl ⟨by rfl,?_⟩) ?_ ?_
 rotate_left
 ·(
 intro w'
 go_simp
 with_reducible rfl)
 rotate_left
 ·(
 simp only[zP,i64_w,i32_w]
 rfl)
 refine pure_ (i:=8) (N:=some 2) (v:=?_) (a':=?_) (bN 9 511) rfl rfl (any_of b.out (by kernel_rfl)) (fun _ _ _ h=>h) (Or.inl ⟨by rfl,?_⟩) ?_ ?_
 rotate_left
 ·(
 intro w'
 go_simp
 with_reducible rfl)
 rotate_left
 ·(
 simp only[zP,i64_w,i32_w]
 rfl)
 refine done_ (done_of b.out (by kernel_rfl)) ?_
 try go_wp2
 go_ret
 exact⟨sq,sb⟩)
 rw[if_neg A]at H
 exact absurd H (by simp))
 rw[if_neg z]at H
 exact absurd H (by simp)
end
end Go.Proofs.YtjmojijopammjaaDoor.PFnExactCaptureText
