/- Printed functions: spec_l07Size, spec_LiveSize, laws_FnExactLiveSize. -/
import Derived.Test.YtpdljgieaaicpaaYLsP0
import Derived.Test.YtpdljgieaaicpaaYLsPE
import Derived.Test.YtpdljgieaaicpaaYLsP1
import Derived.Test.YtpdljgieaaicpaaYLsP2
import Derived.Test.YtpdljgieaaicpaaYLsP3
import Derived.Test.YtpdljgieaaicpaaYLsP12
import Derived.Test.YtpdljgieaaicpaaYLsP16
import Derived.Test.YtpdljgieaaicpaaYLsP30
import Derived.Test.YtpdljgieaaicpaaYLsP31
import Derived.Test.YtpdljgieaaicpaaYLsP33
namespace Go.Proofs.Ytpdljgieaaicpaa.PFnExactLiveSize
open Go.RowKit Go.Proofs.YtpdljgieaaicpaaG Go.Proofs.YtpdljgieaaicpaaW.PrintWords Go.Proofs.YtpdljgieaaicpaaW.PrintLast Go.Proofs.YtpdljgieaaicpaaW.PrintMore
attribute [local go_sem] max2_int min2_int max_two min_two max_three min_three max_four min_four
set_option linter.unusedVariables false
set_option linter.unusedSimpArgs false
def spec_l07Size.l0 : Nat → List (S32) → Int → Int → Option (Int)
 |0,_,_,_=>none
 |k+1,x0,x3,x4=>if 0<(x0.length:Int)then(if x4<(((rd_T32 x0 0).f1).length:Int)then(if 0≤x4 then(spec_l07Size.l0 k x0 (wrap64 (x3+(wrap64 ((((rd_T64 ((rd_T32 x0 0).f1) x4).f4).length:Int)+(((rd_T64 ((rd_T32 x0 0).f1) x4).f5).length:Int))))) (wrap64 (x4+1)))else(none))else(some x3))else(none)
def spec_l07Size.f (k:Nat) (l0:List (S32)):Option (Int):=spec_l07Size.l0 k l0 0 0
set_option maxHeartbeats 8000000 in
set_option maxRecDepth 100000 in
theorem spec_l07Size.calls (k:Nat) (A0:Option Addr) (l0:List (S32)) (r:Int) (w:World) (hr0:Kd.C k32 w A0 l0.length l0) (h:spec_l07Size.f k l0=some r):
  Calls Try.prog 51 #[.pointer A0] w fun e w'=>e= .returned (.int .i64 r)∧Drawn0 w w':=by
 have s:=zM hr0
 have av:=zM (Nat.le_refl l0.length)
 clear hr0
 have H:(spec_l07Size.l0 k l0 0 0)=some r:=h
 clear h
 have H':=zM H
 clear H
 go_enter Try.func51,Try.ntmps51
 go_wp2
 repeat(go_quiet (fail);try go_wp2)
 go_loopg [3,4] k (fun kq v3 v4 w'=>∃(u:Int) (a:Int),v3= .int .i64 u∧v4= .int .i64 a∧Aside0 (spec_l07Size.l0 kq l0 u a=some r)∧Aside0 (kq≤k)∧Drawn0 w w')
 case atStart=>exact⟨(0),(0),sr,sr,H',⟨Nat.le_refl _⟩,by repeat(first|exact Drawn0.refl _|apply Drawn0.step)⟩
 case round=>(
 clear H'
 obtain⟨u,a,rfl,rfl,HA,Q,⟨m1,rfl⟩⟩:=hrel
 cases gk with
 |zero=>exact absurd HA.out (by simp[spec_l07Size.l0])
 |succ k1=>(
 have H:=HA.out
 clear HA
 simp only[spec_l07Size.l0]at H
 by_cases x:0<(l0.length:Int)
 ·(
 rw[if_pos x]at H
 have c2b0:=zT x
 have c2b1:decide (0<l0.length)=true:=zT (by omega)
 clear x
 by_cases l:a<(((rd_T32 l0 0).f1).length:Int)
 ·(
 rw[if_pos l]at H
 have c3b0:=zT l
 clear l
 by_cases y:0≤a
 ·(
 rw[if_pos y]at H
 have c4b0:=zT y
 clear y
 have H':=zM H
 clear H
 have b:0≤(0:Int):=(by omega)
 have d:0<(l0.length:Int):=zzA
 obtain⟨z,ag,ah,A,B,m,p,q⟩:=at_T32 s.out 0 b d
 cases A
 have ai:(0<l0.length)=True:=eq_true (by omega)
 (try rw[sZ]at B)
 (try rw[sZ]at m)
 have aj:=zM q
 have ak:=zM p
 clear q p
 replace b:=eq_true b
 replace d:=eq_true d
 have D:0≤(0:Int):=(by omega)
 have E:0<(l0.length:Int):=zzA
 obtain⟨ad308,aw,ax,al,am,R,T,U⟩:=at_T32 s.out 0 D E
 obtain rfl:z=ad308:=(by injection al)
 have ay:(0<l0.length)=True:=eq_true (by omega)
 (try rw[sZ]at am)
 (try rw[sZ]at R)
 have an:=zM U
 have az:=zM T
 clear U T
 replace D:=eq_true D
 replace E:=eq_true E
 have j:=zI (m.symm.trans R)
 injection j with j F G
 subst j
 subst G
 clear F
 have I:0≤(a:Int):=zzA
 have J:a<(((rd_T32 l0 0).f1).length:Int):=zzA
 obtain⟨aA,aB,aC,aD,aE,ao,aF,aG,aH,aI,aJ,aK,aL,aM,aN,aO,V,W,X,Y⟩:=at_T64 an.out a I J
 cases ao
 have aP:=zM W
 have aQ:=zM V
 clear W V
 have aR:=zM Y
 have aS:=zM X
 clear Y X
 replace I:=eq_true I
 replace J:=eq_true J
 have L:0≤(0:Int):=(by omega)
 have M:0<(l0.length:Int):=zzA
 obtain⟨ad310,aT,aU,ap,aq,Z,aa,ab⟩:=at_T32 s.out 0 L M
 obtain rfl:z=ad310:=(by injection ap)
 have aV:(0<l0.length)=True:=eq_true (by omega)
 (try rw[sZ]at aq)
 (try rw[sZ]at Z)
 have ar:=zM ab
 have aW:=zM aa
 clear ab aa
 replace L:=eq_true L
 replace M:=eq_true M
 have j:=zI (m.symm.trans Z)
 injection j with j F G
 subst j
 subst G
 clear F
 have O:0≤(a:Int):=zzA
 have P:a<(((rd_T32 l0 0).f1).length:Int):=zzA
 obtain⟨aX,aY,aZ,a0,a1,au,a2,a3,a4,a5,a6,a7,a8,a9,ba,bb,ac,ad,ae,af⟩:=at_T64 ar.out a O P
 cases au
 have bc:=zM ad
 have bd:=zM ac
 clear ad ac
 have be:=zM af
 have bf:=zM ae
 clear af ae
 replace O:=eq_true O
 replace P:=eq_true P
 go_wp2
 repeat(go_quiet (fail);try go_wp2)
 go_roundg k1
 case measure=>have:=Q.out;omega
 case rel=>exact⟨(wrap64 (u+(wrap64 ((((rd_T64 ((rd_T32 l0 0).f1) a).f4).length:Int)+(((rd_T64 ((rd_T32 l0 0).f1) a).f5).length:Int))))),(wrap64 (a+1)),sr,sr,H',⟨by have:=Q.out;omega⟩,by repeat(first|exact Drawn0.refl _|apply Drawn0.step)⟩)
 rw[if_neg y]at H
 exact absurd H (by simp))
 rw[if_neg l]at H
 have c3b0:=zF l
 clear l
 obtain rfl:=zI H
 have b:0≤(0:Int):=(by omega)
 have d:0<(l0.length:Int):=zzA
 obtain⟨z,ag,ah,A,B,m,p,q⟩:=at_T32 s.out 0 b d
 cases A
 have ai:(0<l0.length)=True:=eq_true (by omega)
 (try rw[sZ]at B)
 (try rw[sZ]at m)
 have aj:=zM q
 have ak:=zM p
 clear q p
 replace b:=eq_true b
 replace d:=eq_true d
 go_wp2
 repeat(go_quiet (fail);try go_wp2)
 go_ret
 exact⟨by first|rfl|(simp;done)|(simp[*];done),by repeat(first|exact Drawn0.refl _|apply Drawn0.step)⟩)
 rw[if_neg x]at H
 exact absurd H (by simp)))
def spec_LiveSize.f (k:Nat) (a0_0:Int) (l0_1:List (S64)) (l1:List (S62)):Option (Int):=(spec_l08Valid.f k [(⟨a0_0,l0_1⟩:S32)] l1).bind fun t313=>(if t313=true then((spec_l08Collect.f k [(⟨a0_0,l0_1⟩:S32)] l1).bind fun bt314=>((spec_l07Size.f k [(⟨bt314.1,bt314.2.1⟩:S32)]).bind fun t322=>(some t322)))else(some (-1)))
set_option maxHeartbeats 8000000 in
set_option maxRecDepth 100000 in
theorem spec_LiveSize.calls (k:Nat) (a0_0:Int) (A0_1:Option Addr) (c0_1:Nat) (l0_1:List (S64)) (A1:Option Addr) (c1:Nat) (l1:List (S62)) (r:Int) (w:World) (hr0_1:Kd.C k64 w A0_1 l0_1.length l0_1) (hc0_1:l0_1.length≤c0_1) (hr1:Kd.C k62 w A1 l1.length l1) (hc1:l1.length≤c1) (h:spec_LiveSize.f k a0_0 l0_1 l1=some r):
  Calls Try.prog 21 #[.agg #[.int .i64 a0_0,.slice A0_1 l0_1.length c0_1],.slice A1 l1.length c1] w fun e w'=>e= .returned (.int .i64 r)∧Below w.heap.size w w':=by
 have Y:=Try.underlying32
 have q:=zM hr0_1
 have s:=zM hc0_1
 clear hr0_1 hc0_1
 have u:=zM hr1
 have x:=zM hc1
 clear hr1 hc1
 have HB:=zM (Below.refl w.heap.size w)
 have H:((spec_l08Valid.f k [(⟨a0_0,l0_1⟩:S32)] l1).bind fun y=>(if y=true then((spec_l08Collect.f k [(⟨a0_0,l0_1⟩:S32)] l1).bind fun B=>((spec_l07Size.f k [(⟨B.1,B.2.1⟩:S32)]).bind fun b=>(some b)))else(some (-1))))=some r:=h
 clear h
 obtain⟨y,D,H⟩:=sO H
 by_cases l:y=true
 ·(
 subst l
 rewrite[if_pos rfl]at H
 replace H:=Option.bind_eq_some_iff.mp H
 obtain⟨⟨m,d,L⟩,E,H⟩:=H
 replace H:((spec_l07Size.f k [(⟨m,d⟩:S32)]).bind fun b=>(some b))=some r:=H
 have M:=zM E
 clear E
 obtain⟨b,O,H⟩:=sO H
 obtain rfl:=zI H
 go_enter Try.func21,Try.ntmps21
 go_wp2_with (first|((with_reducible refine gate_dst (N:=2) rfl ?_);refine sV (N:=2) (cs:= #[.int .i64 a0_0,.slice A0_1 l0_1.length c0_1]) (t:=32) ?_;intro p hg Z hbox hb;have a:=zM (hbox);have P:=sG HB hg;have z:=sG HB hg;replace HB:=sB HB hb;clear hb hbox hg)|((with_reducible refine gate_callee (f:=38) rfl ?_);refine sC (some 8) Try.func38 #[.pointer (some ⟨p,0,none⟩),.slice A1 l1.length c1] (spec_l08Valid.calls k _ [(⟨a0_0,l0_1⟩:S32)] _ _ l1 true _ ?side1 ?side2 ?side3 D.out) ?_;(case side1=>exact C_box (t:=32) (sT a.out) (k32_mk _ (⟨a0_0,l0_1⟩:S32) (by exact s.out) (by exact sD (zC q.out HB.out))));(case side2=>exact sD (zC u.out HB.out));(case side3=>exact x.out);rintro e w8 ⟨rfl,hb⟩;refine⟨_,rfl,?_⟩;replace a:=sK a hb;replace HB:=sB HB hb;(try clear hb))|((with_reducible refine gate_callee (f:=50) rfl ?_);refine sC (some 12) Try.func50 #[.pointer (some ⟨p,0,none⟩),.slice A1 l1.length c1] (spec_l08Collect.calls k _ [(⟨a0_0,l0_1⟩:S32)] _ _ l1 m d L _ ?side1 ?side2 ?side3 M.out) ?_;(case side1=>exact C_box (t:=32) (sT a.out) (k32_mk _ (⟨a0_0,l0_1⟩:S32) (by exact s.out) (by exact sD (zC q.out HB.out))));(case side2=>exact sD (zC u.out HB.out));(case side3=>exact x.out);rintro e w9 ⟨aa,Q,rfl,F,G,hb⟩;refine⟨_,rfl,?_⟩;have j:=zM (Kd.S_lower F (below_size zzR));have I:=zM (Kd.R_lower G (below_size zzR));replace a:=sK a hb;replace HB:=sB HB hb;(try clear hb);(try clear F);(try clear G))|((with_reducible refine gate_dst (N:=5) rfl ?_);refine sV (N:=5) (cs:= #[.int .i64 0,.slice none 0 0]) (t:=32) ?_;intro J hg ab hbox hb;replace j:=zM (Kd.S_below (sI j.out) hb);replace I:=zM (Kd.R_below (sE I.out) hb);have A:=zM (hbox);have ac:=sG HB hg;have ad:=sG HB hg;replace HB:=sB HB hb;have R:=sN a hg;have T:=sM a hg;replace a:=sK a hb;clear hb hbox hg;have ae:=T.out;have af:=R.out;obtain⟨ag,ah,ai,aj⟩:=cells2 A.out;obtain⟨ak,U,V⟩:=Kd.S_slice j.out;subst V)|((with_reducible refine gate_callee (f:=51) rfl ?_);refine sC (some 15) Try.func51 #[.pointer (some ⟨J,0,none⟩)] (spec_l07Size.calls k _ [(⟨m,d⟩:S32)] b _ ?side1 O.out) ?_;(case side1=>exact C_box (t:=32) (by exact sP2 (sT A.out)) (k32_mk _ (⟨m,d⟩:S32) (by exact(Kd.S_reads' j.out).2.1) (by refine(Kd.S_reads' (e:=64) (base:=w.heap.size) (ok:=fun W=>some W≠(Q:Value).ownBlock) (n:=d.length) (c:=U) ?_).2.2;exact(by(with_reducible repeat(first|apply Kd.S_alloc|apply Kd.S_drewN|apply Kd.S_drew));exact(Kd.S_mono (sSF2 (g:=J) (Kd.S_types j.out A.out (by decide)) (fun _ hk=>hk.2)) (fun _ X=>X.1))))));rintro e w' ⟨rfl,⟨nd,rfl⟩⟩;refine⟨_,rfl,?_⟩))
 go_ret
 exact⟨sq,sb⟩)
 replace l:=zB l
 subst l
 rewrite[if_neg zQ]at H
 obtain rfl:=zI H
 go_enter Try.func21,Try.ntmps21
 go_wp2_with (first|((with_reducible refine gate_dst (N:=2) rfl ?_);refine sV (N:=2) (cs:= #[.int .i64 a0_0,.slice A0_1 l0_1.length c0_1]) (t:=32) ?_;intro p hg al hbox hb;have a:=zM (hbox);have P:=sG HB hg;have z:=sG HB hg;replace HB:=sB HB hb;clear hb hbox hg)|((with_reducible refine gate_callee (f:=38) rfl ?_);refine sC (some 8) Try.func38 #[.pointer (some ⟨p,0,none⟩),.slice A1 l1.length c1] (spec_l08Valid.calls k _ [(⟨a0_0,l0_1⟩:S32)] _ _ l1 false _ ?side1 ?side2 ?side3 D.out) ?_;(case side1=>exact C_box (t:=32) (sT a.out) (k32_mk _ (⟨a0_0,l0_1⟩:S32) (by exact s.out) (by exact sD (zC q.out HB.out))));(case side2=>exact sD (zC u.out HB.out));(case side3=>exact x.out);rintro e am ⟨rfl,hb⟩;refine⟨_,rfl,?_⟩;replace a:=sK a hb;replace HB:=sB HB hb;(try clear hb)))
 go_ret
 exact⟨sq,sb⟩
section
attribute [local go_sem high] eqA62
def laws_FnExactLiveSize.f (k:Nat) (a0_0:Int) (l0_1:List (S86)) (l1:List (S57)):Option (Bool):=(laws_szHeap.f k a0_0 l0_1 1048576).bind fun t519=>(if t519<0 then(some true)else((laws_szValueS.f k l1 t519).bind fun t520=>(if t520<0 then(some true)else((laws_toHeap.f k a0_0 l0_1).bind fun bt521=>((laws_toValueS.f k l1).bind fun t525=>((spec_LiveSize.f k bt521.1 bt521.2 t525).bind fun t528=>((laws_toHeap.f k a0_0 l0_1).bind fun bt529=>((laws_toValueS.f k l1).bind fun t534=>((impl_LiveSize.f k bt529.1 bt529.2 t534).bind fun t537=>(if t537=t528 then((laws_toHeap.f k a0_0 l0_1).bind fun bt538=>((laws_eqHeap.f k bt529.1 bt529.2 bt538.1 bt538.2).bind fun t542=>(if t542=true then((laws_toValueS.f k l1).bind fun t543=>((laws_eqValueS.f k t534 t543).bind fun t546=>(if t546=true then(some true)else(some false))))else(some false))))else(some false)))))))))))
set_option maxHeartbeats 8000000 in
set_option maxRecDepth 100000 in
theorem laws_FnExactLiveSize.calls (k:Nat) (a0_0:Int) (A0_1:Option Addr) (c0_1:Nat) (l0_1:List (S86)) (A1:Option Addr) (c1:Nat) (l1:List (S57)) (w:World) (hr0_1:Kd.C k86 w A0_1 l0_1.length l0_1) (hc0_1:l0_1.length≤c0_1) (hr1:Kd.C k57 w A1 l1.length l1) (hc1:l1.length≤c1) (h:laws_FnExactLiveSize.f k a0_0 l0_1 l1=some true):
  Calls Try.prog 4 #[.agg #[.int .i64 a0_0,.slice A0_1 l0_1.length c0_1],.slice A1 l1.length c1] w fun e w'=>e= .returned (.bool true)∧Below w.heap.size w w':=by
 have a4:=Try.underlying24
 have a5:=Try.underlying32
 have P:=zM hr0_1
 have Q:=zM hc0_1
 clear hr0_1 hc0_1
 have U:=zM hr1
 have V:=zM hc1
 clear hr1 hc1
 have HB:=zM (Below.refl w.heap.size w)
 have H:((laws_szHeap.f k a0_0 l0_1 1048576).bind fun u=>(if u<0 then(some true)else((laws_szValueS.f k l1 u).bind fun W=>(if W<0 then(some true)else((laws_toHeap.f k a0_0 l0_1).bind fun aj=>((laws_toValueS.f k l1).bind fun J=>((spec_LiveSize.f k aj.1 aj.2 J).bind fun x=>((laws_toHeap.f k a0_0 l0_1).bind fun B=>((laws_toValueS.f k l1).bind fun q=>((impl_LiveSize.f k B.1 B.2 q).bind fun s=>(if s=x then((laws_toHeap.f k a0_0 l0_1).bind fun I=>((laws_eqHeap.f k B.1 B.2 I.1 I.2).bind fun D=>(if D=true then((laws_toValueS.f k l1).bind fun y=>((laws_eqValueS.f k q y).bind fun E=>(if E=true then(some true)else(some false))))else(some false))))else(some false))))))))))))=some true:=h
 clear h
 obtain⟨u,A3,H⟩:=sO H
 by_cases R:u<0
 ·(
 rw[if_pos R]at H
 have c4b0:=zT R
 clear R
 clear H
 go_enter Try.func4,Try.ntmps4
 go_wp2_with (first|((with_reducible refine gate_dst (N:=2) rfl ?_);refine sV (N:=2) (cs:= #[.int .i64 a0_0,.slice A0_1 l0_1.length c0_1]) (t:=24) ?_;intro X hg w5 hbox hb;have a:=zM (hbox);have ak:=sG HB hg;have F:=sG HB hg;replace HB:=sB HB hb;clear hb hbox hg;obtain⟨a6,a7,a8,a9⟩:=cells2 a.out)|((with_reducible refine gate_callee (f:=8) rfl ?_);refine sC (some 12) Try.func8 #[.agg #[.int .i64 a0_0,.slice A0_1 l0_1.length c0_1],.int .i64 1048576] (laws_szHeap.calls k a0_0 _ _ l0_1 1048576 u _ ?side1 ?side2 A3.out) ?_;(case side1=>exact sD (zC P.out HB.out));(case side2=>exact Q.out);rintro e w7 ⟨rfl,hb⟩;refine⟨_,rfl,?_⟩;replace a:=sK a hb;replace HB:=sB HB hb;(try clear hb)))
 go_ret
 exact⟨sq,sb⟩)
 rw[if_neg R]at H
 have c4b0:=zF R
 clear R
 obtain⟨W,A8,H⟩:=sO H
 by_cases T:W<0
 ·(
 rw[if_pos T]at H
 have c9b0:=zT T
 clear T
 clear H
 go_enter Try.func4,Try.ntmps4
 go_wp2_with (first|((with_reducible refine gate_dst (N:=2) rfl ?_);refine sV (N:=2) (cs:= #[.int .i64 a0_0,.slice A0_1 l0_1.length c0_1]) (t:=24) ?_;intro X hg ba hbox hb;have a:=zM (hbox);have ak:=sG HB hg;have F:=sG HB hg;replace HB:=sB HB hb;clear hb hbox hg;obtain⟨bb,bc,bd,be⟩:=cells2 a.out)|((with_reducible refine gate_callee (f:=8) rfl ?_);refine sC (some 12) Try.func8 #[.agg #[.int .i64 a0_0,.slice A0_1 l0_1.length c0_1],.int .i64 1048576] (laws_szHeap.calls k a0_0 _ _ l0_1 1048576 u _ ?side1 ?side2 A3.out) ?_;(case side1=>exact sD (zC P.out HB.out));(case side2=>exact Q.out);rintro e bf ⟨rfl,hb⟩;refine⟨_,rfl,?_⟩;replace a:=sK a hb;replace HB:=sB HB hb;(try clear hb))|((with_reducible refine gate_callee (f:=9) rfl ?_);refine sC (some 17) Try.func9 #[.slice A1 l1.length c1,.int .i64 u] (laws_szValueS.calls k _ _ l1 u W _ ?side1 ?side2 A8.out) ?_;(case side1=>exact sD (zC U.out HB.out));(case side2=>exact V.out);rintro e bg ⟨rfl,hb⟩;refine⟨_,rfl,?_⟩;replace a:=sK a hb;replace HB:=sB HB hb;(try clear hb)))
 go_ret
 exact⟨sq,sb⟩)
 rw[if_neg T]at H
 have c9b0:=zF T
 clear T
 replace H:=Option.bind_eq_some_iff.mp H
 obtain⟨⟨Z,aa⟩,al,H⟩:=H
 replace H:((laws_toValueS.f k l1).bind fun J=>((spec_LiveSize.f k Z aa J).bind fun x=>((laws_toHeap.f k a0_0 l0_1).bind fun B=>((laws_toValueS.f k l1).bind fun q=>((impl_LiveSize.f k B.1 B.2 q).bind fun s=>(if s=x then((laws_toHeap.f k a0_0 l0_1).bind fun I=>((laws_eqHeap.f k B.1 B.2 I.1 I.2).bind fun D=>(if D=true then((laws_toValueS.f k l1).bind fun y=>((laws_eqValueS.f k q y).bind fun E=>(if E=true then(some true)else(some false))))else(some false))))else(some false)))))))=some true:=H
 have aC:=zM al
 clear al
 obtain⟨J,aD,H⟩:=sO H
 obtain⟨x,aE,H⟩:=sO H
 replace H:=Option.bind_eq_some_iff.mp H
 obtain⟨⟨z,A⟩,am,H⟩:=H
 replace H:((laws_toValueS.f k l1).bind fun q=>((impl_LiveSize.f k z A q).bind fun s=>(if s=x then((laws_toHeap.f k a0_0 l0_1).bind fun I=>((laws_eqHeap.f k z A I.1 I.2).bind fun D=>(if D=true then((laws_toValueS.f k l1).bind fun y=>((laws_eqValueS.f k q y).bind fun E=>(if E=true then(some true)else(some false))))else(some false))))else(some false))))=some true:=H
 have aF:=zM am
 clear am
 obtain⟨q,aG,H⟩:=sO H
 obtain⟨s,aH,H⟩:=sO H
 by_cases L:s=x
 ·(
 rw[if_pos L]at H
 have c20b0:(s==x)=true:=zE L
 have c20b1:(s !=x)=false:=zY L
 clear L
 replace H:=Option.bind_eq_some_iff.mp H
 obtain⟨⟨ab,ac⟩,an,H⟩:=H
 replace H:((laws_eqHeap.f k z A ab ac).bind fun D=>(if D=true then((laws_toValueS.f k l1).bind fun y=>((laws_eqValueS.f k q y).bind fun E=>(if E=true then(some true)else(some false))))else(some false)))=some true:=H
 have aI:=zM an
 clear an
 obtain⟨D,aJ,H⟩:=sO H
 by_cases ad:D=true
 ·(
 subst ad
 rewrite[if_pos rfl]at H
 obtain⟨y,aK,H⟩:=sO H
 obtain⟨E,aL,H⟩:=sO H
 by_cases ae:E=true
 ·(
 subst ae
 have H1:(some true)=some true:=rfl
 clear H
 have H:=H1
 clear H1
 clear H
 go_enter Try.func4,Try.ntmps4
 try go_wp2_with (first|((with_reducible refine gate_dst (N:=2) rfl ?_);refine sV (N:=2) (cs:= #[.int .i64 a0_0,.slice A0_1 l0_1.length c0_1]) (t:=24) ?_;intro X hg bh hbox hb;have a:=zM (hbox);have ak:=sG HB hg;have F:=sG HB hg;replace HB:=sB HB hb;clear hb hbox hg;obtain⟨bi,bj,bk,bl⟩:=cells2 a.out)|((with_reducible refine gate_callee (f:=8) rfl ?_);refine sC (some 12) Try.func8 #[.agg #[.int .i64 a0_0,.slice A0_1 l0_1.length c0_1],.int .i64 1048576] (laws_szHeap.calls k a0_0 _ _ l0_1 1048576 u _ ?side1 ?side2 A3.out) ?_;(case side1=>exact sD (zC P.out HB.out));(case side2=>exact Q.out);rintro e bm ⟨rfl,hb⟩;refine⟨_,rfl,?_⟩;replace a:=sK a hb;replace HB:=sB HB hb;(try clear hb))|((with_reducible refine gate_callee (f:=9) rfl ?_);refine sC (some 17) Try.func9 #[.slice A1 l1.length c1,.int .i64 u] (laws_szValueS.calls k _ _ l1 u W _ ?side1 ?side2 A8.out) ?_;(case side1=>exact sD (zC U.out HB.out));(case side2=>exact V.out);rintro e bn ⟨rfl,hb⟩;refine⟨_,rfl,?_⟩;replace a:=sK a hb;replace HB:=sB HB hb;(try clear hb);obtain⟨bo,bp,bq,br⟩:=cells2 a.out)|((with_reducible refine gate_callee (f:=11) rfl ?_);refine sC (some 21) Try.func11 #[.agg #[.int .i64 a0_0,.slice A0_1 l0_1.length c0_1]] (laws_toHeap.calls k a0_0 _ _ l0_1 Z aa _ ?side1 ?side2 aC.out) ?_;(case side1=>exact sD (zC P.out HB.out));(case side2=>exact Q.out);rintro e bs ⟨bt,rfl,b,hb⟩;refine⟨_,rfl,?_⟩;have d:=zM (Kd.S_lower b (below_size zzR));replace a:=sK a hb;replace HB:=sB HB hb;(try clear hb);(try clear b))|((with_reducible refine gate_callee (f:=12) rfl ?_);refine sC (some 23) Try.func12 #[.slice A1 l1.length c1] (laws_toValueS.calls k _ _ l1 J _ ?side1 ?side2 aD.out) ?_;(case side1=>exact sD (zC U.out HB.out));(case side2=>exact V.out);rintro e bu ⟨bv,rfl,b,hb⟩;refine⟨_,rfl,?_⟩;replace d:=zM (Kd.S_elder' (sI d.out) (Kd.R_base b) hb);have j:=zM (Kd.R_lower b (below_size zzR));replace a:=sK a hb;replace HB:=sB HB hb;(try clear hb);(try clear b);obtain⟨aM,aN,aO⟩:=Kd.S_slice d.out;subst aO;obtain⟨aP,aQ,aR⟩:=Kd.R_slice j.out;subst aR)|((with_reducible refine gate_callee (f:=21) rfl ?_);refine sC (some 24) Try.func21 #[.agg #[.int .i64 Z,.slice aM aa.length aN],.slice aP J.length aQ] (spec_LiveSize.calls k Z _ _ aa _ _ J x _ ?side1 ?side2 ?side3 ?side4 aE.out) ?_;(case side1=>exact sD ((Kd.S_reads' d.out).2.2));(case side2=>exact(Kd.S_reads' d.out).2.1);(case side3=>exact sD ((Kd.R_reads' j.out).2.2));(case side4=>exact(Kd.R_reads' j.out).2.1);rintro e bw ⟨rfl,hb⟩;refine⟨_,rfl,?_⟩;replace d:=zM (Kd.S_below (sI d.out) hb);replace j:=zM (Kd.R_below (sE j.out) hb);replace a:=sK a hb;replace HB:=sB HB hb;(try clear hb);obtain⟨bx,bz,bA,bB⟩:=cells2 a.out)|((with_reducible refine gate_callee (f:=11) rfl ?_);refine sC (some 26) Try.func11 #[.agg #[.int .i64 a0_0,.slice A0_1 l0_1.length c0_1]] (laws_toHeap.calls k a0_0 _ _ l0_1 z A _ ?side1 ?side2 aF.out) ?_;(case side1=>exact sD (zC P.out HB.out));(case side2=>exact Q.out);rintro e bC ⟨bD,rfl,b,hb⟩;refine⟨_,rfl,?_⟩;have m:=zM (Kd.S_lower (Kd.S_new' (Kd.S_new' b (Kd.S_lt (sI d.out))) (Kd.R_lt (sE j.out))) (below_size zzR));replace d:=zM (Kd.S_elder' (sI d.out) (Kd.S_base b) hb);replace j:=zM (Kd.R_below (sE j.out) hb);replace a:=sK a hb;replace HB:=sB HB hb;(try clear hb);(try clear b))|((with_reducible refine gate_dst (N:=7) rfl ?_);refine sV (N:=7) (cs:= #[.int .i64 0,.slice none 0 0]) (t:=32) ?_;intro M hg bE hbox hb;replace d:=zM (Kd.S_below (sI d.out) hb);replace j:=zM (Kd.R_below (sE j.out) hb);replace m:=zM (Kd.S_below (sI m.out) hb);have l:=zM (hbox);have bF:=sG HB hg;have af:=sG HB hg;replace HB:=sB HB hb;have ai:=sN a hg;have aS:=sM a hg;replace a:=sK a hb;clear hb hbox hg;have bG:=aS.out;have bH:=ai.out;obtain⟨bI,bJ,bK,bL⟩:=cells2 l.out;obtain⟨ag,ah,aT⟩:=Kd.S_slice m.out;subst aT)|((with_reducible refine gate_callee (f:=12) rfl ?_);refine sC (some 28) Try.func12 #[.slice A1 l1.length c1] (laws_toValueS.calls k _ _ l1 q _ ?side1 ?side2 aG.out) ?_;(case side1=>exact zC U.out zzR);(case side2=>exact V.out);rintro e bM ⟨bN,rfl,b,hb⟩;refine⟨_,rfl,?_⟩;have ao:=zM (Kd.S_elder' (by(with_reducible repeat(first|apply Kd.S_alloc|apply Kd.S_drewN|apply Kd.S_drew));exact(Kd.S_mono (sSF2 (g:=M) (Kd.S_types d.out l.out (by decide)) (fun _ hk=>hk.2)) (fun _ O=>O.1))) (Kd.R_base b) hb);have ap:=zM (Kd.R_elder' (by(with_reducible repeat(first|apply Kd.R_alloc|apply Kd.R_drewN|apply Kd.R_drew));exact(Kd.R_mono (sRF2 (g:=M) (Kd.R_types j.out l.out (by decide)) (fun _ hk=>hk.2)) (fun _ O=>O.1))) (Kd.R_base b) hb);have aq:=zM (Kd.S_elder' (by(with_reducible repeat(first|apply Kd.S_alloc|apply Kd.S_drewN|apply Kd.S_drew));exact(Kd.S_mono (sSF2 (g:=M) (Kd.S_types m.out l.out (by decide)) (fun _ hk=>hk.2)) (fun _ O=>O.1))) (Kd.R_base b) hb);have ar:=zM (Kd.R_lower (Kd.R_new' b (Kd.R_lt (by(with_reducible repeat(first|apply Kd.R_alloc|apply Kd.R_drewN|apply Kd.R_drew));exact(Kd.R_mono (sRF2 (g:=M) (Kd.R_types j.out l.out (by decide)) (fun _ hk=>hk.2)) (fun _ O=>O.1))))) (below_size zzR));have au:=zM (blk_below (g:=X) (o:= .cells #[.int .i64 a0_0,.slice A0_1 l0_1.length c0_1] 24 (0,0)) (by(with_reducible repeat(first|refine blk_drewN ?_ _|refine blk_drew ?_|refine blk_alloc ?_ _));refine blk_far ?_ ai.out _;(with_reducible repeat(first|refine blk_drewN ?_ _|refine blk_drew ?_|refine blk_alloc ?_ _));refine blk_far ?_ ai.out _;exact sT a.out) hb);have av:=zM (blk_below (g:=M) (o:= .cells #[.int .i64 z,.slice ag A.length ah] 32 (0,0)) (by exact sP2 (sT l.out)) hb);have aw:=sB HB hb;clear d;clear j;clear m;clear a;clear l;clear HB;have d:=ao;have j:=ap;have m:=aq;have p:=ar;have a:=au;have l:=av;have HB:=aw;clear ao ap aq ar au av aw;(try clear hb);(try clear hk);(try clear b);obtain⟨bO,bP,bQ,bR⟩:=cells2 l.out;obtain⟨ax,ay,aU⟩:=Kd.R_slice p.out;subst aU)|((with_reducible refine gate_callee (f:=22) rfl ?_);refine sC (some 31) Try.func22 #[.agg #[.int .i64 z,.slice ag A.length ah],.slice ax q.length ay] (impl_LiveSize.calls k z _ _ A _ _ q s _ ?side1 ?side2 ?side3 ?side4 aH.out) ?_;(case side1=>exact sD ((Kd.S_reads' m.out).2.2));(case side2=>exact(Kd.S_reads' m.out).2.1);(case side3=>exact sD ((Kd.R_reads' p.out).2.2));(case side4=>exact(Kd.R_reads' p.out).2.1);rintro e aV ⟨rfl,hb⟩;refine⟨_,rfl,?_⟩;replace d:=zM (Kd.S_below (sI d.out) hb);replace j:=zM (Kd.R_below (sE j.out) hb);replace m:=zM (Kd.S_below (sI m.out) hb);replace p:=zM (Kd.R_below (sE p.out) hb);replace a:=sK a hb;replace l:=sK l hb;replace HB:=sB HB hb;(try clear hb);(try clear hk)))
 replace d:=zM (Kd.S_drew d.out)
 replace j:=zM (Kd.R_drew j.out)
 replace m:=zM (Kd.S_drew m.out)
 replace p:=zM (Kd.R_drew p.out)
 replace a:=zM (blk_drew a.out)
 replace l:=zM (blk_drew l.out)
 replace HB:=zM (below_drew1 HB.out)
 refine start_ (n:=5) (S:=fun w'=>w'.cell? ⟨M,0,none⟩=some (.int .i64 z)∧w'.cell? ⟨M,1,none⟩=some (.slice ag A.length ah)∧w'.cell? ⟨X,0,none⟩=some (.int .i64 a0_0)∧w'.cell? ⟨X,1,none⟩=some (.slice A0_1 l0_1.length c0_1)) (ds:=[]) #[false,false,false,false,false] (by kernel_rfl) rfl rfl ⟨(blk_cell l.out 0).trans rfl,(blk_cell l.out 1).trans rfl,(blk_cell a.out 0).trans rfl,(blk_cell a.out 1).trans rfl⟩ (fun hHeld=>?_)
 generalize aV.drew=w47 at d j m p a l HB hHeld ⊢
 refine take_ (i:=0) (N:=some 35) (v:=?_) (a':=?_) #[true,false,false,false,false] rfl rfl (by kernel_rfl) (fun _ _ _ h=>h) (Or.inl ⟨by rfl,?_⟩) hHeld ?_ ?_
 rotate_left
 ·(
 rintro w' ⟨s0,s1,s2,s3⟩
 go_simp
 with_reducible rfl)
 rotate_left
 ·(
 simp only[zP,i64_w,i32_w]
 rfl)
 refine take_ (i:=1) (N:=some 36) (v:=?_) (a':=?_) #[true,true,false,false,false] rfl rfl (by kernel_rfl) (fun _ _ _ h=>h) (Or.inl ⟨by rfl,?_⟩) hHeld ?_ ?_
 rotate_left
 ·(
 rintro w' ⟨s0,s1,s2,s3⟩
 go_simp
 with_reducible rfl)
 rotate_left
 ·(
 simp only[zP,i64_w,i32_w]
 rfl)
 refine one_ (i:=2) (N:=some 37) #[true,true,true,false,false] rfl rfl (by kernel_rfl) (by decide) (fun K hK=>?_)
 refine goes_ Try.func11 (by kernel_rfl) rfl #[.agg #[.int .i64 a0_0,.slice A0_1 l0_1.length c0_1]] (by rfl) rfl rfl (by(try simp only[List.map_toArray,List.map_cons,List.map_nil]);first|done|rfl|(simp only[List.length_drop,List.length_take];rfl)) ?_
 with_reducible refine(laws_toHeap.calls k a0_0 _ _ l0_1 ab ac _ ?side1 ?side2 aI.out).mono ?_
 (case side1=>exact sD (zC P.out HB.out))
 (case side2=>exact Q.out)
 rintro e bS ⟨bT,rfl,b,hb⟩
 refine⟨_,rfl,?_⟩
 have G:=zM (Kd.S_lower (Kd.S_new' (Kd.S_new' (Kd.S_new' (Kd.S_new' b (Kd.S_lt (sI d.out))) (Kd.R_lt (sE j.out))) (Kd.S_lt (sI m.out))) (Kd.R_lt (sE p.out))) (below_size zzR))
 replace d:=zM (Kd.S_elder' (sI d.out) (Kd.S_base b) hb)
 replace j:=zM (Kd.R_below (sE j.out) hb)
 replace m:=zM (Kd.S_elder' (sI m.out) (Kd.S_base b) hb)
 replace p:=zM (Kd.R_below (sE p.out) hb)
 replace a:=sK a hb
 replace l:=sK l hb
 replace HB:=sB HB hb
 (try clear hb)
 (try clear hb2)
 (try clear hk)
 (try clear hi)
 (try clear b)
 obtain⟨aW,aX,az⟩:=Kd.S_slice G.out
 (first|subst az|(injection az with aA aY aB;have aZ:=aA.symm;have a0:=aB.symm;clear aA aY aB;subst aZ;subst a0))
 refine hK.out _ _ ⟨(blk_cell l.out 0).trans rfl,(blk_cell l.out 1).trans rfl,(blk_cell a.out 0).trans rfl,(blk_cell a.out 1).trans rfl⟩ (fun hHeld=>?_)
 clear hK K
 refine norm_ (a':=?_) ?_ ?_
 rotate_left
 ·(
 show Act.put _ (some 37) _=_
 simp only[zP,i64_w,i32_w]
 rfl)
 refine one_ (i:=3) (N:=some 38) #[true,true,true,true,false] rfl rfl (by kernel_rfl) (by decide) (fun K hK=>?_)
 refine goes_ Try.func15 (by kernel_rfl) rfl #[.agg #[.int .i64 z,.slice ag A.length ah],.agg #[.int .i64 ab,.slice aW ac.length aX]] (by rfl) rfl rfl (by(try simp only[List.map_toArray,List.map_cons,List.map_nil]);first|done|rfl|(simp only[List.length_drop,List.length_take];rfl)) ?_
 with_reducible refine(laws_eqHeap.calls k z _ _ A ab _ _ ac true _ ?side1 ?side2 ?side3 ?side4 aJ.out).mono ?_
 (case side1=>exact sD ((Kd.S_reads' m.out).2.2))
 (case side2=>exact(Kd.S_reads' m.out).2.1)
 (case side3=>exact sD ((Kd.S_reads' G.out).2.2))
 (case side4=>exact(Kd.S_reads' G.out).2.1)
 rintro e bU ⟨rfl,hb⟩
 refine⟨_,rfl,?_⟩
 replace d:=zM (Kd.S_below (sI d.out) hb)
 replace j:=zM (Kd.R_below (sE j.out) hb)
 replace m:=zM (Kd.S_below (sI m.out) hb)
 replace p:=zM (Kd.R_below (sE p.out) hb)
 replace G:=zM (Kd.S_below (sI G.out) hb)
 replace a:=sK a hb
 replace l:=sK l hb
 replace HB:=sB HB hb
 (try clear hb)
 (try clear hb2)
 (try clear hk)
 (try clear hi)
 refine hK.out _ _ ⟨(blk_cell l.out 0).trans rfl,(blk_cell l.out 1).trans rfl,(blk_cell a.out 0).trans rfl,(blk_cell a.out 1).trans rfl⟩ (fun hHeld=>?_)
 clear hK K
 refine norm_ (a':=?_) ?_ ?_
 rotate_left
 ·(
 show Act.put _ (some 38) _=_
 simp only[zP,i64_w,i32_w]
 rfl)
 refine pure_ (i:=4) (N:=some 39) (v:=?_) (a':=?_) #[true,true,true,true,true] rfl rfl (by kernel_rfl) (fun _ _ _ h=>h) (Or.inl ⟨by rfl,?_⟩) ?_ ?_
 rotate_left
 ·(
 intro w'
 go_simp
 with_reducible rfl)
 rotate_left
 ·(
 simp only[zP,i64_w,i32_w]
 rfl)
 refine done_ (by kernel_rfl) ?_
 try go_wp2_with (first|((with_reducible refine gate_callee (f:=12) rfl ?_);refine sC (some 42) Try.func12 #[.slice A1 l1.length c1] (laws_toValueS.calls k _ _ l1 y _ ?side1 ?side2 aK.out) ?_;(case side1=>exact sD (zC U.out HB.out));(case side2=>exact V.out);rintro e bV ⟨bW,rfl,b,hb⟩;refine⟨_,rfl,?_⟩;replace d:=zM (Kd.S_elder' (sI d.out) (Kd.R_base b) hb);replace m:=zM (Kd.S_elder' (sI m.out) (Kd.R_base b) hb);replace G:=zM (Kd.S_elder' (sI G.out) (Kd.R_base b) hb);have Y:=zM (Kd.R_lower (Kd.R_new' (Kd.R_new' b (Kd.R_lt (sE j.out))) (Kd.R_lt (sE p.out))) (below_size zzR));replace j:=zM (Kd.R_elder' (sE j.out) (Kd.R_base b) hb);replace p:=zM (Kd.R_elder' (sE p.out) (Kd.R_base b) hb);replace a:=sK a hb;replace l:=sK l hb;replace HB:=sB HB hb;(try clear hb);(try clear b);obtain⟨a1,a2,a3⟩:=Kd.R_slice Y.out;subst a3)|((with_reducible refine gate_callee (f:=16) rfl ?_);refine sC (some 43) Try.func16 #[.slice ax q.length ay,.slice a1 y.length a2] (laws_eqValueS.calls k _ _ q _ _ y true _ ?side1 ?side2 ?side3 ?side4 aL.out) ?_;(case side1=>exact sD ((Kd.R_reads' p.out).2.2));(case side2=>exact(Kd.R_reads' p.out).2.1);(case side3=>exact sD ((Kd.R_reads' Y.out).2.2));(case side4=>exact(Kd.R_reads' Y.out).2.1);rintro e bX ⟨rfl,hb⟩;refine⟨_,rfl,?_⟩;replace d:=zM (Kd.S_below (sI d.out) hb);replace j:=zM (Kd.R_below (sE j.out) hb);replace m:=zM (Kd.S_below (sI m.out) hb);replace p:=zM (Kd.R_below (sE p.out) hb);replace G:=zM (Kd.S_below (sI G.out) hb);replace Y:=zM (Kd.R_below (sE Y.out) hb);replace a:=sK a hb;replace l:=sK l hb;replace HB:=sB HB hb;(try clear hb)))
 go_ret
 exact⟨sq,sb⟩)
 replace ae:=zB ae
 subst ae
 rewrite[if_neg zQ]at H
 exact absurd H (by simp))
 replace ad:=zB ad
 subst ad
 rewrite[if_neg zQ]at H
 exact absurd H (by simp))
 rw[if_neg L]at H
 have c20b0:(s==x)=false:=zN L
 have c20b1:(s !=x)=true:=zX L
 exact absurd H (by simp)
end
end Go.Proofs.Ytpdljgieaaicpaa.PFnExactLiveSize
