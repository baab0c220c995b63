/- Printed functions: impl_HeapSize, impl_LiveSize. -/
import Derived.Test.YtpdljgieaaicpaaYLsP0
import Derived.Test.YtpdljgieaaicpaaYLsP23
import Derived.Test.YtpdljgieaaicpaaYLsP29
namespace Go.Proofs.Ytpdljgieaaicpaa.PFnExactLiveSize
open Go.RowKit Go.Proofs.YtpdljgieaaicpaaG Go.Proofs.YtpdljgieaaicpaaW.PrintWords Go.Proofs.YtpdljgieaaicpaaW.PrintLast Go.Proofs.YtpdljgieaaicpaaW.PrintMore
attribute [local go_sem] max2_int min2_int max_two min_two max_three min_three max_four min_four
set_option linter.unusedVariables false
set_option linter.unusedSimpArgs false
def impl_HeapSize.l0 : Nat → Int → List (S64) → Int → Int → Option (Int)
 |0,_,_,_,_=>none
 |k+1,x3,x10,x11,x12=>if x12<x11 then(if 0≤x12 then(if x12<(x10.length:Int)then(impl_HeapSize.l0 k (wrap64 (x3+(wrap64 ((((rd_T64 x10 x12).f4).length:Int)+(((rd_T64 x10 x12).f5).length:Int))))) x10 x11 (wrap64 (x12+1)))else(none))else(none))else(some x3)
def impl_HeapSize.f (k:Nat) (a0_0:Int) (l0_1:List (S64)):Option (Int):=(impl_ValidHeap.f k a0_0 l0_1).bind fun t488=>(if t488=true then(impl_HeapSize.l0 k 0 l0_1 (l0_1.length:Int) 0)else(some (-1)))
set_option maxHeartbeats 8000000 in
set_option maxRecDepth 100000 in
theorem impl_HeapSize.calls (k:Nat) (a0_0:Int) (A0_1:Option Addr) (c0_1:Nat) (l0_1:List (S64)) (r:Int) (w:World) (hr0_1:Kd.C k64 w A0_1 l0_1.length l0_1) (hc0_1:l0_1.length≤c0_1) (h:impl_HeapSize.f k a0_0 l0_1=some r):
  Calls Try.prog 53 #[.agg #[.int .i64 a0_0,.slice A0_1 l0_1.length c0_1]] w fun e w'=>e= .returned (.int .i64 r)∧Below w.heap.size w w':=by
 have ag:=Try.underlying32
 have ah:=Try.underlying64
 have q:=zM hr0_1
 have x:=zM hc0_1
 clear hr0_1 hc0_1
 have HB:=zM (Below.refl w.heap.size w)
 have H:((impl_ValidHeap.f k a0_0 l0_1).bind fun s=>(if s=true then(impl_HeapSize.l0 k 0 l0_1 (l0_1.length:Int) 0)else(some (-1))))=some r:=h
 clear h
 obtain⟨s,y,H⟩:=sO H
 by_cases j:s=true
 ·(
 subst j
 rewrite[if_pos rfl]at H
 have H':=zM H
 clear H
 go_enter Try.func53,Try.ntmps53
 go_wp2_with (first|((with_reducible refine gate_dst (N:=1) rfl ?_);refine sV (N:=1) (cs:= #[.int .i64 a0_0,.slice A0_1 l0_1.length c0_1]) (t:=32) ?_;intro z hg w4 hbox hb;have a:=zM (hbox);have S:=sG HB hg;have T:=sG HB hg;replace HB:=sB HB hb;clear hb hbox hg;obtain⟨U,V,W,X⟩:=cells2 a.out)|((with_reducible refine gate_callee (f:=70) rfl ?_);refine sC (some 7) Try.func70 #[.agg #[.int .i64 a0_0,.slice A0_1 l0_1.length c0_1]] (impl_ValidHeap.calls k a0_0 _ _ l0_1 true _ ?side1 ?side2 y.out) ?_;(case side1=>exact sD (zC q.out HB.out));(case side2=>exact x.out);rintro e w6 ⟨rfl,hb⟩;refine⟨_,rfl,?_⟩;replace a:=sK a hb;replace HB:=sB HB hb;(try clear hb);obtain⟨Y,Z,aa,ab⟩:=cells2 a.out))
 go_loopg [3,12] k (fun kq v3 ac w'=>∃(l:Int) (b:Int),v3= .int .i64 l∧ac= .int .i64 b∧Aside0 (impl_HeapSize.l0 kq l l0_1 (l0_1.length:Int) b=some r)∧Aside0 (kq≤k)∧Aside0 (w'.heap[z]?=some (.cells #[.int .i64 a0_0,(.slice A0_1 l0_1.length c0_1)] 32 (0,0)))∧Aside0 (Below w.heap.size w w'))
 case atStart=>exact⟨(0),(0),sr,sr,H',⟨Nat.le_refl _⟩,⟨by exact sT a.out⟩,⟨sb⟩⟩
 case round=>(
 clear H'
 try clear j
 try clear U
 try clear V
 try clear Y
 try clear Z
 try clear W
 try clear X
 try clear aa
 try clear ab
 obtain⟨l,b,rfl,rfl,HA,A,a,HB⟩:=hrel
 cases gk with
 |zero=>exact absurd HA.out (by simp[impl_HeapSize.l0])
 |succ k1=>(
 have H:=HA.out
 clear HA
 simp only[impl_HeapSize.l0]at H
 by_cases i:b<(l0_1.length:Int)
 ·(
 rw[if_pos i]at H
 have c8b0:=zT i
 clear i
 by_cases m:0≤b
 ·(
 rw[if_pos m]at H
 have c9b0:=zT m
 clear m
 by_cases p:b<(l0_1.length:Int)
 ·(
 rw[if_pos p]at H
 have c10b0:=zT p
 clear p
 have H':=zM H
 clear H
 have u:0≤(b:Int):=zzA
 have v:b<(l0_1.length:Int):=zzA
 obtain⟨ai,aj,ak,al,am,ad,B,D,E,F,G,I,J,K,L,M,O,P,Q,R⟩:=at_T64 q.out b u v
 cases ad
 replace B:=sX HB B
 replace D:=sX HB D
 replace E:=sX HB E
 replace F:=sX HB F
 replace G:=sX HB G
 replace I:=sX HB I
 replace J:=sX HB J
 replace K:=sX HB K
 replace L:=sX HB L
 replace M:=sX HB M
 have an:=zM P
 have ao:=zM O
 clear P O
 have ap:=zM R
 have aq:=zM Q
 clear R Q
 replace u:=eq_true u
 replace v:=eq_true v
 go_wp2_with (first|((with_reducible refine gate_dst (N:=5) rfl ?_);refine sV (N:=5) (cs:= #[.int .i64 0,.int .i64 0,.string (⟨#[]⟩:ByteArray),.int .i64 0,.slice none 0 0,.slice none 0 0,.int .i64 0,.int .i64 0,.string (⟨#[]⟩:ByteArray),.int .i64 0]) (t:=64) ?_;intro ar hg au hbox hb;have ae:=zM (hbox);have av:=sG HB hg;have aw:=sG HB hg;replace HB:=sB HB hb;have d:=sN a hg;have af:=sM a hg;replace a:=sK a hb;clear hb hbox hg;have ax:=af.out;have ay:=d.out;obtain⟨az,aA,aB,aC,aD,aE,aF,aG,aH,aI,aJ,aK,aL,aM,aN,aO,aP,aQ,aR,aS⟩:=cells10 ae.out))
 go_roundg k1
 case measure=>have:=A.out;omega
 case rel=>exact⟨(wrap64 (l+(wrap64 ((((rd_T64 l0_1 b).f4).length:Int)+(((rd_T64 l0_1 b).f5).length:Int))))),(wrap64 (b+1)),sr,sr,H',⟨by have:=A.out;omega⟩,⟨by(with_reducible repeat(first|refine blk_drewN ?_ _|refine blk_drew ?_|refine blk_alloc ?_ _));refine blk_far ?_ d.out _;(with_reducible repeat(first|refine blk_drewN ?_ _|refine blk_drew ?_|refine blk_alloc ?_ _));refine blk_far ?_ d.out _;(with_reducible repeat(first|refine blk_drewN ?_ _|refine blk_drew ?_|refine blk_alloc ?_ _));refine blk_far ?_ d.out _;(with_reducible repeat(first|refine blk_drewN ?_ _|refine blk_drew ?_|refine blk_alloc ?_ _));refine blk_far ?_ d.out _;(with_reducible repeat(first|refine blk_drewN ?_ _|refine blk_drew ?_|refine blk_alloc ?_ _));refine blk_far ?_ d.out _;(with_reducible repeat(first|refine blk_drewN ?_ _|refine blk_drew ?_|refine blk_alloc ?_ _));refine blk_far ?_ d.out _;(with_reducible repeat(first|refine blk_drewN ?_ _|refine blk_drew ?_|refine blk_alloc ?_ _));refine blk_far ?_ d.out _;(with_reducible repeat(first|refine blk_drewN ?_ _|refine blk_drew ?_|refine blk_alloc ?_ _));refine blk_far ?_ d.out _;(with_reducible repeat(first|refine blk_drewN ?_ _|refine blk_drew ?_|refine blk_alloc ?_ _));refine blk_far ?_ d.out _;(with_reducible repeat(first|refine blk_drewN ?_ _|refine blk_drew ?_|refine blk_alloc ?_ _));refine blk_far ?_ d.out _;exact sT a.out⟩,⟨sb⟩⟩)
 rw[if_neg p]at H
 exact absurd H (by simp))
 rw[if_neg m]at H
 exact absurd H (by simp))
 rw[if_neg i]at H
 have c8b0:=zF i
 clear i
 obtain rfl:=zI H
 go_wp2
 go_ret
 exact⟨sq,sb⟩)))
 replace j:=zB j
 subst j
 rewrite[if_neg zQ]at H
 obtain rfl:=zI H
 go_enter Try.func53,Try.ntmps53
 go_wp2_with (first|((with_reducible refine gate_dst (N:=1) rfl ?_);refine sV (N:=1) (cs:= #[.int .i64 a0_0,.slice A0_1 l0_1.length c0_1]) (t:=32) ?_;intro z hg aT hbox hb;have a:=zM (hbox);have S:=sG HB hg;have T:=sG HB hg;replace HB:=sB HB hb;clear hb hbox hg;obtain⟨aU,aV,aW,aX⟩:=cells2 a.out)|((with_reducible refine gate_callee (f:=70) rfl ?_);refine sC (some 7) Try.func70 #[.agg #[.int .i64 a0_0,.slice A0_1 l0_1.length c0_1]] (impl_ValidHeap.calls k a0_0 _ _ l0_1 false _ ?side1 ?side2 y.out) ?_;(case side1=>exact sD (zC q.out HB.out));(case side2=>exact x.out);rintro e aY ⟨rfl,hb⟩;refine⟨_,rfl,?_⟩;replace a:=sK a hb;replace HB:=sB HB hb;(try clear hb)))
 go_ret
 exact⟨sq,sb⟩
def impl_LiveSize.f (k:Nat) (a0_0:Int) (l0_1:List (S64)) (l1:List (S62)):Option (Int):=(impl_ValidRoots.f k a0_0 l0_1 l1).bind fun t492=>(if t492=true then((impl_Heap_collect.f k a0_0 l0_1 l1).bind fun bt493=>((impl_HeapSize.f k bt493.1 bt493.2.1).bind fun t501=>(some t501)))else(some (-1)))
set_option maxHeartbeats 8000000 in
set_option maxRecDepth 100000 in
theorem impl_LiveSize.calls (k:Nat) (a0_0:Int) (A0_1:Option Addr) (c0_1:Nat) (l0_1:List (S64)) (A1:Option Addr) (c1:Nat) (l1:List (S62)) (r:Int) (w:World) (hr0_1:Kd.C k64 w A0_1 l0_1.length l0_1) (hc0_1:l0_1.length≤c0_1) (hr1:Kd.C k62 w A1 l1.length l1) (hc1:l1.length≤c1) (h:impl_LiveSize.f k a0_0 l0_1 l1=some r):
  Calls Try.prog 22 #[.agg #[.int .i64 a0_0,.slice A0_1 l0_1.length c0_1],.slice A1 l1.length c1] w fun e w'=>e= .returned (.int .i64 r)∧Below w.heap.size w w':=by
 have aa:=Try.underlying32
 have u:=zM hr0_1
 have v:=zM hc0_1
 clear hr0_1 hc0_1
 have x:=zM hr1
 have y:=zM hc1
 clear hr1 hc1
 have HB:=zM (Below.refl w.heap.size w)
 have H:((impl_ValidRoots.f k a0_0 l0_1 l1).bind fun z=>(if z=true then((impl_Heap_collect.f k a0_0 l0_1 l1).bind fun E=>((impl_HeapSize.f k E.1 E.2.1).bind fun j=>(some j)))else(some (-1))))=some r:=h
 clear h
 obtain⟨z,F,H⟩:=sO H
 by_cases q:z=true
 ·(
 subst q
 rewrite[if_pos rfl]at H
 replace H:=Option.bind_eq_some_iff.mp H
 obtain⟨⟨l,i,S⟩,G,H⟩:=H
 replace H:((impl_HeapSize.f k l i).bind fun j=>(some j))=some r:=H
 have T:=zM G
 clear G
 obtain⟨j,U,H⟩:=sO H
 obtain rfl:=zI H
 go_enter Try.func22,Try.ntmps22
 go_wp2_with (first|((with_reducible refine gate_dst (N:=2) rfl ?_);refine sV (N:=2) (cs:= #[.int .i64 a0_0,.slice A0_1 l0_1.length c0_1]) (t:=32) ?_;intro I hg w7 hbox hb;have a:=zM (hbox);have V:=sG HB hg;have A:=sG HB hg;replace HB:=sB HB hb;clear hb hbox hg;obtain⟨ab,ac,ad,ae⟩:=cells2 a.out)|((with_reducible refine gate_callee (f:=43) rfl ?_);refine sC (some 9) Try.func43 #[.agg #[.int .i64 a0_0,.slice A0_1 l0_1.length c0_1],.slice A1 l1.length c1] (impl_ValidRoots.calls k a0_0 _ _ l0_1 _ _ l1 true _ ?side1 ?side2 ?side3 ?side4 F.out) ?_;(case side1=>exact sD (zC u.out HB.out));(case side2=>exact v.out);(case side3=>exact sD (zC x.out HB.out));(case side4=>exact y.out);rintro e w9 ⟨rfl,hb⟩;refine⟨_,rfl,?_⟩;replace a:=sK a hb;replace HB:=sB HB hb;(try clear hb);obtain⟨af,ag,ah,ai⟩:=cells2 a.out)|((with_reducible refine gate_callee (f:=52) rfl ?_);refine sC (some 14) Try.func52 #[.agg #[.int .i64 a0_0,.slice A0_1 l0_1.length c0_1],.slice A1 l1.length c1] (impl_Heap_collect.calls k a0_0 _ _ l0_1 _ _ l1 l i S _ ?side1 ?side2 ?side3 ?side4 T.out) ?_;(case side1=>exact sD (zC u.out HB.out));(case side2=>exact v.out);(case side3=>exact sD (zC x.out HB.out));(case side4=>exact y.out);rintro e aj ⟨ak,W,rfl,J,K,hb⟩;refine⟨_,rfl,?_⟩;have b:=zM (Kd.S_lower J (below_size zzR));have m:=zM (Kd.R_lower K (below_size zzR));replace a:=sK a hb;replace HB:=sB HB hb;(try clear hb);(try clear J);(try clear K))|((with_reducible refine gate_dst (N:=5) rfl ?_);refine sV (N:=5) (cs:= #[.int .i64 0,.slice none 0 0]) (t:=32) ?_;intro s hg al hbox hb;replace b:=zM (Kd.S_below (sI b.out) hb);replace m:=zM (Kd.R_below (sE m.out) hb);have d:=zM (hbox);have am:=sG HB hg;have an:=sG HB hg;replace HB:=sB HB hb;have B:=sN a hg;have X:=sM a hg;replace a:=sK a hb;clear hb hbox hg;have ao:=X.out;have ap:=B.out;obtain⟨aq,ar,au,av⟩:=cells2 d.out;obtain⟨L,D,Y⟩:=Kd.S_slice b.out;subst Y)|((with_reducible refine gate_callee (f:=53) rfl ?_);refine sC (some 18) Try.func53 #[.agg #[.int .i64 l,.slice L i.length D]] (impl_HeapSize.calls k l _ _ i j _ ?side1 ?side2 U.out) ?_;(case side1=>refine(Kd.S_reads' (e:=64) (base:=w.heap.size) (ok:=fun Z=>some Z≠(W:Value).ownBlock) (n:=i.length) (c:=D) ?_).2.2;exact(by(with_reducible repeat(first|apply Kd.S_alloc|apply Kd.S_drewN|apply Kd.S_drew));exact(Kd.S_mono (sSF2 (g:=s) (Kd.S_types b.out d.out (by decide)) (fun _ hk=>hk.2)) (fun _ p=>p.1))));(case side2=>exact(Kd.S_reads' b.out).2.1);rintro e aw ⟨rfl,hb⟩;refine⟨_,rfl,?_⟩;have M:=zM (Kd.S_below (by(with_reducible repeat(first|apply Kd.S_alloc|apply Kd.S_drewN|apply Kd.S_drew));exact(Kd.S_mono (sSF2 (g:=s) (Kd.S_types b.out d.out (by decide)) (fun _ hk=>hk.2)) (fun _ p=>p.1))) hb);have O:=zM (Kd.R_below (by(with_reducible repeat(first|apply Kd.R_alloc|apply Kd.R_drewN|apply Kd.R_drew));exact(Kd.R_mono (sRF2 (g:=s) (Kd.R_types m.out d.out (by decide)) (fun _ hk=>hk.2)) (fun _ p=>p.1))) hb);have P:=zM (blk_below (g:=I) (o:= .cells #[.int .i64 a0_0,.slice A0_1 l0_1.length c0_1] 32 (0,0)) (by(with_reducible repeat(first|refine blk_drewN ?_ _|refine blk_drew ?_|refine blk_alloc ?_ _));refine blk_far ?_ B.out _;(with_reducible repeat(first|refine blk_drewN ?_ _|refine blk_drew ?_|refine blk_alloc ?_ _));refine blk_far ?_ B.out _;exact sT a.out) hb);have Q:=zM (blk_below (g:=s) (o:= .cells #[.int .i64 l,.slice L i.length D] 32 (0,0)) (by exact sP2 (sT d.out)) hb);have R:=sB HB hb;clear b;clear m;clear a;clear d;clear HB;have b:=M;have m:=O;have a:=P;have d:=Q;have HB:=R;clear M O P Q R;(try clear hb);(try clear hk)))
 go_ret
 exact⟨sq,sb⟩)
 replace q:=zB q
 subst q
 rewrite[if_neg zQ]at H
 obtain rfl:=zI H
 go_enter Try.func22,Try.ntmps22
 go_wp2_with (first|((with_reducible refine gate_dst (N:=2) rfl ?_);refine sV (N:=2) (cs:= #[.int .i64 a0_0,.slice A0_1 l0_1.length c0_1]) (t:=32) ?_;intro I hg ax hbox hb;have a:=zM (hbox);have V:=sG HB hg;have A:=sG HB hg;replace HB:=sB HB hb;clear hb hbox hg;obtain⟨ay,az,aA,aB⟩:=cells2 a.out)|((with_reducible refine gate_callee (f:=43) rfl ?_);refine sC (some 9) Try.func43 #[.agg #[.int .i64 a0_0,.slice A0_1 l0_1.length c0_1],.slice A1 l1.length c1] (impl_ValidRoots.calls k a0_0 _ _ l0_1 _ _ l1 false _ ?side1 ?side2 ?side3 ?side4 F.out) ?_;(case side1=>exact sD (zC u.out HB.out));(case side2=>exact v.out);(case side3=>exact sD (zC x.out HB.out));(case side4=>exact y.out);rintro e aC ⟨rfl,hb⟩;refine⟨_,rfl,?_⟩;replace a:=sK a hb;replace HB:=sB HB hb;(try clear hb)))
 go_ret
 exact⟨sq,sb⟩
end Go.Proofs.Ytpdljgieaaicpaa.PFnExactLiveSize
