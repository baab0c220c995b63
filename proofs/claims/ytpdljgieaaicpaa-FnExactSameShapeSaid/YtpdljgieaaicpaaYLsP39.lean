/- Printed functions: impl_SameHeap, impl_SameShape. -/
import Derived.Test.YtpdljgieaaicpaaYLsP0
import Derived.Test.YtpdljgieaaicpaaYLsPE
import Derived.Test.YtpdljgieaaicpaaYLsP23
import Derived.Test.YtpdljgieaaicpaaYLsP29
import Derived.Test.YtpdljgieaaicpaaYLsP37
import Derived.Test.YtpdljgieaaicpaaYLsP38
namespace Go.Proofs.Ytpdljgieaaicpaa.PFnExactLiveSize
open Go.RowKit Go.Proofs.YtpdljgieaaicpaaG Go.Proofs.YtpdljgieaaicpaaW.PrintWords Go.Proofs.YtpdljgieaaicpaaW.PrintLast Go.Proofs.YtpdljgieaaicpaaW.PrintMore
attribute [local go_sem] max2_int min2_int max_two min_two max_three min_three max_four min_four
set_option linter.unusedVariables false
set_option linter.unusedSimpArgs false
section
attribute [local go_sem high] eqA62
def impl_SameHeap.f (k:Nat) (a0_0:Int) (l0_1:List (S64)) (a1_0:Int) (l1_1:List (S64)):Option (Bool):=if a0_0=a1_0 then((impl_Object__impl_sameObject.f k l0_1 l1_1).bind fun t598=>(some t598))else(some false)
set_option maxHeartbeats 8000000 in
set_option maxRecDepth 100000 in
theorem impl_SameHeap.calls (k:Nat) (a0_0:Int) (A0_1:Option Addr) (c0_1:Nat) (l0_1:List (S64)) (a1_0:Int) (A1_1:Option Addr) (c1_1:Nat) (l1_1:List (S64)) (r:Bool) (w:World) (hr0_1:Kd.C k64 w A0_1 l0_1.length l0_1) (hc0_1:l0_1.length≤c0_1) (hr1_1:Kd.C k64 w A1_1 l1_1.length l1_1) (hc1_1:l1_1.length≤c1_1) (h:impl_SameHeap.f k a0_0 l0_1 a1_0 l1_1=some r):
  Calls Try.prog 29 #[.agg #[.int .i64 a0_0,.slice A0_1 l0_1.length c0_1],.agg #[.int .i64 a1_0,.slice A1_1 l1_1.length c1_1]] w fun e w'=>e= .returned (.bool r)∧Below w.heap.size w w':=by
 have D:=Try.underlying32
 have m:=zM hr0_1
 have p:=zM hc0_1
 clear hr0_1 hc0_1
 have q:=zM hr1_1
 have s:=zM hc1_1
 clear hr1_1 hc1_1
 have HB:=zM (Below.refl w.heap.size w)
 have H:(if a0_0=a1_0 then((impl_Object__impl_sameObject.f k l0_1 l1_1).bind fun i=>(some i))else(some false))=some r:=h
 clear h
 by_cases b:a0_0=a1_0
 ·(
 rw[if_pos b]at H
 have c3b0:(a0_0==a1_0)=true:=zE b
 have c3b1:(a0_0 !=a1_0)=false:=zY b
 clear b
 obtain⟨i,u,H⟩:=sO H
 obtain rfl:=zI H
 go_enter Try.func29,Try.ntmps29
 go_wp2_with (first|((with_reducible refine gate_dst (N:=2) rfl ?_);refine sV (N:=2) (cs:= #[.int .i64 a0_0,.slice A0_1 l0_1.length c0_1]) (t:=32) ?_;intro v hg E hbox hb;have a:=zM (hbox);have x:=sG HB hg;have y:=sG HB hg;replace HB:=sB HB hb;clear hb hbox hg)|((with_reducible refine gate_dst (N:=3) rfl ?_);refine sV (N:=3) (cs:= #[.int .i64 a1_0,.slice A1_1 l1_1.length c1_1]) (t:=32) ?_;intro z hg F hbox hb;have d:=zM (hbox);have A:=sG HB hg;have B:=sG HB hg;replace HB:=sB HB hb;have j:=sN a hg;have l:=sM a hg;replace a:=sK a hb;clear hb hbox hg;have G:=j.out;have I:=l.out;obtain⟨J,K,L,M⟩:=cells2 a.out;obtain⟨O,P,Q,R⟩:=cells2 d.out)|(go_at_call 58;(with_reducible refine(impl_Object__impl_sameObject.calls k _ _ l0_1 _ _ l1_1 i _ ?side1 ?side2 ?side3 ?side4 u.out).mono ?_);(case side1=>exact sD (zC m.out HB.out));(case side2=>exact p.out);(case side3=>exact sD (zC q.out HB.out));(case side4=>exact s.out);rintro e S ⟨rfl,hb⟩;replace a:=sK a hb;replace d:=sK d hb;replace HB:=sB HB hb;(try clear hb)))
 go_ret
 exact⟨sq,sb⟩)
 rw[if_neg b]at H
 have c3b0:(a0_0==a1_0)=false:=zN b
 have c3b1:(a0_0 !=a1_0)=true:=zX b
 obtain rfl:=zI H
 go_enter Try.func29,Try.ntmps29
 go_wp2_with (first|((with_reducible refine gate_dst (N:=2) rfl ?_);refine sV (N:=2) (cs:= #[.int .i64 a0_0,.slice A0_1 l0_1.length c0_1]) (t:=32) ?_;intro v hg T hbox hb;have a:=zM (hbox);have x:=sG HB hg;have y:=sG HB hg;replace HB:=sB HB hb;clear hb hbox hg)|((with_reducible refine gate_dst (N:=3) rfl ?_);refine sV (N:=3) (cs:= #[.int .i64 a1_0,.slice A1_1 l1_1.length c1_1]) (t:=32) ?_;intro z hg U hbox hb;have d:=zM (hbox);have A:=sG HB hg;have B:=sG HB hg;replace HB:=sB HB hb;have j:=sN a hg;have l:=sM a hg;replace a:=sK a hb;clear hb hbox hg;have V:=j.out;have W:=l.out;obtain⟨X,Y,Z,aa⟩:=cells2 a.out;obtain⟨ab,ac,ad,ae⟩:=cells2 d.out))
 go_ret
 exact⟨sq,sb⟩
end
section
attribute [local go_sem high] eqA62
def impl_SameShape.j0 : Nat → List (S62) → List (S62) → Bool → Int → List (S64) → Int → List (S64) → Option (Bool)
 |0,_,_,_,_,_,_,_=>none
 |k+1,x1,x3,x22,x600000,x600001,x601000,x601001=>if x22=true then(some false)else((impl_Heap_collect.f k x600000 x600001 x1).bind fun bt603=>((impl_Heap_collect.f k x601000 x601001 x3).bind fun bt611=>((impl_SameHeap.f k bt603.1 bt603.2.1 bt611.1 bt611.2.1).bind fun t619=>(if t619=true then((impl_Value_60.f k bt603.2.2 bt611.2.2).bind fun t620=>(some t620))else(some false)))))
def impl_SameShape.f (k:Nat) (a0_0:Int) (l0_1:List (S64)) (l1:List (S62)) (a2_0:Int) (l2_1:List (S64)) (l3:List (S62)):Option (Bool):=(impl_ValidRoots.f k a0_0 l0_1 l1).bind fun t601=>(if t601=true then((impl_ValidRoots.f k a2_0 l2_1 l3).bind fun t602=>(impl_SameShape.j0 k l1 l3 (!t602) a0_0 l0_1 a2_0 l2_1))else(impl_SameShape.j0 k l1 l3 true a0_0 l0_1 a2_0 l2_1))
set_option maxHeartbeats 8000000 in
set_option maxRecDepth 100000 in
theorem impl_SameShape.calls (k:Nat) (a0_0:Int) (A0_1:Option Addr) (c0_1:Nat) (l0_1:List (S64)) (A1:Option Addr) (c1:Nat) (l1:List (S62)) (a2_0:Int) (A2_1:Option Addr) (c2_1:Nat) (l2_1:List (S64)) (A3:Option Addr) (c3:Nat) (l3:List (S62)) (r:Bool) (w:World) (hr0_1:Kd.C k64 w A0_1 l0_1.length l0_1) (hc0_1:l0_1.length≤c0_1) (hr1:Kd.C k62 w A1 l1.length l1) (hc1:l1.length≤c1) (hr2_1:Kd.C k64 w A2_1 l2_1.length l2_1) (hc2_1:l2_1.length≤c2_1) (hr3:Kd.C k62 w A3 l3.length l3) (hc3:l3.length≤c3) (h:impl_SameShape.f k a0_0 l0_1 l1 a2_0 l2_1 l3=some r):
  Calls Try.prog 31 #[.agg #[.int .i64 a0_0,.slice A0_1 l0_1.length c0_1],.slice A1 l1.length c1,.agg #[.int .i64 a2_0,.slice A2_1 l2_1.length c2_1],.slice A3 l3.length c3] w fun e w'=>e= .returned (.bool r)∧Below w.heap.size w w':=by
 have a4:=Try.underlying32
 have ag:=zM hr0_1
 have ah:=zM hc0_1
 clear hr0_1 hc0_1
 have ai:=zM hr1
 have aj:=zM hc1
 clear hr1 hc1
 have ax:=zM hr2_1
 have ay:=zM hc2_1
 clear hr2_1 hc2_1
 have az:=zM hr3
 have aA:=zM hc3
 clear hr3 hc3
 have HB:=zM (Below.refl w.heap.size w)
 have H:((impl_ValidRoots.f k a0_0 l0_1 l1).bind fun aB=>(if aB=true then((impl_ValidRoots.f k a2_0 l2_1 l3).bind fun ak=>(impl_SameShape.j0 k l1 l3 (!ak) a0_0 l0_1 a2_0 l2_1))else(impl_SameShape.j0 k l1 l3 true a0_0 l0_1 a2_0 l2_1)))=some r:=h
 clear h
 have aC:=zM H
 clear H
 go_enter Try.func31,Try.ntmps31
 go_upto_region 1 with(first|((with_reducible refine gate_dst (N:=4) rfl ?_);refine sV (N:=4) (cs:= #[.int .i64 a0_0,.slice A0_1 l0_1.length c0_1]) (t:=32) ?_;intro W hg w6 hbox hb;have a:=zM (hbox);have a5:=sG HB hg;have B:=sG HB hg;replace HB:=sB HB hb;clear hb hbox hg)|((with_reducible refine gate_dst (N:=6) rfl ?_);refine sV (N:=6) (cs:= #[.int .i64 a2_0,.slice A2_1 l2_1.length c2_1]) (t:=32) ?_;intro X hg w7 hbox hb;have d:=zM (hbox);have a6:=sG HB hg;have D:=sG HB hg;replace HB:=sB HB hb;have al:=sN a hg;have am:=sM a hg;replace a:=sK a hb;clear hb hbox hg))
 (try simp only[zP])
 go_cut [22] (fun aQ wc=>∃(kq:Nat) (an:Bool),aQ= .bool an∧Aside0 (impl_SameShape.j0 kq l1 l3 an a0_0 l0_1 a2_0 l2_1=some r)∧Aside0 (kq≤k)∧Aside0 (wc.heap[W]?=some (.cells #[.int .i64 a0_0,(.slice A0_1 l0_1.length c0_1)] 32 (0,0)))∧Aside0 (wc.heap[X]?=some (.cells #[.int .i64 a2_0,(.slice A2_1 l2_1.length c2_1)] 32 (0,0)))∧Aside0 (Below w.heap.size w wc))
 case first=>(
 have H:=aC.out
 clear aC
 obtain⟨aB,A8,H⟩:=sO H
 by_cases c9:aB=true
 ·(
 subst c9
 rewrite[if_pos rfl]at H
 obtain⟨ak,aR,H⟩:=sO H
 have H':=zM H
 clear H
 have a7:=al.out
 have a8:=am.out
 obtain⟨a9,ba,bb,bc⟩:=cells2 a.out
 go_wp2_with (first|((with_reducible refine gate_callee (f:=43) rfl ?_);refine sC (some 15) Try.func43 #[.agg #[.int .i64 a0_0,.slice A0_1 l0_1.length c0_1],.slice A1 l1.length c1] (impl_ValidRoots.calls k a0_0 _ _ l0_1 _ _ l1 true _ ?side1 ?side2 ?side3 ?side4 A8.out) ?_;(case side1=>exact sD (zC ag.out HB.out));(case side2=>exact ah.out);(case side3=>exact sD (zC ai.out HB.out));(case side4=>exact aj.out);rintro e bd ⟨rfl,hb⟩;refine⟨_,rfl,?_⟩;replace a:=sK a hb;replace d:=sK d hb;replace HB:=sB HB hb;(try clear hb);obtain⟨be,bf,bg,bh⟩:=cells2 d.out)|(go_at_call 43;(with_reducible refine(impl_ValidRoots.calls k a2_0 _ _ l2_1 _ _ l3 ak _ ?side1 ?side2 ?side3 ?side4 aR.out).mono ?_);(case side1=>exact sD (zC ax.out HB.out));(case side2=>exact ay.out);(case side3=>exact sD (zC az.out HB.out));(case side4=>exact aA.out);rintro e bi ⟨rfl,hb⟩;replace a:=sK a hb;replace d:=sK d hb;replace HB:=sB HB hb;(try clear hb)))
 go_meet
 case rel=>exact⟨_,(!ak),sr,H',⟨by first|omega|exact Nat.le_refl _⟩,⟨by exact sT a.out⟩,⟨by exact sT d.out⟩,⟨sb⟩⟩)
 replace c9:=zB c9
 subst c9
 rewrite[if_neg zQ]at H
 have H':=zM H
 clear H
 have bj:=al.out
 have bk:=am.out
 obtain⟨bl,bm,bn,bo⟩:=cells2 a.out
 go_wp2_with (first|((with_reducible refine gate_callee (f:=43) rfl ?_);refine sC (some 15) Try.func43 #[.agg #[.int .i64 a0_0,.slice A0_1 l0_1.length c0_1],.slice A1 l1.length c1] (impl_ValidRoots.calls k a0_0 _ _ l0_1 _ _ l1 false _ ?side1 ?side2 ?side3 ?side4 A8.out) ?_;(case side1=>exact sD (zC ag.out HB.out));(case side2=>exact ah.out);(case side3=>exact sD (zC ai.out HB.out));(case side4=>exact aj.out);rintro e bp ⟨rfl,hb⟩;refine⟨_,rfl,?_⟩;replace a:=sK a hb;replace d:=sK d hb;replace HB:=sB HB hb;(try clear hb)))
 go_meet
 case rel=>exact⟨_,(true),sr,H',⟨by first|omega|exact Nat.le_refl _⟩,⟨by exact sT a.out⟩,⟨by exact sT d.out⟩,⟨sb⟩⟩)
 case rest=>(
 clear aC
 try clear c1
 try clear c3
 obtain⟨kq,an,rfl,HA,bq,a,d,HB⟩:=hcut
 cases kq with
 |zero=>exact absurd HA.out (by simp[impl_SameShape.j0])
 |succ kj4=>(
 have H:=HA.out
 clear HA
 simp only[impl_SameShape.j0]at H
 by_cases ao:an=true
 ·(
 subst ao
 rewrite[if_pos rfl]at H
 obtain rfl:=zI H
 go_wp2
 go_ret
 exact⟨sq,sb⟩)
 replace ao:=zB ao
 subst ao
 rewrite[if_neg zQ]at H
 replace H:=Option.bind_eq_some_iff.mp H
 obtain⟨⟨E,q,Y⟩,aL,H⟩:=H
 replace H:((impl_Heap_collect.f kj4 a2_0 l2_1 l3).bind fun aD=>((impl_SameHeap.f kj4 E q aD.1 aD.2.1).bind fun Z=>(if Z=true then((impl_Value_60.f kj4 Y aD.2.2).bind fun aa=>(some aa))else(some false))))=some r:=H
 have aM:=zM aL
 clear aL
 replace H:=Option.bind_eq_some_iff.mp H
 obtain⟨⟨P,z,ap⟩,aN,H⟩:=H
 replace H:((impl_SameHeap.f kj4 E q P z).bind fun Z=>(if Z=true then((impl_Value_60.f kj4 Y ap).bind fun aa=>(some aa))else(some false)))=some r:=H
 have aO:=zM aN
 clear aN
 obtain⟨Z,aP,H⟩:=sO H
 by_cases aq:Z=true
 ·(
 subst aq
 rewrite[if_pos rfl]at H
 obtain⟨aa,aS,H⟩:=sO H
 obtain rfl:=zI H
 have br:=al.out
 have bs:=am.out
 obtain⟨bt,bu,bv,bw⟩:=cells2 a.out
 go_wp2_with (first|((with_reducible refine gate_callee (f:=52) rfl ?_);refine sC (some 26) Try.func52 #[.agg #[.int .i64 a0_0,.slice A0_1 l0_1.length c0_1],.slice A1 l1.length c1] (impl_Heap_collect.calls kj4 a0_0 _ _ l0_1 _ _ l1 E q Y _ ?side1 ?side2 ?side3 ?side4 aM.out) ?_;(case side1=>exact sD (zC ag.out HB.out));(case side2=>exact ah.out);(case side3=>exact sD (zC ai.out HB.out));(case side4=>exact aj.out);rintro e bx ⟨aT,ab,rfl,A,s,hb⟩;refine⟨_,rfl,?_⟩;have j:=zM (Kd.S_lower A (below_size zzR));have l:=zM (Kd.R_lower s (below_size zzR));replace a:=sK a hb;replace d:=sK d hb;replace HB:=sB HB hb;(try clear hb);(try clear A);(try clear s))|((with_reducible refine gate_dst (N:=9) rfl ?_);refine sV (N:=9) (cs:= #[.int .i64 0,.slice none 0 0]) (t:=32) ?_;intro u hg bz hbox hb;replace j:=zM (Kd.S_below (sI j.out) hb);replace l:=zM (Kd.R_below (sE l.out) hb);have i:=zM (hbox);have aU:=sG HB hg;have Q:=sG HB hg;replace HB:=sB HB hb;have R:=sN a hg;have aE:=sM a hg;replace a:=sK a hb;have S:=sN d hg;have aF:=sM d hg;replace d:=sK d hb;clear hb hbox hg;have bA:=aE.out;have bB:=R.out;have bC:=aF.out;have bD:=S.out;obtain⟨bE,bF,bG,bH⟩:=cells2 i.out;obtain⟨ar,ac,aV⟩:=Kd.S_slice j.out;subst aV;obtain⟨bI,bJ,bK,bL⟩:=cells2 d.out)|((with_reducible refine gate_callee (f:=52) rfl ?_);refine sC (some 32) Try.func52 #[.agg #[.int .i64 a2_0,.slice A2_1 l2_1.length c2_1],.slice A3 l3.length c3] (impl_Heap_collect.calls kj4 a2_0 _ _ l2_1 _ _ l3 P z ap _ ?side1 ?side2 ?side3 ?side4 aO.out) ?_;(case side1=>exact zC ax.out zzR);(case side2=>exact ay.out);(case side3=>exact zC az.out zzR);(case side4=>exact aA.out);rintro e bM ⟨aW,ad,rfl,A,s,hb⟩;refine⟨_,rfl,?_⟩;have F:=zM (Kd.S_mono (Kd.S_told (Kd.S_told (Kd.S_old (by(with_reducible repeat(first|apply Kd.S_alloc|apply Kd.S_drewN|apply Kd.S_drew));exact(Kd.S_mono (sSF2 (g:=u) (Kd.S_types j.out i.out (by decide)) (fun _ hk=>hk.2)) (fun _ b=>b.1))) hb) (Kd.S_base A)) (Kd.R_base s)) (fun _ b=>b.1));have G:=zM (Kd.R_elder' (by(with_reducible repeat(first|apply Kd.R_alloc|apply Kd.R_drewN|apply Kd.R_drew));exact(Kd.R_mono (sRF2 (g:=u) (Kd.R_types l.out i.out (by decide)) (fun _ hk=>hk.2)) (fun _ b=>b.1))) (Kd.R_base s) hb);have I:=zM (Kd.S_lower (Kd.S_new' (Kd.S_new' A (Kd.S_lt (by(with_reducible repeat(first|apply Kd.S_alloc|apply Kd.S_drewN|apply Kd.S_drew));exact(Kd.S_mono (sSF2 (g:=u) (Kd.S_types j.out i.out (by decide)) (fun _ hk=>hk.2)) (fun _ b=>b.1))))) (Kd.R_lt (by(with_reducible repeat(first|apply Kd.R_alloc|apply Kd.R_drewN|apply Kd.R_drew));exact(Kd.R_mono (sRF2 (g:=u) (Kd.R_types l.out i.out (by decide)) (fun _ hk=>hk.2)) (fun _ b=>b.1))))) (below_size zzR));have J:=zM (Kd.R_lower (Kd.R_new' s (Kd.R_lt (by(with_reducible repeat(first|apply Kd.R_alloc|apply Kd.R_drewN|apply Kd.R_drew));exact(Kd.R_mono (sRF2 (g:=u) (Kd.R_types l.out i.out (by decide)) (fun _ hk=>hk.2)) (fun _ b=>b.1))))) (below_size zzR));have K:=zM (blk_below (g:=W) (o:= .cells #[.int .i64 a0_0,.slice A0_1 l0_1.length c0_1] 32 (0,0)) (by(with_reducible repeat(first|refine blk_drewN ?_ _|refine blk_drew ?_|refine blk_alloc ?_ _));refine blk_far ?_ R.out _;(with_reducible repeat(first|refine blk_drewN ?_ _|refine blk_drew ?_|refine blk_alloc ?_ _));refine blk_far ?_ R.out _;exact sT a.out) hb);have L:=zM (blk_below (g:=X) (o:= .cells #[.int .i64 a2_0,.slice A2_1 l2_1.length c2_1] 32 (0,0)) (by(with_reducible repeat(first|refine blk_drewN ?_ _|refine blk_drew ?_|refine blk_alloc ?_ _));refine blk_far ?_ S.out _;(with_reducible repeat(first|refine blk_drewN ?_ _|refine blk_drew ?_|refine blk_alloc ?_ _));refine blk_far ?_ S.out _;exact sT d.out) hb);have M:=zM (blk_below (g:=u) (o:= .cells #[.int .i64 E,.slice ar q.length ac] 32 (0,0)) (by exact sP2 (sT i.out)) hb);have O:=sB HB hb;clear j;clear l;clear a;clear d;clear i;clear HB;have j:=F;have l:=G;have p:=I;have y:=J;have a:=K;have d:=L;have i:=M;have HB:=O;clear F G I J K L M O;(try clear hb);(try clear hk);(try clear A);(try clear s))|((with_reducible refine gate_dst (N:=11) rfl ?_);refine sV (N:=11) (cs:= #[.int .i64 0,.slice none 0 0]) (t:=32) ?_;intro v hg bN hbox hb;replace j:=zM (Kd.S_below (sI j.out) hb);replace l:=zM (Kd.R_below (sE l.out) hb);replace p:=zM (Kd.S_below (sI p.out) hb);replace y:=zM (Kd.R_below (sE y.out) hb);have m:=zM (hbox);have aX:=sG HB hg;have aY:=sG HB hg;replace HB:=sB HB hb;have T:=sN a hg;have aG:=sM a hg;replace a:=sK a hb;have U:=sN d hg;have aH:=sM d hg;replace d:=sK d hb;have V:=sN i hg;have aI:=sM i hg;replace i:=sK i hb;clear hb hbox hg;have bO:=aG.out;have bP:=T.out;have bQ:=aH.out;have bR:=U.out;have bS:=aI.out;have bT:=V.out;obtain⟨bU,bV,bW,bX⟩:=cells2 m.out;obtain⟨aJ,au,aZ⟩:=Kd.S_slice p.out;subst aZ;obtain⟨bY,bZ,b0,b1⟩:=cells2 i.out)|((with_reducible refine gate_callee (f:=29) rfl ?_);refine sC (some 37) Try.func29 #[.agg #[.int .i64 E,.slice ar q.length ac],.agg #[.int .i64 P,.slice aJ z.length au]] (impl_SameHeap.calls kj4 E _ _ q P _ _ z true _ ?side1 ?side2 ?side3 ?side4 aP.out) ?_;(case side1=>refine(Kd.S_reads' (e:=64) (base:=w.heap.size) (ok:=fun x=>((some x≠(ab:Value).ownBlock∧some x≠(.slice aJ z.length au:Value).ownBlock)∧some x≠(ad:Value).ownBlock)) (n:=q.length) (c:=ac) ?_).2.2;exact(by(with_reducible repeat(first|apply Kd.S_alloc|apply Kd.S_drewN|apply Kd.S_drew));exact(Kd.S_mono (sSF2 (g:=v) (Kd.S_types j.out m.out (by decide)) (fun _ hk=>hk.2)) (fun _ b=>b.1))));(case side2=>exact(Kd.S_reads' j.out).2.1);(case side3=>refine(Kd.S_reads' (e:=64) (base:=w.heap.size) (ok:=fun x=>((some x≠(ad:Value).ownBlock∧some x≠(.slice ar q.length ac:Value).ownBlock)∧some x≠(ab:Value).ownBlock)) (n:=z.length) (c:=au) ?_).2.2;exact(by(with_reducible repeat(first|apply Kd.S_alloc|apply Kd.S_drewN|apply Kd.S_drew));exact(Kd.S_mono (sSF2 (g:=v) (Kd.S_types p.out m.out (by decide)) (fun _ hk=>hk.2)) (fun _ b=>b.1))));(case side4=>exact(Kd.S_reads' p.out).2.1);rintro e b2 ⟨rfl,hb⟩;refine⟨_,rfl,?_⟩;have F:=zM (Kd.S_below (by(with_reducible repeat(first|apply Kd.S_alloc|apply Kd.S_drewN|apply Kd.S_drew));exact(Kd.S_mono (sSF2 (g:=v) (Kd.S_types j.out m.out (by decide)) (fun _ hk=>hk.2)) (fun _ b=>b.1))) hb);have G:=zM (Kd.R_below (by(with_reducible repeat(first|apply Kd.R_alloc|apply Kd.R_drewN|apply Kd.R_drew));exact(Kd.R_mono (sRF2 (g:=v) (Kd.R_types l.out m.out (by decide)) (fun _ hk=>hk.2)) (fun _ b=>b.1))) hb);have I:=zM (Kd.S_below (by(with_reducible repeat(first|apply Kd.S_alloc|apply Kd.S_drewN|apply Kd.S_drew));exact(Kd.S_mono (sSF2 (g:=v) (Kd.S_types p.out m.out (by decide)) (fun _ hk=>hk.2)) (fun _ b=>b.1))) hb);have J:=zM (Kd.R_below (by(with_reducible repeat(first|apply Kd.R_alloc|apply Kd.R_drewN|apply Kd.R_drew));exact(Kd.R_mono (sRF2 (g:=v) (Kd.R_types y.out m.out (by decide)) (fun _ hk=>hk.2)) (fun _ b=>b.1))) hb);have K:=zM (blk_below (g:=W) (o:= .cells #[.int .i64 a0_0,.slice A0_1 l0_1.length c0_1] 32 (0,0)) (by(with_reducible repeat(first|refine blk_drewN ?_ _|refine blk_drew ?_|refine blk_alloc ?_ _));refine blk_far ?_ T.out _;(with_reducible repeat(first|refine blk_drewN ?_ _|refine blk_drew ?_|refine blk_alloc ?_ _));refine blk_far ?_ T.out _;exact sT a.out) hb);have L:=zM (blk_below (g:=X) (o:= .cells #[.int .i64 a2_0,.slice A2_1 l2_1.length c2_1] 32 (0,0)) (by(with_reducible repeat(first|refine blk_drewN ?_ _|refine blk_drew ?_|refine blk_alloc ?_ _));refine blk_far ?_ U.out _;(with_reducible repeat(first|refine blk_drewN ?_ _|refine blk_drew ?_|refine blk_alloc ?_ _));refine blk_far ?_ U.out _;exact sT d.out) hb);have M:=zM (blk_below (g:=u) (o:= .cells #[.int .i64 E,.slice ar q.length ac] 32 (0,0)) (by(with_reducible repeat(first|refine blk_drewN ?_ _|refine blk_drew ?_|refine blk_alloc ?_ _));refine blk_far ?_ V.out _;(with_reducible repeat(first|refine blk_drewN ?_ _|refine blk_drew ?_|refine blk_alloc ?_ _));refine blk_far ?_ V.out _;exact sT i.out) hb);have O:=zM (blk_below (g:=v) (o:= .cells #[.int .i64 P,.slice aJ z.length au] 32 (0,0)) (by exact sP2 (sT m.out)) hb);have ae:=sB HB hb;clear j;clear l;clear p;clear y;clear a;clear d;clear i;clear m;clear HB;have j:=F;have l:=G;have p:=I;have y:=J;have a:=K;have d:=L;have i:=M;have m:=O;have HB:=ae;clear F G I J K L M O ae;(try clear hb);(try clear hk);obtain⟨b3,b4,a0⟩:=Kd.R_slice l.out;subst a0;obtain⟨b5,b6,a1⟩:=Kd.R_slice y.out;subst a1)|(go_at_call 60;(with_reducible refine(impl_Value_60.calls kj4 _ _ Y _ _ ap aa _ ?side1 ?side2 ?side3 ?side4 aS.out).mono ?_);(case side1=>exact sD ((Kd.R_reads' l.out).2.2));(case side2=>exact(Kd.R_reads' l.out).2.1);(case side3=>exact sD ((Kd.R_reads' y.out).2.2));(case side4=>exact(Kd.R_reads' y.out).2.1);rintro e w' ⟨rfl,⟨nd,rfl⟩⟩))
 go_ret
 exact⟨sq,sb⟩)
 replace aq:=zB aq
 subst aq
 rewrite[if_neg zQ]at H
 obtain rfl:=zI H
 have b7:=al.out
 have b8:=am.out
 obtain⟨b9,ca,cb,cc⟩:=cells2 a.out
 go_wp2_with (first|((with_reducible refine gate_callee (f:=52) rfl ?_);refine sC (some 26) Try.func52 #[.agg #[.int .i64 a0_0,.slice A0_1 l0_1.length c0_1],.slice A1 l1.length c1] (impl_Heap_collect.calls kj4 a0_0 _ _ l0_1 _ _ l1 E q Y _ ?side1 ?side2 ?side3 ?side4 aM.out) ?_;(case side1=>exact sD (zC ag.out HB.out));(case side2=>exact ah.out);(case side3=>exact sD (zC ai.out HB.out));(case side4=>exact aj.out);rintro e cd ⟨aT,ab,rfl,A,s,hb⟩;refine⟨_,rfl,?_⟩;have j:=zM (Kd.S_lower A (below_size zzR));have l:=zM (Kd.R_lower s (below_size zzR));replace a:=sK a hb;replace d:=sK d hb;replace HB:=sB HB hb;(try clear hb);(try clear A);(try clear s))|((with_reducible refine gate_dst (N:=9) rfl ?_);refine sV (N:=9) (cs:= #[.int .i64 0,.slice none 0 0]) (t:=32) ?_;intro u hg ce hbox hb;replace j:=zM (Kd.S_below (sI j.out) hb);replace l:=zM (Kd.R_below (sE l.out) hb);have i:=zM (hbox);have aU:=sG HB hg;have Q:=sG HB hg;replace HB:=sB HB hb;have R:=sN a hg;have aE:=sM a hg;replace a:=sK a hb;have S:=sN d hg;have aF:=sM d hg;replace d:=sK d hb;clear hb hbox hg;have cf:=aE.out;have cg:=R.out;have ch:=aF.out;have ci:=S.out;obtain⟨cj,ck,cl,cm⟩:=cells2 i.out;obtain⟨av,af,a2⟩:=Kd.S_slice j.out;subst a2;obtain⟨cn,co,cp,cq⟩:=cells2 d.out)|((with_reducible refine gate_callee (f:=52) rfl ?_);refine sC (some 32) Try.func52 #[.agg #[.int .i64 a2_0,.slice A2_1 l2_1.length c2_1],.slice A3 l3.length c3] (impl_Heap_collect.calls kj4 a2_0 _ _ l2_1 _ _ l3 P z ap _ ?side1 ?side2 ?side3 ?side4 aO.out) ?_;(case side1=>exact zC ax.out zzR);(case side2=>exact ay.out);(case side3=>exact zC az.out zzR);(case side4=>exact aA.out);rintro e cr ⟨aW,ad,rfl,A,s,hb⟩;refine⟨_,rfl,?_⟩;have F:=zM (Kd.S_mono (Kd.S_told (Kd.S_told (Kd.S_old (by(with_reducible repeat(first|apply Kd.S_alloc|apply Kd.S_drewN|apply Kd.S_drew));exact(Kd.S_mono (sSF2 (g:=u) (Kd.S_types j.out i.out (by decide)) (fun _ hk=>hk.2)) (fun _ b=>b.1))) hb) (Kd.S_base A)) (Kd.R_base s)) (fun _ b=>b.1));have G:=zM (Kd.R_elder' (by(with_reducible repeat(first|apply Kd.R_alloc|apply Kd.R_drewN|apply Kd.R_drew));exact(Kd.R_mono (sRF2 (g:=u) (Kd.R_types l.out i.out (by decide)) (fun _ hk=>hk.2)) (fun _ b=>b.1))) (Kd.R_base s) hb);have I:=zM (Kd.S_lower (Kd.S_new' (Kd.S_new' A (Kd.S_lt (by(with_reducible repeat(first|apply Kd.S_alloc|apply Kd.S_drewN|apply Kd.S_drew));exact(Kd.S_mono (sSF2 (g:=u) (Kd.S_types j.out i.out (by decide)) (fun _ hk=>hk.2)) (fun _ b=>b.1))))) (Kd.R_lt (by(with_reducible repeat(first|apply Kd.R_alloc|apply Kd.R_drewN|apply Kd.R_drew));exact(Kd.R_mono (sRF2 (g:=u) (Kd.R_types l.out i.out (by decide)) (fun _ hk=>hk.2)) (fun _ b=>b.1))))) (below_size zzR));have J:=zM (Kd.R_lower (Kd.R_new' s (Kd.R_lt (by(with_reducible repeat(first|apply Kd.R_alloc|apply Kd.R_drewN|apply Kd.R_drew));exact(Kd.R_mono (sRF2 (g:=u) (Kd.R_types l.out i.out (by decide)) (fun _ hk=>hk.2)) (fun _ b=>b.1))))) (below_size zzR));have K:=zM (blk_below (g:=W) (o:= .cells #[.int .i64 a0_0,.slice A0_1 l0_1.length c0_1] 32 (0,0)) (by(with_reducible repeat(first|refine blk_drewN ?_ _|refine blk_drew ?_|refine blk_alloc ?_ _));refine blk_far ?_ R.out _;(with_reducible repeat(first|refine blk_drewN ?_ _|refine blk_drew ?_|refine blk_alloc ?_ _));refine blk_far ?_ R.out _;exact sT a.out) hb);have L:=zM (blk_below (g:=X) (o:= .cells #[.int .i64 a2_0,.slice A2_1 l2_1.length c2_1] 32 (0,0)) (by(with_reducible repeat(first|refine blk_drewN ?_ _|refine blk_drew ?_|refine blk_alloc ?_ _));refine blk_far ?_ S.out _;(with_reducible repeat(first|refine blk_drewN ?_ _|refine blk_drew ?_|refine blk_alloc ?_ _));refine blk_far ?_ S.out _;exact sT d.out) hb);have M:=zM (blk_below (g:=u) (o:= .cells #[.int .i64 E,.slice av q.length af] 32 (0,0)) (by exact sP2 (sT i.out)) hb);have O:=sB HB hb;clear j;clear l;clear a;clear d;clear i;clear HB;have j:=F;have l:=G;have p:=I;have y:=J;have a:=K;have d:=L;have i:=M;have HB:=O;clear F G I J K L M O;(try clear hb);(try clear hk);(try clear A);(try clear s))|((with_reducible refine gate_dst (N:=11) rfl ?_);refine sV (N:=11) (cs:= #[.int .i64 0,.slice none 0 0]) (t:=32) ?_;intro v hg ct hbox hb;replace j:=zM (Kd.S_below (sI j.out) hb);replace l:=zM (Kd.R_below (sE l.out) hb);replace p:=zM (Kd.S_below (sI p.out) hb);replace y:=zM (Kd.R_below (sE y.out) hb);have m:=zM (hbox);have aX:=sG HB hg;have aY:=sG HB hg;replace HB:=sB HB hb;have T:=sN a hg;have aG:=sM a hg;replace a:=sK a hb;have U:=sN d hg;have aH:=sM d hg;replace d:=sK d hb;have V:=sN i hg;have aI:=sM i hg;replace i:=sK i hb;clear hb hbox hg;have cu:=aG.out;have cv:=T.out;have cw:=aH.out;have cx:=U.out;have cy:=aI.out;have cz:=V.out;obtain⟨cA,cB,cC,cD⟩:=cells2 m.out;obtain⟨aK,aw,a3⟩:=Kd.S_slice p.out;subst a3;obtain⟨cE,cF,cG,cH⟩:=cells2 i.out)|((with_reducible refine gate_callee (f:=29) rfl ?_);refine sC (some 37) Try.func29 #[.agg #[.int .i64 E,.slice av q.length af],.agg #[.int .i64 P,.slice aK z.length aw]] (impl_SameHeap.calls kj4 E _ _ q P _ _ z false _ ?side1 ?side2 ?side3 ?side4 aP.out) ?_;(case side1=>refine(Kd.S_reads' (e:=64) (base:=w.heap.size) (ok:=fun x=>((some x≠(ab:Value).ownBlock∧some x≠(.slice aK z.length aw:Value).ownBlock)∧some x≠(ad:Value).ownBlock)) (n:=q.length) (c:=af) ?_).2.2;exact(by(with_reducible repeat(first|apply Kd.S_alloc|apply Kd.S_drewN|apply Kd.S_drew));exact(Kd.S_mono (sSF2 (g:=v) (Kd.S_types j.out m.out (by decide)) (fun _ hk=>hk.2)) (fun _ b=>b.1))));(case side2=>exact(Kd.S_reads' j.out).2.1);(case side3=>refine(Kd.S_reads' (e:=64) (base:=w.heap.size) (ok:=fun x=>((some x≠(ad:Value).ownBlock∧some x≠(.slice av q.length af:Value).ownBlock)∧some x≠(ab:Value).ownBlock)) (n:=z.length) (c:=aw) ?_).2.2;exact(by(with_reducible repeat(first|apply Kd.S_alloc|apply Kd.S_drewN|apply Kd.S_drew));exact(Kd.S_mono (sSF2 (g:=v) (Kd.S_types p.out m.out (by decide)) (fun _ hk=>hk.2)) (fun _ b=>b.1))));(case side4=>exact(Kd.S_reads' p.out).2.1);rintro e cI ⟨rfl,hb⟩;refine⟨_,rfl,?_⟩;have F:=zM (Kd.S_below (by(with_reducible repeat(first|apply Kd.S_alloc|apply Kd.S_drewN|apply Kd.S_drew));exact(Kd.S_mono (sSF2 (g:=v) (Kd.S_types j.out m.out (by decide)) (fun _ hk=>hk.2)) (fun _ b=>b.1))) hb);have G:=zM (Kd.R_below (by(with_reducible repeat(first|apply Kd.R_alloc|apply Kd.R_drewN|apply Kd.R_drew));exact(Kd.R_mono (sRF2 (g:=v) (Kd.R_types l.out m.out (by decide)) (fun _ hk=>hk.2)) (fun _ b=>b.1))) hb);have I:=zM (Kd.S_below (by(with_reducible repeat(first|apply Kd.S_alloc|apply Kd.S_drewN|apply Kd.S_drew));exact(Kd.S_mono (sSF2 (g:=v) (Kd.S_types p.out m.out (by decide)) (fun _ hk=>hk.2)) (fun _ b=>b.1))) hb);have J:=zM (Kd.R_below (by(with_reducible repeat(first|apply Kd.R_alloc|apply Kd.R_drewN|apply Kd.R_drew));exact(Kd.R_mono (sRF2 (g:=v) (Kd.R_types y.out m.out (by decide)) (fun _ hk=>hk.2)) (fun _ b=>b.1))) hb);have K:=zM (blk_below (g:=W) (o:= .cells #[.int .i64 a0_0,.slice A0_1 l0_1.length c0_1] 32 (0,0)) (by(with_reducible repeat(first|refine blk_drewN ?_ _|refine blk_drew ?_|refine blk_alloc ?_ _));refine blk_far ?_ T.out _;(with_reducible repeat(first|refine blk_drewN ?_ _|refine blk_drew ?_|refine blk_alloc ?_ _));refine blk_far ?_ T.out _;exact sT a.out) hb);have L:=zM (blk_below (g:=X) (o:= .cells #[.int .i64 a2_0,.slice A2_1 l2_1.length c2_1] 32 (0,0)) (by(with_reducible repeat(first|refine blk_drewN ?_ _|refine blk_drew ?_|refine blk_alloc ?_ _));refine blk_far ?_ U.out _;(with_reducible repeat(first|refine blk_drewN ?_ _|refine blk_drew ?_|refine blk_alloc ?_ _));refine blk_far ?_ U.out _;exact sT d.out) hb);have M:=zM (blk_below (g:=u) (o:= .cells #[.int .i64 E,.slice av q.length af] 32 (0,0)) (by(with_reducible repeat(first|refine blk_drewN ?_ _|refine blk_drew ?_|refine blk_alloc ?_ _));refine blk_far ?_ V.out _;(with_reducible repeat(first|refine blk_drewN ?_ _|refine blk_drew ?_|refine blk_alloc ?_ _));refine blk_far ?_ V.out _;exact sT i.out) hb);have O:=zM (blk_below (g:=v) (o:= .cells #[.int .i64 P,.slice aK z.length aw] 32 (0,0)) (by exact sP2 (sT m.out)) hb);have ae:=sB HB hb;clear j;clear l;clear p;clear y;clear a;clear d;clear i;clear m;clear HB;have j:=F;have l:=G;have p:=I;have y:=J;have a:=K;have d:=L;have i:=M;have m:=O;have HB:=ae;clear F G I J K L M O ae;(try clear hb);(try clear hk)))
 go_ret
 exact⟨sq,sb⟩))
end
end Go.Proofs.Ytpdljgieaaicpaa.PFnExactLiveSize
