/- Printed functions: impl_Garbage. -/
import Derived.Test.YtpdljgieaaicpaaYGbP0
import Derived.Test.YtpdljgieaaicpaaYGbP20
import Derived.Test.YtpdljgieaaicpaaYGbP24
namespace Go.Proofs.Ytpdljgieaaicpaa.PFnExactGarbage
open Go.RowKit Go.Proofs.YtpdljgieaaicpaaG Go.Proofs.YtpdljgieaaicpaaW.PrintWords Go.Proofs.YtpdljgieaaicpaaW.PrintLast Go.Proofs.YtpdljgieaaicpaaW.PrintMore
attribute [local go_sem] max2_int min2_int max_two min_two max_three min_three max_four min_four
set_option linter.unusedVariables false
set_option linter.unusedSimpArgs false
def impl_Garbage.l0 : Nat → List Int → List Int → List (S64) → Int → Int → Option (List Int)
 |0,_,_,_,_,_=>none
 |k+1,x5,x6,x18,x19,x20=>if x20<x19 then(if 0≤x20 then(if x20<(x18.length:Int)then((slices_Contains_int64_int64.f k x6 ((rd_T64 x18 x20).f0)).bind fun t424=>(if t424=true then(impl_Garbage.l0 k x5 x6 x18 x19 (wrap64 (x20+1)))else(if x5.length<17592186044416 then(impl_Garbage.l0 k (x5++[(rd_T64 x18 x20).f0]) x6 x18 x19 (wrap64 (x20+1)))else(none))))else(none))else(none))else(some x5)
def impl_Garbage.f (k:Nat) (a0_0:Int) (l0_1:List (S64)) (l1:List (S62)):Option (List Int):=(impl_ValidRoots.f k a0_0 l0_1 l1).bind fun t415=>(if t415=true then((impl_Heap_reachable.f k a0_0 l0_1 l1).bind fun t419=>(impl_Garbage.l0 k (([]:List Int)) t419 l0_1 (l0_1.length:Int) 0))else(some ([]:List Int)))
set_option maxHeartbeats 8000000 in
set_option maxRecDepth 100000 in
theorem impl_Garbage.calls (k:Nat) (a0_0:Int) (A0_1:Option Addr) (c0_1:Nat) (l0_1:List (S64)) (A1:Option Addr) (c1:Nat) (l1:List (S62)) (r:List Int) (w:World) (hr0_1:Kd.C k64 w A0_1 l0_1.length l0_1) (hc0_1:l0_1.length≤c0_1) (hr1:Kd.C k62 w A1 l1.length l1) (hc1:l1.length≤c1) (h:impl_Garbage.f k a0_0 l0_1 l1=some r):
  Calls Try.prog 13 #[.agg #[.int .i64 a0_0,.slice A0_1 l0_1.length c0_1],.slice A1 l1.length c1] w fun e w'=>∃an:Value,e= .returned (an)∧Kd.R (Kd.int .i64) 2 w' w.heap.size (fun _=>True) an r∧Below w.heap.size w w':=by
 have be:=Try.underlying32
 have bf:=Try.underlying64
 have A:=zM hr0_1
 have ad:=zM hc0_1
 clear hr0_1 hc0_1
 have ae:=zM hr1
 have af:=zM hc1
 clear hr1 hc1
 have HB:=zM (Below.refl w.heap.size w)
 have H:((impl_ValidRoots.f k a0_0 l0_1 l1).bind fun ag=>(if ag=true then((impl_Heap_reachable.f k a0_0 l0_1 l1).bind fun l=>(impl_Garbage.l0 k (([]:List Int)) l l0_1 (l0_1.length:Int) 0))else(some ([]:List Int))))=some r:=h
 clear h
 obtain⟨ag,A3,H⟩:=sO H
 by_cases B:ag=true
 ·(
 subst B
 rewrite[if_pos rfl]at H
 obtain⟨y416,hy416⟩:∃y_:List Int,y_=(([]:List Int)):=⟨_,rfl⟩
 replace H:((impl_Heap_reachable.f k a0_0 l0_1 l1).bind fun l=>(impl_Garbage.l0 k y416 l l0_1 (l0_1.length:Int) 0))=some r:=by first|(rw[hy416];with_reducible exact H)|(have u:=(Option.bind_some _ _).symm.trans H;rw[hy416];with_reducible exact u)|(have u:=(Option.bind_some _ _).symm.trans H;with_reducible exact u)|with_reducible exact H|(rw[hy416];exact H)|exact H
 have ao:=zM hy416
 clear hy416
 obtain⟨l,A5,H⟩:=sO H
 have H':=zM H
 clear H
 go_enter Try.func13,Try.ntmps13
 go_wp2_with (first|((with_reducible refine gate_dst (N:=2) rfl ?_);refine sV (N:=2) (cs:= #[.int .i64 a0_0,.slice A0_1 l0_1.length c0_1]) (t:=32) ?_;intro ah hg w6 hbox hb;have d:=zM (hbox);have aH:=sG HB hg;have D:=sG HB hg;replace HB:=sB HB hb;clear hb hbox hg;obtain⟨aI,aJ,aK,aM⟩:=cells2 d.out)|((with_reducible refine gate_callee (f:=43) rfl ?_);refine sC (some 11) Try.func43 #[.agg #[.int .i64 a0_0,.slice A0_1 l0_1.length c0_1],.slice A1 l1.length c1] (impl_ValidRoots.calls k a0_0 _ _ l0_1 _ _ l1 true _ ?side1 ?side2 ?side3 ?side4 A3.out) ?_;(case side1=>exact sD (zC A.out HB.out));(case side2=>exact ad.out);(case side3=>exact sD (zC ae.out HB.out));(case side4=>exact af.out);rintro e w8 ⟨rfl,hb⟩;refine⟨_,rfl,?_⟩;replace d:=sK d hb;replace HB:=sB HB hb;(try clear hb))|((with_reducible refine gate_dst (N:=13) rfl ?_);refine Kd.R_lit (Kd.int .i64) _ 2 ?hg (N:=13) ?hd (xs:=([]:List Int)) (inner:=[]) (ok:=fun _=>True) (okp:=fun _=>True) ?hr ?hp (fun _ hk=>hk) trivial (Below.refl _ _) (Nat.le_refl _) (by simp) ?_;(case hd=>rfl);(case hg=>rfl);(case hr=>first|(go_simp;done)|(go_simp;rfl));(case hp=>exact(Reps.none _ _));intro bg w9 E hb aN aQ;clear aN aQ;(first|rw[←ao.out]at E|(simp only[Int.reduceToNat]at E;rw[←ao.out]at E));have X:=zM (Kd.R_lower E (below_size zzR));replace d:=sK d hb;replace HB:=sB HB hb;clear hb E;obtain⟨aR,aT,aU,aV⟩:=cells2 d.out)|((with_reducible refine gate_callee (f:=44) rfl ?_);refine sC (some 16) Try.func44 #[.agg #[.int .i64 a0_0,.slice A0_1 l0_1.length c0_1],.slice A1 l1.length c1] (impl_Heap_reachable.calls k a0_0 _ _ l0_1 _ _ l1 l _ ?side1 ?side2 ?side3 ?side4 A5.out) ?_;(case side1=>exact sD (zC A.out HB.out));(case side2=>exact ad.out);(case side3=>exact sD (zC ae.out HB.out));(case side4=>exact af.out);rintro e bh ⟨ap,rfl,ai,hb⟩;refine⟨_,rfl,?_⟩;have aW:=zM (Kd.R_lower (Kd.R_new' ai (Kd.R_lt (sE X.out))) (below_size zzR));replace X:=zM (Kd.R_elder' (sE X.out) (Kd.R_base ai) hb);replace d:=sK d hb;replace HB:=sB HB hb;(try clear hb);(try clear hk);(try clear ai);obtain⟨aX,aY,aZ,a0⟩:=cells2 d.out))
 go_loopg [5,20] k (fun kq v5 a1 w'=>∃(v:List Int) (a:Int),a1= .int .i64 a∧Aside0 (impl_Garbage.l0 kq v l l0_1 (l0_1.length:Int) a=some r)∧Aside0 (kq≤k)∧Aside0 (Kd.R (Kd.int .i64) 2 w' w.heap.size (fun p=>some p≠(ap:Value).ownBlock) v5 v)∧Aside0 (Kd.R (Kd.int .i64) 2 w' w.heap.size (fun p=>some p≠(v5:Value).ownBlock) ap l)∧Aside0 (w'.heap[ah]?=some (.cells #[.int .i64 a0_0,(.slice A0_1 l0_1.length c0_1)] 32 (0,0)))∧Aside0 (Below w.heap.size w w'))
 case atStart=>exact⟨(y416),(0),sr,H',⟨Nat.le_refl _⟩,⟨by(with_reducible repeat(first|apply Kd.R_alloc|apply Kd.R_drewN|apply Kd.R_drew));exact Kd.R_mono X.out (fun _ hk=>hk.2)⟩,⟨by(with_reducible repeat(first|apply Kd.R_alloc|apply Kd.R_drewN|apply Kd.R_drew));exact Kd.R_mono aW.out (fun _ hk=>hk.2)⟩,⟨by exact sT d.out⟩,⟨sb⟩⟩
 case round=>(
 clear H'
 try clear c1
 try clear B
 try clear aR
 try clear aT
 try clear aX
 try clear aY
 try clear aI
 try clear aJ
 try clear aU
 try clear aV
 try clear aZ
 try clear a0
 try clear aK
 try clear aM
 obtain⟨v,a,rfl,HA,Y,q,j,d,HB⟩:=hrel
 cases gk with
 |zero=>exact absurd HA.out (by simp[impl_Garbage.l0])
 |succ k1=>(
 have H:=HA.out
 clear HA
 simp only[impl_Garbage.l0]at H
 by_cases z:a<(l0_1.length:Int)
 ·(
 rw[if_pos z]at H
 have c14b0:=zT z
 clear z
 by_cases Z:0≤a
 ·(
 rw[if_pos Z]at H
 have c15b0:=zT Z
 clear Z
 by_cases aa:a<(l0_1.length:Int)
 ·(
 rw[if_pos aa]at H
 have c16b0:=zT aa
 clear aa
 obtain⟨a2,aq,H⟩:=sO H
 by_cases ab:a2=true
 ·(
 subst ab
 rewrite[if_pos rfl]at H
 have H':=zM H
 clear H
 have x:0≤(a:Int):=zzA
 have y:a<(l0_1.length:Int):=zzA
 obtain⟨ar,au,av,aw,ax,aj,F,G,I,J,K,L,M,O,P,Q,S,T,U,V⟩:=at_T64 A.out a x y
 cases aj
 replace F:=sX HB F
 replace G:=sX HB G
 replace I:=sX HB I
 replace J:=sX HB J
 replace K:=sX HB K
 replace L:=sX HB L
 replace M:=sX HB M
 replace O:=sX HB O
 replace P:=sX HB P
 replace Q:=sX HB Q
 have a3:=zM T
 have a4:=zM S
 clear T S
 have a5:=zM V
 have a6:=zM U
 clear V U
 replace x:=eq_true x
 replace y:=eq_true y
 go_wp2_with (first|((with_reducible refine gate_dst (N:=8) rfl ?_);refine sV (N:=8) (cs:= #[.int .i64 0,.int .i64 0,.string (⟨#[]⟩:ByteArray),.int .i64 0,.slice none 0 0,.slice none 0 0,.int .i64 0,.int .i64 0,.string (⟨#[]⟩:ByteArray),.int .i64 0]) (t:=64) ?_;intro s hg bi hbox hb;replace q:=zM (Kd.R_below (sE q.out) hb);replace j:=zM (Kd.R_below (sE j.out) hb);have m:=zM (hbox);have a7:=sG HB hg;have ak:=sG HB hg;replace HB:=sB HB hb;have i:=sN d hg;have al:=sM d hg;replace d:=sK d hb;clear hb hbox hg;have bj:=al.out;have bk:=i.out;obtain⟨bl,bm,bn,bo,bp,bq,br,bs,bt,bu,bv,bw,bx,bz,bA,bB,bC,bD,bE,bF⟩:=cells10 m.out;obtain⟨a8,ay,a9⟩:=Kd.R_slice j.out;subst a9)|((with_reducible refine gate_callee (f:=45) rfl ?_);refine sC (some 27) Try.func45 #[.slice a8 l.length ay,.int .i64 ((rd_T64 l0_1 a).f0)] (slices_Contains_int64_int64.calls k1 _ _ l ((rd_T64 l0_1 a).f0) true _ ?side1 ?side2 aq.out) ?_;(case side1=>refine(Kd.R_reads' (e:=2) (base:=w.heap.size) (ok:=fun p=>some p≠(u5:Value).ownBlock) (n:=l.length) (c:=ay) ?_).2.2;exact(by(with_reducible repeat(first|apply Kd.R_alloc|apply Kd.R_drewN|apply Kd.R_drew));exact(Kd.R_mono (sRF10 (g:=s) (Kd.R_types j.out m.out (by decide)) (fun _ hk=>hk.2)) (fun _ W=>W.1))));(case side2=>exact(Kd.R_reads' j.out).2.1);rintro e w' ⟨rfl,⟨nd,rfl⟩⟩;refine⟨_,rfl,?_⟩))
 go_roundg k1
 case measure=>have:=Y.out;omega
 case rel=>exact⟨(v),(wrap64 (a+1)),sr,H',⟨by have:=Y.out;omega⟩,⟨by(with_reducible repeat(first|apply Kd.R_alloc|apply Kd.R_drewN|apply Kd.R_drew));exact Kd.R_mono (sRF10 (g:=s) (Kd.R_types q.out m.out (by decide)) (fun _ hk=>hk.2)) (fun _ hk=>hk.1)⟩,⟨by(with_reducible repeat(first|apply Kd.R_alloc|apply Kd.R_drewN|apply Kd.R_drew));exact Kd.R_mono (sRF10 (g:=s) (Kd.R_types j.out m.out (by decide)) (fun _ hk=>hk.2)) (fun _ hk=>hk.1)⟩,⟨by(with_reducible repeat(first|refine blk_drewN ?_ _|refine blk_drew ?_|refine blk_alloc ?_ _));refine blk_far ?_ i.out _;(with_reducible repeat(first|refine blk_drewN ?_ _|refine blk_drew ?_|refine blk_alloc ?_ _));refine blk_far ?_ i.out _;(with_reducible repeat(first|refine blk_drewN ?_ _|refine blk_drew ?_|refine blk_alloc ?_ _));refine blk_far ?_ i.out _;(with_reducible repeat(first|refine blk_drewN ?_ _|refine blk_drew ?_|refine blk_alloc ?_ _));refine blk_far ?_ i.out _;(with_reducible repeat(first|refine blk_drewN ?_ _|refine blk_drew ?_|refine blk_alloc ?_ _));refine blk_far ?_ i.out _;(with_reducible repeat(first|refine blk_drewN ?_ _|refine blk_drew ?_|refine blk_alloc ?_ _));refine blk_far ?_ i.out _;(with_reducible repeat(first|refine blk_drewN ?_ _|refine blk_drew ?_|refine blk_alloc ?_ _));refine blk_far ?_ i.out _;(with_reducible repeat(first|refine blk_drewN ?_ _|refine blk_drew ?_|refine blk_alloc ?_ _));refine blk_far ?_ i.out _;(with_reducible repeat(first|refine blk_drewN ?_ _|refine blk_drew ?_|refine blk_alloc ?_ _));refine blk_far ?_ i.out _;(with_reducible repeat(first|refine blk_drewN ?_ _|refine blk_drew ?_|refine blk_alloc ?_ _));refine blk_far ?_ i.out _;exact sT d.out⟩,⟨sb⟩⟩)
 replace ab:=zB ab
 subst ab
 rewrite[if_neg zQ]at H
 by_cases ac:v.length<17592186044416
 ·(
 rw[if_pos ac]at H
 have ba:=zM ac
 clear ac
 obtain⟨y425,hy425⟩:∃y_:List Int,y_=(v++[(rd_T64 l0_1 a).f0]):=⟨_,rfl⟩
 replace H:(impl_Garbage.l0 k1 y425 l l0_1 (l0_1.length:Int) (wrap64 (a+1)))=some r:=by first|(rw[hy425];with_reducible exact H)|(have u:=(Option.bind_some _ _).symm.trans H;rw[hy425];with_reducible exact u)|(have u:=(Option.bind_some _ _).symm.trans H;with_reducible exact u)|with_reducible exact H|(rw[hy425];exact H)|exact H
 have bb:=zM hy425
 clear hy425
 have H':=zM H
 clear H
 have x:0≤(a:Int):=zzA
 have y:a<(l0_1.length:Int):=zzA
 obtain⟨ar,au,av,aw,ax,aj,F,G,I,J,K,L,M,O,P,Q,S,T,U,V⟩:=at_T64 A.out a x y
 cases aj
 replace F:=sX HB F
 replace G:=sX HB G
 replace I:=sX HB I
 replace J:=sX HB J
 replace K:=sX HB K
 replace L:=sX HB L
 replace M:=sX HB M
 replace O:=sX HB O
 replace P:=sX HB P
 replace Q:=sX HB Q
 have a3:=zM T
 have a4:=zM S
 clear T S
 have a5:=zM V
 have a6:=zM U
 clear V U
 replace x:=eq_true x
 replace y:=eq_true y
 go_wp2_with (first|((with_reducible refine gate_dst (N:=8) rfl ?_);refine sV (N:=8) (cs:= #[.int .i64 0,.int .i64 0,.string (⟨#[]⟩:ByteArray),.int .i64 0,.slice none 0 0,.slice none 0 0,.int .i64 0,.int .i64 0,.string (⟨#[]⟩:ByteArray),.int .i64 0]) (t:=64) ?_;intro s hg bG hbox hb;replace q:=zM (Kd.R_below (sE q.out) hb);replace j:=zM (Kd.R_below (sE j.out) hb);have m:=zM (hbox);have a7:=sG HB hg;have ak:=sG HB hg;replace HB:=sB HB hb;have i:=sN d hg;have al:=sM d hg;replace d:=sK d hb;clear hb hbox hg;have bH:=al.out;have bI:=i.out;obtain⟨bJ,bK,bL,bM,bN,bO,bP,bQ,bR,bS,bT,bU,bV,bW,bX,bY,bZ,b0,b1,b2⟩:=cells10 m.out;obtain⟨az,am,bc⟩:=Kd.R_slice j.out;subst bc)|((with_reducible refine gate_callee (f:=45) rfl ?_);refine sC (some 27) Try.func45 #[.slice az l.length am,.int .i64 ((rd_T64 l0_1 a).f0)] (slices_Contains_int64_int64.calls k1 _ _ l ((rd_T64 l0_1 a).f0) false _ ?side1 ?side2 aq.out) ?_;(case side1=>refine(Kd.R_reads' (e:=2) (base:=w.heap.size) (ok:=fun p=>some p≠(u5:Value).ownBlock) (n:=l.length) (c:=am) ?_).2.2;exact(by(with_reducible repeat(first|apply Kd.R_alloc|apply Kd.R_drewN|apply Kd.R_drew));exact(Kd.R_mono (sRF10 (g:=s) (Kd.R_types j.out m.out (by decide)) (fun _ hk=>hk.2)) (fun _ W=>W.1))));(case side2=>exact(Kd.R_reads' j.out).2.1);rintro e w' ⟨rfl,⟨nd,rfl⟩⟩;refine⟨_,rfl,?_⟩)|((with_reducible refine gate_builtin (b:= .append) (xs:= #[.tmp 29,.tmp 32]) rfl ?_);at_builtin;refine Kd.R_append (Kd.int .i64) (w0:=w) w.heap.size rfl (.tmp 29) (.tmp 32) 28 2 (.int .i64 0) 8 rfl Try.underlying28 info2 rfl (by decide) (by omega) u5 v ((rd_T64 l0_1 a).f0) [.int .i64 ((rd_T64 l0_1 a).f0)] (fun p=>some p≠(.slice az l.length am:Value).ownBlock) (fun _=>False) rfl (by first|(go_simp;done)|(go_simp;rfl)) ?aP (fun _ hk=>hk.elim) ?aF ?aO ?aB ?aS ?aL ?_;(case aP=>exact rfl);(case aB=>exact zzR);(case aF=>exact(fun p hk=>Kd.fresh' (Kd.R_lt (by(with_reducible repeat(first|apply Kd.R_alloc|apply Kd.R_drewN|apply Kd.R_drew));exact(Kd.R_mono (sRF10 (g:=s) (Kd.R_types j.out m.out (by decide)) (fun _ hk=>hk.2)) (fun _ W=>W.1)))) p hk));(case aO=>exact(by(with_reducible repeat(first|apply Kd.R_alloc|apply Kd.R_drewN|apply Kd.R_drew));exact Kd.R_mono (sRF10 (g:=s) (Kd.R_types q.out m.out (by decide)) (fun _ hk=>hk.2)) (fun _ hk=>hk.1)));(case aS=>exact(below_size zzR));(case aL=>have:=ba.out;omega);intro b3 b4 ho hb hg hat;rw[←bb.out]at ho;have aA:=zM (Kd.R_after (ok:=(fun _=>True)) (by(with_reducible repeat(first|apply Kd.R_alloc|apply Kd.R_drewN|apply Kd.R_drew));exact Kd.R_mono (sRF10 (g:=s) (Kd.R_types j.out m.out (by decide)) (fun _ hk=>hk.2)) (fun _ hk=>⟨trivial,hk.1⟩)) hg hat);have aC:=zM (blk_grown (g:=ah) (o:= .cells #[.int .i64 a0_0,.slice (some ar) l0_1.length c0_1] 32 (0,0)) (by(with_reducible repeat(first|refine blk_drewN ?_ _|refine blk_drew ?_|refine blk_alloc ?_ _));refine blk_far ?_ i.out _;(with_reducible repeat(first|refine blk_drewN ?_ _|refine blk_drew ?_|refine blk_alloc ?_ _));refine blk_far ?_ i.out _;(with_reducible repeat(first|refine blk_drewN ?_ _|refine blk_drew ?_|refine blk_alloc ?_ _));refine blk_far ?_ i.out _;(with_reducible repeat(first|refine blk_drewN ?_ _|refine blk_drew ?_|refine blk_alloc ?_ _));refine blk_far ?_ i.out _;(with_reducible repeat(first|refine blk_drewN ?_ _|refine blk_drew ?_|refine blk_alloc ?_ _));refine blk_far ?_ i.out _;(with_reducible repeat(first|refine blk_drewN ?_ _|refine blk_drew ?_|refine blk_alloc ?_ _));refine blk_far ?_ i.out _;(with_reducible repeat(first|refine blk_drewN ?_ _|refine blk_drew ?_|refine blk_alloc ?_ _));refine blk_far ?_ i.out _;(with_reducible repeat(first|refine blk_drewN ?_ _|refine blk_drew ?_|refine blk_alloc ?_ _));refine blk_far ?_ i.out _;(with_reducible repeat(first|refine blk_drewN ?_ _|refine blk_drew ?_|refine blk_alloc ?_ _));refine blk_far ?_ i.out _;(with_reducible repeat(first|refine blk_drewN ?_ _|refine blk_drew ?_|refine blk_alloc ?_ _));refine blk_far ?_ i.out _;exact sT d.out) hg (Kd.R_ne q.out d.out (by decide)));have aD:=zM (blk_grown (g:=s) (o:= .cells #[.int .i64 ((rd_T64 l0_1 a).f0),.int .i64 ((rd_T64 l0_1 a).f1),.string ((rd_T64 l0_1 a).f2),.int .i64 ((rd_T64 l0_1 a).f3),.slice au ((rd_T64 l0_1 a).f4).length av,.slice aw ((rd_T64 l0_1 a).f5).length ax,.int .i64 ((rd_T64 l0_1 a).f6.f0),.int .i64 ((rd_T64 l0_1 a).f6.f1),.string ((rd_T64 l0_1 a).f6.f2),.int .i64 ((rd_T64 l0_1 a).f6.f3)] 64 (0,0)) (by(try with_reducible refine blk_drewN ?_ _);exact sP10 (sT m.out)) hg (Kd.R_ne q.out m.out (by decide)));have aE:=zM (hb);have aG:=zM (ho);clear j;clear d;clear m;clear HB;clear q;have j:=aA;have d:=aC;have m:=aD;have HB:=aE;have bd:=aG;clear aA aC aD aE aG;clear ho hb hg hat))
 go_roundg k1
 case measure=>have:=Y.out;omega
 case rel=>exact⟨(y425),(wrap64 (a+1)),sr,H',⟨by have:=Y.out;omega⟩,⟨by exact sE bd.out⟩,⟨by(with_reducible repeat(first|apply Kd.R_alloc|apply Kd.R_drewN|apply Kd.R_drew));exact Kd.R_mono j.out (fun _ hk=>hk.2)⟩,⟨by exact sT d.out⟩,⟨sb⟩⟩)
 rw[if_neg ac]at H
 exact absurd H (by simp))
 rw[if_neg aa]at H
 exact absurd H (by simp))
 rw[if_neg Z]at H
 exact absurd H (by simp))
 rw[if_neg z]at H
 have c14b0:=zF z
 clear z
 obtain rfl:=zI H
 go_wp2
 go_ret
 exact⟨_,sq,by(with_reducible repeat(first|apply Kd.R_alloc|apply Kd.R_drewN|apply Kd.R_drew));exact Kd.R_mono q.out (fun _ hk=>trivial),sb⟩)))
 replace B:=zB B
 subst B
 rewrite[if_neg zQ]at H
 obtain rfl:=zI H
 go_enter Try.func13,Try.ntmps13
 go_wp2_with (first|((with_reducible refine gate_dst (N:=2) rfl ?_);refine sV (N:=2) (cs:= #[.int .i64 a0_0,.slice A0_1 l0_1.length c0_1]) (t:=32) ?_;intro ah hg b5 hbox hb;have d:=zM (hbox);have aH:=sG HB hg;have D:=sG HB hg;replace HB:=sB HB hb;clear hb hbox hg;obtain⟨b6,b7,b8,b9⟩:=cells2 d.out)|((with_reducible refine gate_callee (f:=43) rfl ?_);refine sC (some 11) Try.func43 #[.agg #[.int .i64 a0_0,.slice A0_1 l0_1.length c0_1],.slice A1 l1.length c1] (impl_ValidRoots.calls k a0_0 _ _ l0_1 _ _ l1 false _ ?side1 ?side2 ?side3 ?side4 A3.out) ?_;(case side1=>exact sD (zC A.out HB.out));(case side2=>exact ad.out);(case side3=>exact sD (zC ae.out HB.out));(case side4=>exact af.out);rintro e ca ⟨rfl,hb⟩;refine⟨_,rfl,?_⟩;replace d:=sK d hb;replace HB:=sB HB hb;(try clear hb)))
 go_ret
 exact⟨_,sq,by first|exact Kd.R_nil _ _ _ _ _|exact Kd.N_nil _ _ _ _ _|exact Kd.V_nil _ _ _ _ _|exact Kd.Q_nil _ _ _ _ _|exact Kd.S_nil _ _ _ _ _,sb⟩
end Go.Proofs.Ytpdljgieaaicpaa.PFnExactGarbage
