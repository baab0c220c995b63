/- Printed functions: impl_PatternCode_hasGoodEntries. -/
import Derived.Test.YtcppdkdnpmgpmaaYEoP0
import Derived.Test.YtcppdkdnpmgpmaaYEoP13
import Derived.Test.YtcppdkdnpmgpmaaYEoP15
namespace Go.Proofs.Ytcppdkdnpmgpmaa.PFnExactEntryOf
open Go.RowKit Go.Proofs.YtcppdkdnpmgpmaaG Go.Proofs.YtcppdkdnpmgpmaaW.PrintWords Go.Proofs.YtcppdkdnpmgpmaaW.PrintLast Go.Proofs.YtcppdkdnpmgpmaaW.PrintMore
attribute [local go_sem] max2_int min2_int max_two min_two max_three min_three max_four min_four
set_option linter.unusedVariables false
set_option linter.unusedSimpArgs false
def impl_PatternCode_hasGoodEntries.l0 : Nat → Int → List (S51) → Int → Int → List (S55) → List (S51) → Option (Bool)
 |0,_,_,_,_,_,_=>none
 |k+1,x3,x8,x9,x10,x281000,x281001=>if x10<x9 then(if 0≤x10 then(if x10<(x8.length:Int)then(if x10≤(x281001.length:Int)then((impl_PatternEntry__impl_PatternCode_hasGoodEntries_1_49.f k (x281001.take (x10:Int).toNat) [(⟨(rd_T51 x8 x10).f0,(rd_T51 x8 x10).f1⟩:S51)]).bind fun t287=>(if t287=true then(some false)else((impl_IsName.f k ((rd_T51 x8 x10).f0)).bind fun t288=>(if t288=true then(if((rd_T51 x8 x10).f1)≤x3 then(some false)else((impl_isIndex.f ((rd_T51 x8 x10).f1) (x281000.length:Int)).bind fun t289=>(if t289=true then(impl_PatternCode_hasGoodEntries.l0 k ((rd_T51 x8 x10).f1) x8 x9 (wrap64 (x10+1)) x281000 x281001)else(some false))))else(some false)))))else(none))else(none))else(none))else(some (decide ((x281001.length:Int)≤40)))
def impl_PatternCode_hasGoodEntries.f (k:Nat) (l0_0:List (S55)) (l0_1:List (S51)):Option (Bool):=impl_PatternCode_hasGoodEntries.l0 k 0 l0_1 (l0_1.length:Int) 0 l0_0 l0_1
set_option maxHeartbeats 8000000 in
set_option maxRecDepth 100000 in
theorem impl_PatternCode_hasGoodEntries.calls (k:Nat) (A0_0:Option Addr) (c0_0:Nat) (l0_0:List (S55)) (A0_1:Option Addr) (c0_1:Nat) (l0_1:List (S51)) (r:Bool) (w:World) (hr0_0:Kd.C k55 w A0_0 l0_0.length l0_0) (hc0_0:l0_0.length≤c0_0) (hr0_1:Kd.C k51 w A0_1 l0_1.length l0_1) (hc0_1:l0_1.length≤c0_1) (h:impl_PatternCode_hasGoodEntries.f k l0_0 l0_1=some r):
  Calls Try.prog 35 #[.agg #[.slice A0_0 l0_0.length c0_0,.slice A0_1 l0_1.length c0_1]] w fun e w'=>e= .returned (.bool r)∧Below w.heap.size w w':=by
 have a8:=Try.underlying32
 have a9:=Try.underlying51
 have ba:=zM hr0_0
 have bb:=zM hc0_0
 clear hr0_0 hc0_0
 have x:=zM hr0_1
 have J:=zM hc0_1
 clear hr0_1 hc0_1
 have HB:=zM (Below.refl w.heap.size w)
 have H:(impl_PatternCode_hasGoodEntries.l0 k 0 l0_1 (l0_1.length:Int) 0 l0_0 l0_1)=some r:=h
 clear h
 have H':=zM H
 clear H
 go_enter Try.func35,Try.ntmps35
 go_wp2_with (first|((with_reducible refine gate_dst (N:=1) rfl ?_);(try(refine gate_guard (by rfl) ?_;dsimp only));refine sV (N:=1) (cs:= #[.slice A0_0 l0_0.length c0_0,.slice A0_1 l0_1.length c0_1]) (t:=32) ?_;intro F hg w2 hbox hb;have b:=zM (hbox);have bc:=sG HB hg;have K:=sG HB hg;replace HB:=sB HB hb;clear hb hbox hg;obtain⟨aO,aP,aQ,aR⟩:=cells2 b.out))
 go_loopg [3,10] k (fun kq v3 aS w'=>∃(L:Int) (a:Int),v3= .int .i64 L∧aS= .int .i64 a∧Aside0 (impl_PatternCode_hasGoodEntries.l0 kq L l0_1 (l0_1.length:Int) a l0_0 l0_1=some r)∧Aside0 (kq≤k)∧Aside0 (w'.heap[F]?=some (.cells #[(.slice A0_0 l0_0.length c0_0),(.slice A0_1 l0_1.length c0_1)] 32 (0,0)))∧Aside0 (Below w.heap.size w w'))
 case atStart=>exact⟨(0),(0),sr,sr,H',⟨Nat.le_refl _⟩,⟨by exact sT b.out⟩,⟨sb⟩⟩
 case round=>(
 clear H'
 try clear aO
 try clear aP
 try clear aQ
 try clear aR
 obtain⟨L,a,rfl,rfl,HA,ax,b,HB⟩:=hrel
 cases gk with
 |zero=>exact absurd HA.out (by simp[impl_PatternCode_hasGoodEntries.l0])
 |succ k1=>(
 have H:=HA.out
 clear HA
 simp only[impl_PatternCode_hasGoodEntries.l0]at H
 by_cases G:a<(l0_1.length:Int)
 ·(
 rw[if_pos G]at H
 have c4b0:=zT G
 clear G
 by_cases Q:0≤a
 ·(
 rw[if_pos Q]at H
 have c5b0:=zT Q
 clear Q
 by_cases R:a<(l0_1.length:Int)
 ·(
 rw[if_pos R]at H
 have c6b0:=zT R
 clear R
 have c7b0:=eq_true (zzA:0≤a)
 by_cases M:a≤(l0_1.length:Int)
 ·(
 rw[if_pos M]at H
 have c8b0:=eq_true M
 have c8b1:=zT M
 clear M
 obtain⟨y283,hy283⟩:∃y_:List (S51),y_=(l0_1.take (a:Int).toNat):=⟨_,rfl⟩
 replace H:((impl_PatternEntry__impl_PatternCode_hasGoodEntries_1_49.f k1 y283 [(⟨(rd_T51 l0_1 a).f0,(rd_T51 l0_1 a).f1⟩:S51)]).bind fun X=>(if X=true then(some false)else((impl_IsName.f k1 ((rd_T51 l0_1 a).f0)).bind fun Y=>(if Y=true then(if((rd_T51 l0_1 a).f1)≤L then(some false)else((impl_isIndex.f ((rd_T51 l0_1 a).f1) (l0_0.length:Int)).bind fun Z=>(if Z=true then(impl_PatternCode_hasGoodEntries.l0 k1 ((rd_T51 l0_1 a).f1) l0_1 (l0_1.length:Int) (wrap64 (a+1)) l0_0 l0_1)else(some false))))else(some false)))))=some r:=by first|(rw[hy283];with_reducible exact H)|(have aa:=(Option.bind_some _ _).symm.trans H;rw[hy283];with_reducible exact aa)|(have aa:=(Option.bind_some _ _).symm.trans H;with_reducible exact aa)|with_reducible exact H|(rw[hy283];exact H)|exact H
 have y:=zM hy283
 clear hy283
 obtain⟨X,O,H⟩:=sO H
 by_cases S:X=true
 ·(
 subst S
 rewrite[if_pos rfl]at H
 obtain rfl:=zI H
 have i:0≤(a:Int):=zzA
 have j:a<(l0_1.length:Int):=zzA
 obtain⟨d,z,n,o⟩:=at_T51 x.out a i j
 cases z
 replace n:=sX HB n
 replace o:=sX HB o
 replace i:=eq_true i
 replace j:=eq_true j
 go_wp2_with (first|((with_reducible refine gate_dst (N:=5) rfl ?_);(try(refine gate_guard (by rfl) ?_;dsimp only));refine sV (N:=5) (cs:= #[.string (⟨#[]⟩:ByteArray),.int .i64 0]) (t:=51) ?_;intro g hg aT hbox hb;have c:=zM (hbox);have T:=sG HB hg;have A:=sG HB hg;replace HB:=sB HB hb;have l:=sN b hg;have B:=sM b hg;replace b:=sK b hb;clear hb hbox hg;have bd:=B.out;have be:=l.out;obtain⟨bf,bg,bh,bi⟩:=cells2 c.out)|((with_reducible refine gate_store (t:=51) (p:=5) rfl ?_);refine store_event (t:=51) (p:=5) (v:=?vo_w14) (w1:=((aT.setCell ⟨g,0,none⟩ (.string ((rd_T51 l0_1 a).f0))).setCell ⟨g,1,none⟩ (.int .i64 ((rd_T51 l0_1 a).f1)))) ?hg ?ho ?hn ?hr ?_;(case ho=>rfl);(case hg=>rfl);(case hn=>rfl);(case hr=>first|(go_simp;done)|(go_simp;rfl));intro ab hw;have q:Aside0 (ab.heap[F]?=some (.cells #[.slice A0_0 l0_0.length c0_0,.slice (some d) l0_1.length c0_1] 32 (0,0))):=⟨(by rw[hw];exact(by(with_reducible repeat(first|refine blk_drewN ?_ _|refine blk_drew ?_|refine blk_alloc ?_ _));refine blk_far ?_ l.out _;(with_reducible repeat(first|refine blk_drewN ?_ _|refine blk_drew ?_|refine blk_alloc ?_ _));refine blk_far ?_ l.out _;exact sT b.out))⟩;have s:Aside0 (ab.heap[g]?=some (.cells #[.string ((rd_T51 l0_1 a).f0),.int .i64 ((rd_T51 l0_1 a).f1)] 51 (0,0))):=⟨(by rw[hw];exact(by exact sP2 (sT c.out)))⟩;have u:Aside0 (Below w.heap.size w ab):=⟨(by rw[hw];exact zzR)⟩;clear hw;clear b;clear c;clear HB;have b:=q;have c:=s;have HB:=u;clear q s u;obtain⟨bj,bk,bl,bm⟩:=cells2 b.out;have ac:(a:Int)≤((l0_1.length:Int):Int):=zzA;obtain⟨bn,ay,_,aU,_⟩:=info_parts info51;have az:l0_1.length≤c0_1:=J.out;have aA:Kd.C k51 _ (some d) l0_1.length l0_1:=x.out;have aV:=cut_to (P:=Try.prog) 30 51 .i64 Try.underlying30 ay (some d) l0_1.length c0_1 a (zzA) ac az;have ad:=Kd.C_take (m:=(a:Int).toNat) aA (by omega);have ae:y283.length=(a:Int).toNat:=(by rw[y.out,List.length_take];omega);rw[←y.out]at ad;rw[←ae]at aV;have D:=zM ad;have E:=zM (show y283.length≤c0_1 from by omega);clear ad aA az ay aU;have bo:=zM ae;clear ae;replace ac:=eq_true ac)|((with_reducible refine gate_callee (f:=49) rfl ?_);refine sC (some 20) Try.func49 #[.slice (some d) y283.length c0_1,.func (.func 50) #[] #[.pointer (some ⟨g,0,none⟩)]] (impl_PatternEntry__impl_PatternCode_hasGoodEntries_1_49.calls k1 _ _ y283 _ [(⟨(rd_T51 l0_1 a).f0,(rd_T51 l0_1 a).f1⟩:S51)] true _ ?side1 ?side2 ?side3 O.out) ?_;(case side1=>exact sD (zC D.out HB.out));(case side2=>exact E.out);(case side3=>exact C_box (t:=51) (sT c.out) (k51_mk _ (⟨(rd_T51 l0_1 a).f0,(rd_T51 l0_1 a).f1⟩:S51)));rintro e bp ⟨rfl,hb⟩;refine⟨_,rfl,?_⟩;replace b:=sK b hb;replace c:=sK c hb;replace HB:=sB HB hb;(try clear hb)))
 go_ret
 exact⟨sq,sb⟩)
 replace S:=zB S
 subst S
 rewrite[if_neg zQ]at H
 obtain⟨Y,U,H⟩:=sO H
 by_cases V:Y=true
 ·(
 subst V
 rewrite[if_pos rfl]at H
 by_cases I:((rd_T51 l0_1 a).f1)≤L
 ·(
 rw[if_pos I]at H
 have c20b0:=zT I
 clear I
 obtain rfl:=zI H
 have i:0≤(a:Int):=zzA
 have j:a<(l0_1.length:Int):=zzA
 obtain⟨d,z,n,o⟩:=at_T51 x.out a i j
 cases z
 replace n:=sX HB n
 replace o:=sX HB o
 replace i:=eq_true i
 replace j:=eq_true j
 go_wp2_with (first|((with_reducible refine gate_dst (N:=5) rfl ?_);(try(refine gate_guard (by rfl) ?_;dsimp only));refine sV (N:=5) (cs:= #[.string (⟨#[]⟩:ByteArray),.int .i64 0]) (t:=51) ?_;intro g hg aW hbox hb;have c:=zM (hbox);have T:=sG HB hg;have A:=sG HB hg;replace HB:=sB HB hb;have l:=sN b hg;have B:=sM b hg;replace b:=sK b hb;clear hb hbox hg;have bq:=B.out;have br:=l.out;obtain⟨bs,bt,bu,bv⟩:=cells2 c.out)|((with_reducible refine gate_store (t:=51) (p:=5) rfl ?_);refine store_event (t:=51) (p:=5) (v:=?vo_w24) (w1:=((aW.setCell ⟨g,0,none⟩ (.string ((rd_T51 l0_1 a).f0))).setCell ⟨g,1,none⟩ (.int .i64 ((rd_T51 l0_1 a).f1)))) ?hg ?ho ?hn ?hr ?_;(case ho=>rfl);(case hg=>rfl);(case hn=>rfl);(case hr=>first|(go_simp;done)|(go_simp;rfl));intro af hw;have q:Aside0 (af.heap[F]?=some (.cells #[.slice A0_0 l0_0.length c0_0,.slice (some d) l0_1.length c0_1] 32 (0,0))):=⟨(by rw[hw];exact(by(with_reducible repeat(first|refine blk_drewN ?_ _|refine blk_drew ?_|refine blk_alloc ?_ _));refine blk_far ?_ l.out _;(with_reducible repeat(first|refine blk_drewN ?_ _|refine blk_drew ?_|refine blk_alloc ?_ _));refine blk_far ?_ l.out _;exact sT b.out))⟩;have s:Aside0 (af.heap[g]?=some (.cells #[.string ((rd_T51 l0_1 a).f0),.int .i64 ((rd_T51 l0_1 a).f1)] 51 (0,0))):=⟨(by rw[hw];exact(by exact sP2 (sT c.out)))⟩;have u:Aside0 (Below w.heap.size w af):=⟨(by rw[hw];exact zzR)⟩;clear hw;clear b;clear c;clear HB;have b:=q;have c:=s;have HB:=u;clear q s u;obtain⟨bw,bx,bz,bA⟩:=cells2 b.out;have ag:(a:Int)≤((l0_1.length:Int):Int):=zzA;obtain⟨bB,aB,_,aX,_⟩:=info_parts info51;have aC:l0_1.length≤c0_1:=J.out;have aD:Kd.C k51 _ (some d) l0_1.length l0_1:=x.out;have aY:=cut_to (P:=Try.prog) 30 51 .i64 Try.underlying30 aB (some d) l0_1.length c0_1 a (zzA) ag aC;have ah:=Kd.C_take (m:=(a:Int).toNat) aD (by omega);have ai:y283.length=(a:Int).toNat:=(by rw[y.out,List.length_take];omega);rw[←y.out]at ah;rw[←ai]at aY;have D:=zM ah;have E:=zM (show y283.length≤c0_1 from by omega);clear ah aD aC aB aX;have bC:=zM ai;clear ai;replace ag:=eq_true ag)|((with_reducible refine gate_callee (f:=49) rfl ?_);refine sC (some 20) Try.func49 #[.slice (some d) y283.length c0_1,.func (.func 50) #[] #[.pointer (some ⟨g,0,none⟩)]] (impl_PatternEntry__impl_PatternCode_hasGoodEntries_1_49.calls k1 _ _ y283 _ [(⟨(rd_T51 l0_1 a).f0,(rd_T51 l0_1 a).f1⟩:S51)] false _ ?side1 ?side2 ?side3 O.out) ?_;(case side1=>exact sD (zC D.out HB.out));(case side2=>exact E.out);(case side3=>exact C_box (t:=51) (sT c.out) (k51_mk _ (⟨(rd_T51 l0_1 a).f0,(rd_T51 l0_1 a).f1⟩:S51)));rintro e bD ⟨rfl,hb⟩;refine⟨_,rfl,?_⟩;replace b:=sK b hb;replace c:=sK c hb;replace HB:=sB HB hb;(try clear hb);obtain⟨bE,bF,bG,bH⟩:=cells2 c.out)|(go_at_call 47;(with_reducible refine(impl_IsName.calls k1 ((rd_T51 l0_1 a).f0) true _ U.out).mono ?_);rintro e bI ⟨rfl,hb⟩;replace b:=sK b hb;replace c:=sK c hb;replace HB:=sB HB hb;(try clear hb);obtain⟨bJ,bK,bL,bM⟩:=cells2 c.out))
 go_ret
 exact⟨sq,sb⟩)
 rw[if_neg I]at H
 have c20b0:=zF I
 clear I
 obtain⟨Z,aE,H⟩:=sO H
 by_cases W:Z=true
 ·(
 subst W
 rewrite[if_pos rfl]at H
 have H':=zM H
 clear H
 have i:0≤(a:Int):=zzA
 have j:a<(l0_1.length:Int):=zzA
 obtain⟨d,z,n,o⟩:=at_T51 x.out a i j
 cases z
 replace n:=sX HB n
 replace o:=sX HB o
 replace i:=eq_true i
 replace j:=eq_true j
 go_wp2_with (first|((with_reducible refine gate_dst (N:=5) rfl ?_);(try(refine gate_guard (by rfl) ?_;dsimp only));refine sV (N:=5) (cs:= #[.string (⟨#[]⟩:ByteArray),.int .i64 0]) (t:=51) ?_;intro g hg aZ hbox hb;have c:=zM (hbox);have T:=sG HB hg;have A:=sG HB hg;replace HB:=sB HB hb;have l:=sN b hg;have B:=sM b hg;replace b:=sK b hb;clear hb hbox hg;have bN:=B.out;have bO:=l.out;obtain⟨bP,bQ,bR,bS⟩:=cells2 c.out)|((with_reducible refine gate_store (t:=51) (p:=5) rfl ?_);refine store_event (t:=51) (p:=5) (v:=?vo_w36) (w1:=((aZ.setCell ⟨g,0,none⟩ (.string ((rd_T51 l0_1 a).f0))).setCell ⟨g,1,none⟩ (.int .i64 ((rd_T51 l0_1 a).f1)))) ?hg ?ho ?hn ?hr ?_;(case ho=>rfl);(case hg=>rfl);(case hn=>rfl);(case hr=>first|(go_simp;done)|(go_simp;rfl));intro aj hw;have q:Aside0 (aj.heap[F]?=some (.cells #[.slice A0_0 l0_0.length c0_0,.slice (some d) l0_1.length c0_1] 32 (0,0))):=⟨(by rw[hw];exact(by(with_reducible repeat(first|refine blk_drewN ?_ _|refine blk_drew ?_|refine blk_alloc ?_ _));refine blk_far ?_ l.out _;(with_reducible repeat(first|refine blk_drewN ?_ _|refine blk_drew ?_|refine blk_alloc ?_ _));refine blk_far ?_ l.out _;exact sT b.out))⟩;have s:Aside0 (aj.heap[g]?=some (.cells #[.string ((rd_T51 l0_1 a).f0),.int .i64 ((rd_T51 l0_1 a).f1)] 51 (0,0))):=⟨(by rw[hw];exact(by exact sP2 (sT c.out)))⟩;have u:Aside0 (Below w.heap.size w aj):=⟨(by rw[hw];exact zzR)⟩;clear hw;clear b;clear c;clear HB;have b:=q;have c:=s;have HB:=u;clear q s u;obtain⟨bT,bU,bV,bW⟩:=cells2 b.out;have ak:(a:Int)≤((l0_1.length:Int):Int):=zzA;obtain⟨bX,aF,_,a0,_⟩:=info_parts info51;have aG:l0_1.length≤c0_1:=J.out;have aH:Kd.C k51 _ (some d) l0_1.length l0_1:=x.out;have a1:=cut_to (P:=Try.prog) 30 51 .i64 Try.underlying30 aF (some d) l0_1.length c0_1 a (zzA) ak aG;have al:=Kd.C_take (m:=(a:Int).toNat) aH (by omega);have am:y283.length=(a:Int).toNat:=(by rw[y.out,List.length_take];omega);rw[←y.out]at al;rw[←am]at a1;have D:=zM al;have E:=zM (show y283.length≤c0_1 from by omega);clear al aH aG aF a0;have bY:=zM am;clear am;replace ak:=eq_true ak)|((with_reducible refine gate_callee (f:=49) rfl ?_);refine sC (some 20) Try.func49 #[.slice (some d) y283.length c0_1,.func (.func 50) #[] #[.pointer (some ⟨g,0,none⟩)]] (impl_PatternEntry__impl_PatternCode_hasGoodEntries_1_49.calls k1 _ _ y283 _ [(⟨(rd_T51 l0_1 a).f0,(rd_T51 l0_1 a).f1⟩:S51)] false _ ?side1 ?side2 ?side3 O.out) ?_;(case side1=>exact sD (zC D.out HB.out));(case side2=>exact E.out);(case side3=>exact C_box (t:=51) (sT c.out) (k51_mk _ (⟨(rd_T51 l0_1 a).f0,(rd_T51 l0_1 a).f1⟩:S51)));rintro e bZ ⟨rfl,hb⟩;refine⟨_,rfl,?_⟩;replace b:=sK b hb;replace c:=sK c hb;replace HB:=sB HB hb;(try clear hb);obtain⟨b0,b1,b2,b3⟩:=cells2 c.out)|(go_at_call 47;(with_reducible refine(impl_IsName.calls k1 ((rd_T51 l0_1 a).f0) true _ U.out).mono ?_);rintro e b4 ⟨rfl,hb⟩;replace b:=sK b hb;replace c:=sK c hb;replace HB:=sB HB hb;(try clear hb);obtain⟨b5,b6,b7,b8⟩:=cells2 c.out;obtain⟨b9,ca,cb,cc⟩:=cells2 b.out)|(go_at_call 45;(with_reducible refine(impl_isIndex.calls ((rd_T51 l0_1 a).f1) (l0_0.length:Int) true _ aE.out).mono ?_);rintro e w' ⟨rfl,⟨nd,rfl⟩⟩))
 go_roundg k1
 case measure=>have:=ax.out;omega
 case rel=>exact⟨((rd_T51 l0_1 a).f1),(wrap64 (a+1)),sr,sr,H',⟨by have:=ax.out;omega⟩,⟨by exact sT b.out⟩,⟨sb⟩⟩)
 replace W:=zB W
 subst W
 rewrite[if_neg zQ]at H
 obtain rfl:=zI H
 have i:0≤(a:Int):=zzA
 have j:a<(l0_1.length:Int):=zzA
 obtain⟨d,z,n,o⟩:=at_T51 x.out a i j
 cases z
 replace n:=sX HB n
 replace o:=sX HB o
 replace i:=eq_true i
 replace j:=eq_true j
 go_wp2_with (first|((with_reducible refine gate_dst (N:=5) rfl ?_);(try(refine gate_guard (by rfl) ?_;dsimp only));refine sV (N:=5) (cs:= #[.string (⟨#[]⟩:ByteArray),.int .i64 0]) (t:=51) ?_;intro g hg a2 hbox hb;have c:=zM (hbox);have T:=sG HB hg;have A:=sG HB hg;replace HB:=sB HB hb;have l:=sN b hg;have B:=sM b hg;replace b:=sK b hb;clear hb hbox hg;have cd:=B.out;have ce:=l.out;obtain⟨cf,cg,ch,ci⟩:=cells2 c.out)|((with_reducible refine gate_store (t:=51) (p:=5) rfl ?_);refine store_event (t:=51) (p:=5) (v:=?vo_w47) (w1:=((a2.setCell ⟨g,0,none⟩ (.string ((rd_T51 l0_1 a).f0))).setCell ⟨g,1,none⟩ (.int .i64 ((rd_T51 l0_1 a).f1)))) ?hg ?ho ?hn ?hr ?_;(case ho=>rfl);(case hg=>rfl);(case hn=>rfl);(case hr=>first|(go_simp;done)|(go_simp;rfl));intro an hw;have q:Aside0 (an.heap[F]?=some (.cells #[.slice A0_0 l0_0.length c0_0,.slice (some d) l0_1.length c0_1] 32 (0,0))):=⟨(by rw[hw];exact(by(with_reducible repeat(first|refine blk_drewN ?_ _|refine blk_drew ?_|refine blk_alloc ?_ _));refine blk_far ?_ l.out _;(with_reducible repeat(first|refine blk_drewN ?_ _|refine blk_drew ?_|refine blk_alloc ?_ _));refine blk_far ?_ l.out _;exact sT b.out))⟩;have s:Aside0 (an.heap[g]?=some (.cells #[.string ((rd_T51 l0_1 a).f0),.int .i64 ((rd_T51 l0_1 a).f1)] 51 (0,0))):=⟨(by rw[hw];exact(by exact sP2 (sT c.out)))⟩;have u:Aside0 (Below w.heap.size w an):=⟨(by rw[hw];exact zzR)⟩;clear hw;clear b;clear c;clear HB;have b:=q;have c:=s;have HB:=u;clear q s u;obtain⟨cj,ck,cl,cm⟩:=cells2 b.out;have ao:(a:Int)≤((l0_1.length:Int):Int):=zzA;obtain⟨cn,aI,_,a3,_⟩:=info_parts info51;have aJ:l0_1.length≤c0_1:=J.out;have aK:Kd.C k51 _ (some d) l0_1.length l0_1:=x.out;have a4:=cut_to (P:=Try.prog) 30 51 .i64 Try.underlying30 aI (some d) l0_1.length c0_1 a (zzA) ao aJ;have ap:=Kd.C_take (m:=(a:Int).toNat) aK (by omega);have aq:y283.length=(a:Int).toNat:=(by rw[y.out,List.length_take];omega);rw[←y.out]at ap;rw[←aq]at a4;have D:=zM ap;have E:=zM (show y283.length≤c0_1 from by omega);clear ap aK aJ aI a3;have co:=zM aq;clear aq;replace ao:=eq_true ao)|((with_reducible refine gate_callee (f:=49) rfl ?_);refine sC (some 20) Try.func49 #[.slice (some d) y283.length c0_1,.func (.func 50) #[] #[.pointer (some ⟨g,0,none⟩)]] (impl_PatternEntry__impl_PatternCode_hasGoodEntries_1_49.calls k1 _ _ y283 _ [(⟨(rd_T51 l0_1 a).f0,(rd_T51 l0_1 a).f1⟩:S51)] false _ ?side1 ?side2 ?side3 O.out) ?_;(case side1=>exact sD (zC D.out HB.out));(case side2=>exact E.out);(case side3=>exact C_box (t:=51) (sT c.out) (k51_mk _ (⟨(rd_T51 l0_1 a).f0,(rd_T51 l0_1 a).f1⟩:S51)));rintro e cp ⟨rfl,hb⟩;refine⟨_,rfl,?_⟩;replace b:=sK b hb;replace c:=sK c hb;replace HB:=sB HB hb;(try clear hb);obtain⟨cq,cr,ct,cu⟩:=cells2 c.out)|(go_at_call 47;(with_reducible refine(impl_IsName.calls k1 ((rd_T51 l0_1 a).f0) true _ U.out).mono ?_);rintro e cv ⟨rfl,hb⟩;replace b:=sK b hb;replace c:=sK c hb;replace HB:=sB HB hb;(try clear hb);obtain⟨cw,cx,cy,cz⟩:=cells2 c.out;obtain⟨cA,cB,cC,cD⟩:=cells2 b.out)|(go_at_call 45;(with_reducible refine(impl_isIndex.calls ((rd_T51 l0_1 a).f1) (l0_0.length:Int) false _ aE.out).mono ?_);rintro e w' ⟨rfl,⟨nd,rfl⟩⟩))
 go_ret
 exact⟨sq,sb⟩)
 replace V:=zB V
 subst V
 rewrite[if_neg zQ]at H
 obtain rfl:=zI H
 have i:0≤(a:Int):=zzA
 have j:a<(l0_1.length:Int):=zzA
 obtain⟨d,z,n,o⟩:=at_T51 x.out a i j
 cases z
 replace n:=sX HB n
 replace o:=sX HB o
 replace i:=eq_true i
 replace j:=eq_true j
 go_wp2_with (first|((with_reducible refine gate_dst (N:=5) rfl ?_);(try(refine gate_guard (by rfl) ?_;dsimp only));refine sV (N:=5) (cs:= #[.string (⟨#[]⟩:ByteArray),.int .i64 0]) (t:=51) ?_;intro g hg a5 hbox hb;have c:=zM (hbox);have T:=sG HB hg;have A:=sG HB hg;replace HB:=sB HB hb;have l:=sN b hg;have B:=sM b hg;replace b:=sK b hb;clear hb hbox hg;have cE:=B.out;have cF:=l.out;obtain⟨cG,cH,cI,cJ⟩:=cells2 c.out)|((with_reducible refine gate_store (t:=51) (p:=5) rfl ?_);refine store_event (t:=51) (p:=5) (v:=?vo_w58) (w1:=((a5.setCell ⟨g,0,none⟩ (.string ((rd_T51 l0_1 a).f0))).setCell ⟨g,1,none⟩ (.int .i64 ((rd_T51 l0_1 a).f1)))) ?hg ?ho ?hn ?hr ?_;(case ho=>rfl);(case hg=>rfl);(case hn=>rfl);(case hr=>first|(go_simp;done)|(go_simp;rfl));intro ar hw;have q:Aside0 (ar.heap[F]?=some (.cells #[.slice A0_0 l0_0.length c0_0,.slice (some d) l0_1.length c0_1] 32 (0,0))):=⟨(by rw[hw];exact(by(with_reducible repeat(first|refine blk_drewN ?_ _|refine blk_drew ?_|refine blk_alloc ?_ _));refine blk_far ?_ l.out _;(with_reducible repeat(first|refine blk_drewN ?_ _|refine blk_drew ?_|refine blk_alloc ?_ _));refine blk_far ?_ l.out _;exact sT b.out))⟩;have s:Aside0 (ar.heap[g]?=some (.cells #[.string ((rd_T51 l0_1 a).f0),.int .i64 ((rd_T51 l0_1 a).f1)] 51 (0,0))):=⟨(by rw[hw];exact(by exact sP2 (sT c.out)))⟩;have u:Aside0 (Below w.heap.size w ar):=⟨(by rw[hw];exact zzR)⟩;clear hw;clear b;clear c;clear HB;have b:=q;have c:=s;have HB:=u;clear q s u;obtain⟨cK,cL,cM,cN⟩:=cells2 b.out;have au:(a:Int)≤((l0_1.length:Int):Int):=zzA;obtain⟨cO,aL,_,a6,_⟩:=info_parts info51;have aM:l0_1.length≤c0_1:=J.out;have aN:Kd.C k51 _ (some d) l0_1.length l0_1:=x.out;have a7:=cut_to (P:=Try.prog) 30 51 .i64 Try.underlying30 aL (some d) l0_1.length c0_1 a (zzA) au aM;have av:=Kd.C_take (m:=(a:Int).toNat) aN (by omega);have aw:y283.length=(a:Int).toNat:=(by rw[y.out,List.length_take];omega);rw[←y.out]at av;rw[←aw]at a7;have D:=zM av;have E:=zM (show y283.length≤c0_1 from by omega);clear av aN aM aL a6;have cP:=zM aw;clear aw;replace au:=eq_true au)|((with_reducible refine gate_callee (f:=49) rfl ?_);refine sC (some 20) Try.func49 #[.slice (some d) y283.length c0_1,.func (.func 50) #[] #[.pointer (some ⟨g,0,none⟩)]] (impl_PatternEntry__impl_PatternCode_hasGoodEntries_1_49.calls k1 _ _ y283 _ [(⟨(rd_T51 l0_1 a).f0,(rd_T51 l0_1 a).f1⟩:S51)] false _ ?side1 ?side2 ?side3 O.out) ?_;(case side1=>exact sD (zC D.out HB.out));(case side2=>exact E.out);(case side3=>exact C_box (t:=51) (sT c.out) (k51_mk _ (⟨(rd_T51 l0_1 a).f0,(rd_T51 l0_1 a).f1⟩:S51)));rintro e cQ ⟨rfl,hb⟩;refine⟨_,rfl,?_⟩;replace b:=sK b hb;replace c:=sK c hb;replace HB:=sB HB hb;(try clear hb);obtain⟨cR,cS,cT,cU⟩:=cells2 c.out)|(go_at_call 47;(with_reducible refine(impl_IsName.calls k1 ((rd_T51 l0_1 a).f0) false _ U.out).mono ?_);rintro e cV ⟨rfl,hb⟩;replace b:=sK b hb;replace c:=sK c hb;replace HB:=sB HB hb;(try clear hb)))
 go_ret
 exact⟨sq,sb⟩)
 rw[if_neg M]at H
 exact absurd H (by simp))
 rw[if_neg R]at H
 exact absurd H (by simp))
 rw[if_neg Q]at H
 exact absurd H (by simp))
 rw[if_neg G]at H
 have c4b0:=zF G
 clear G
 obtain rfl:=zI H
 obtain⟨cW,cX,cY,cZ⟩:=cells2 b.out
 go_wp2
 go_ret
 exact⟨sq,sb⟩))
end Go.Proofs.Ytcppdkdnpmgpmaa.PFnExactEntryOf
