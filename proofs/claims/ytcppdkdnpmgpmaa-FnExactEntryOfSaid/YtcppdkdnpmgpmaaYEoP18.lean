/- Printed functions: impl_isLast, impl_PatternCode_isGoodRegion. -/
import Derived.Test.YtcppdkdnpmgpmaaYEoP0
import Derived.Test.YtcppdkdnpmgpmaaYEoP15
namespace Go.Proofs.Ytcppdkdnpmgpmaa.PFnExactEntryOf
open Go.RowKit Go.Proofs.YtcppdkdnpmgpmaaG Go.Proofs.YtcppdkdnpmgpmaaW.PrintWords Go.Proofs.YtcppdkdnpmgpmaaW.PrintLast Go.Proofs.YtcppdkdnpmgpmaaW.PrintMore
attribute [local go_sem] max2_int min2_int max_two min_two max_three min_three max_four min_four
set_option linter.unusedVariables false
set_option linter.unusedSimpArgs false
def impl_isLast.f (a0:Int):Option (Bool):=if a0=39 then(some true)else(some (a0==38))
set_option maxHeartbeats 8000000 in
set_option maxRecDepth 100000 in
theorem impl_isLast.calls (a0:Int) (r:Bool) (w:World) (h:impl_isLast.f a0=some r):
  Calls Try.prog 51 #[.int .i64 a0] w fun e w'=>e= .returned (.bool r)∧Drawn0 w w':=by
 have H:(if a0=39 then(some true)else(some (a0==38)))=some r:=h
 clear h
 by_cases a:a0=39
 ·(
 rw[if_pos a]at H
 have c2b0:(a0==39)=true:=zE a
 have c2b1:(a0 !=39)=false:=zY a
 clear a
 obtain rfl:=zI H
 go_enter Try.func51,Try.ntmps51
 go_wp2
 go_ret
 exact⟨by first|rfl|(simp;done)|(simp[*];done),by repeat(first|exact Drawn0.refl _|apply Drawn0.step)⟩)
 rw[if_neg a]at H
 have c2b0:(a0==39)=false:=zN a
 have c2b1:(a0 !=39)=true:=zX a
 obtain rfl:=zI H
 go_enter Try.func51,Try.ntmps51
 go_wp2
 go_ret
 exact⟨by first|rfl|(simp;done)|(simp[*];done),by repeat(first|exact Drawn0.refl _|apply Drawn0.step)⟩
def impl_PatternCode_isGoodRegion.l0 : Nat → Int → Int → Int → Int → List (S55) → List (S51) → Option (Bool)
 |0,_,_,_,_,_,_=>none
 |k+1,x1,x2,x3,x9,x303000,x303001=>if x9<x2 then(if 0≤x9 then(if x9<(x303000.length:Int)then((impl_isLast.f ((rd_T55 x303000 x9).f0)).bind fun t305=>(if t305=true then(if x9=(wrap64 (x2- 1))then(if(((rd_T55 x303000 x9).f0)=x3)then(impl_PatternCode_isGoodRegion.l0 k x1 x2 x3 (wrap64 (x9+1)) x303000 x303001)else(some false))else(some false))else(if x9=(wrap64 (x2- 1))then(some false)else(if((rd_T55 x303000 x9).f0)=37 then(if((rd_T55 x303000 x9).f1)≥x1 then(if((rd_T55 x303000 x9).f1)<x9 then(if 0≤((rd_T55 x303000 x9).f1)then(if((rd_T55 x303000 x9).f1)<(x303000.length:Int)then(if(((rd_T55 x303000 ((rd_T55 x303000 x9).f1)).f0)=31)then(impl_PatternCode_isGoodRegion.l0 k x1 x2 x3 (wrap64 (x9+1)) x303000 x303001)else(some false))else(none))else(none))else(some false))else(some false))else((impl_hasAddress.f ((rd_T55 x303000 x9).f0)).bind fun t307=>(if t307=true then(if((rd_T55 x303000 x9).f1)>x9 then(if(((rd_T55 x303000 x9).f1)<x2)then(impl_PatternCode_isGoodRegion.l0 k x1 x2 x3 (wrap64 (x9+1)) x303000 x303001)else(some false))else(some false))else(impl_PatternCode_isGoodRegion.l0 k x1 x2 x3 (wrap64 (x9+1)) x303000 x303001)))))))else(none))else(none))else(some true)
def impl_PatternCode_isGoodRegion.f (k:Nat) (l0_0:List (S55)) (l0_1:List (S51)) (a1:Int) (a2:Int) (a3:Int):Option (Bool):=impl_PatternCode_isGoodRegion.l0 k a1 a2 a3 a1 l0_0 l0_1
set_option maxHeartbeats 8000000 in
set_option maxRecDepth 100000 in
theorem impl_PatternCode_isGoodRegion.calls (k:Nat) (A0_0:Option Addr) (c0_0:Nat) (l0_0:List (S55)) (A0_1:Option Addr) (c0_1:Nat) (l0_1:List (S51)) (a1:Int) (a2:Int) (a3:Int) (r:Bool) (w:World) (hr0_0:Kd.C k55 w A0_0 l0_0.length l0_0) (hc0_0:l0_0.length≤c0_0) (hr0_1:Kd.C k51 w A0_1 l0_1.length l0_1) (hc0_1:l0_1.length≤c0_1) (h:impl_PatternCode_isGoodRegion.f k l0_0 l0_1 a1 a2 a3=some r):
  Calls Try.prog 37 #[.agg #[.slice A0_0 l0_0.length c0_0,.slice A0_1 l0_1.length c0_1],.int .i64 a1,.int .i64 a2,.int .i64 a3] w fun e w'=>e= .returned (.bool r)∧Below w.heap.size w w':=by
 have af:=Try.underlying32
 have ag:=Try.underlying55
 have B:=zM hr0_0
 have ah:=zM hc0_0
 clear hr0_0 hc0_0
 have ai:=zM hr0_1
 have aj:=zM hc0_1
 clear hr0_1 hc0_1
 have HB:=zM (Below.refl w.heap.size w)
 have H:(impl_PatternCode_isGoodRegion.l0 k a1 a2 a3 a1 l0_0 l0_1)=some r:=h
 clear h
 have H':=zM H
 clear H
 go_enter Try.func37,Try.ntmps37
 go_wp2_with (first|((with_reducible refine gate_dst (N:=4) rfl ?_);refine sV (N:=4) (cs:= #[.slice A0_0 l0_0.length c0_0,.slice A0_1 l0_1.length c0_1]) (t:=32) ?_;intro ac hg w5 hbox hb;have b:=zM (hbox);have ak:=sG HB hg;have al:=sG HB hg;replace HB:=sB HB hb;clear hb hbox hg))
 go_loopg [9] k (fun kq v9 w'=>∃(a:Int),v9= .int .i64 a∧Aside0 (impl_PatternCode_isGoodRegion.l0 kq a1 a2 a3 a l0_0 l0_1=some r)∧Aside0 (kq≤k)∧Aside0 (w'.heap[ac]?=some (.cells #[(.slice A0_0 l0_0.length c0_0),(.slice A0_1 l0_1.length c0_1)] 32 (0,0)))∧Aside0 (Below w.heap.size w w'))
 case atStart=>exact⟨(a1),sr,H',⟨Nat.le_refl _⟩,⟨by exact sT b.out⟩,⟨sb⟩⟩
 case round=>(
 clear H'
 obtain⟨a,rfl,HA,F,b,HB⟩:=hrel
 cases gk with
 |zero=>exact absurd HA.out (by simp[impl_PatternCode_isGoodRegion.l0])
 |succ k1=>(
 have H:=HA.out
 clear HA
 simp only[impl_PatternCode_isGoodRegion.l0]at H
 by_cases P:a<a2
 ·(
 rw[if_pos P]at H
 have c6b0:=zT P
 clear P
 by_cases U:0≤a
 ·(
 rw[if_pos U]at H
 have c7b0:=zT U
 clear U
 by_cases V:a<(l0_0.length:Int)
 ·(
 rw[if_pos V]at H
 have c8b0:=zT V
 clear V
 obtain⟨ad,D,H⟩:=sO H
 by_cases W:ad=true
 ·(
 subst W
 rewrite[if_pos rfl]at H
 by_cases G:a=(wrap64 (a2- 1))
 ·(
 rw[if_pos G]at H
 have c11b0:(a==(wrap64 (a2- 1)))=true:=zE G
 have c11b1:(a !=(wrap64 (a2- 1)))=false:=zY G
 clear G
 by_cases I:(((rd_T55 l0_0 a).f0)=a3)
 ·(
 rw[if_pos I]at H
 have c12b0:(((rd_T55 l0_0 a).f0)==a3)=true:=zE I
 have c12b1:(((rd_T55 l0_0 a).f0) !=a3)=false:=zY I
 clear I
 have H':=zM H
 clear H
 obtain⟨am,an,ao,ap⟩:=cells2 b.out
 have c:0≤(a:Int):=zzA
 have d:a<(l0_0.length:Int):=zzA
 obtain⟨x,m,g,i,j⟩:=at_T55 B.out a c d
 cases m
 replace g:=sX HB g
 replace i:=sX HB i
 replace j:=sX HB j
 replace c:=eq_true c
 replace d:=eq_true d
 go_wp2_with (first|((with_reducible refine gate_dst (N:=10) rfl ?_);refine sV (N:=10) (cs:= #[.int .i64 0,.int .i64 0,.string (⟨#[]⟩:ByteArray)]) (t:=55) ?_;intro gb304 hg aq hbox hb;have n:=zM (hbox);have y:=sG HB hg;have E:=sG HB hg;replace HB:=sB HB hb;have l:=sN b hg;have o:=sM b hg;replace b:=sK b hb;clear hb hbox hg;have ar:=o.out;have au:=l.out;obtain⟨av,aw,ax,ay,az,aA⟩:=cells3 n.out)|((with_reducible refine gate_callee (f:=51) rfl ?_);refine sC (some 26) Try.func51 #[.int .i64 ((rd_T55 l0_0 a).f0)] (impl_isLast.calls ((rd_T55 l0_0 a).f0) true _ D.out) ?_;rintro e w' ⟨rfl,⟨nd,rfl⟩⟩;refine⟨_,rfl,?_⟩))
 go_roundg k1
 case measure=>have:=F.out;omega
 case rel=>exact⟨(wrap64 (a+1)),sr,H',⟨by have:=F.out;omega⟩,⟨by(with_reducible repeat(first|refine blk_drewN ?_ _|refine blk_drew ?_|refine blk_alloc ?_ _));refine blk_far ?_ l.out _;(with_reducible repeat(first|refine blk_drewN ?_ _|refine blk_drew ?_|refine blk_alloc ?_ _));refine blk_far ?_ l.out _;(with_reducible repeat(first|refine blk_drewN ?_ _|refine blk_drew ?_|refine blk_alloc ?_ _));refine blk_far ?_ l.out _;exact sT b.out⟩,⟨sb⟩⟩)
 rw[if_neg I]at H
 have c12b0:(((rd_T55 l0_0 a).f0)==a3)=false:=zN I
 have c12b1:(((rd_T55 l0_0 a).f0) !=a3)=true:=zX I
 obtain rfl:=zI H
 obtain⟨aB,aC,aD,aE⟩:=cells2 b.out
 have c:0≤(a:Int):=zzA
 have d:a<(l0_0.length:Int):=zzA
 obtain⟨x,m,g,i,j⟩:=at_T55 B.out a c d
 cases m
 replace g:=sX HB g
 replace i:=sX HB i
 replace j:=sX HB j
 replace c:=eq_true c
 replace d:=eq_true d
 go_wp2_with (first|((with_reducible refine gate_dst (N:=10) rfl ?_);refine sV (N:=10) (cs:= #[.int .i64 0,.int .i64 0,.string (⟨#[]⟩:ByteArray)]) (t:=55) ?_;intro gb304 hg aF hbox hb;have n:=zM (hbox);have y:=sG HB hg;have E:=sG HB hg;replace HB:=sB HB hb;have l:=sN b hg;have o:=sM b hg;replace b:=sK b hb;clear hb hbox hg;have aG:=o.out;have aH:=l.out;obtain⟨aI,aJ,aK,aL,aM,aN⟩:=cells3 n.out)|((with_reducible refine gate_callee (f:=51) rfl ?_);refine sC (some 26) Try.func51 #[.int .i64 ((rd_T55 l0_0 a).f0)] (impl_isLast.calls ((rd_T55 l0_0 a).f0) true _ D.out) ?_;rintro e w' ⟨rfl,⟨nd,rfl⟩⟩;refine⟨_,rfl,?_⟩))
 go_ret
 exact⟨sq,sb⟩)
 rw[if_neg G]at H
 have c11b0:(a==(wrap64 (a2- 1)))=false:=zN G
 have c11b1:(a !=(wrap64 (a2- 1)))=true:=zX G
 obtain rfl:=zI H
 obtain⟨aO,aP,aQ,aR⟩:=cells2 b.out
 have c:0≤(a:Int):=zzA
 have d:a<(l0_0.length:Int):=zzA
 obtain⟨x,m,g,i,j⟩:=at_T55 B.out a c d
 cases m
 replace g:=sX HB g
 replace i:=sX HB i
 replace j:=sX HB j
 replace c:=eq_true c
 replace d:=eq_true d
 go_wp2_with (first|((with_reducible refine gate_dst (N:=10) rfl ?_);refine sV (N:=10) (cs:= #[.int .i64 0,.int .i64 0,.string (⟨#[]⟩:ByteArray)]) (t:=55) ?_;intro gb304 hg aS hbox hb;have n:=zM (hbox);have y:=sG HB hg;have E:=sG HB hg;replace HB:=sB HB hb;have l:=sN b hg;have o:=sM b hg;replace b:=sK b hb;clear hb hbox hg;have aT:=o.out;have aU:=l.out;obtain⟨aV,aW,aX,aY,aZ,a4⟩:=cells3 n.out)|((with_reducible refine gate_callee (f:=51) rfl ?_);refine sC (some 26) Try.func51 #[.int .i64 ((rd_T55 l0_0 a).f0)] (impl_isLast.calls ((rd_T55 l0_0 a).f0) true _ D.out) ?_;rintro e w' ⟨rfl,⟨nd,rfl⟩⟩;refine⟨_,rfl,?_⟩))
 go_ret
 exact⟨sq,sb⟩)
 replace W:=zB W
 subst W
 rewrite[if_neg zQ]at H
 by_cases J:a=(wrap64 (a2- 1))
 ·(
 rw[if_pos J]at H
 have c25b0:(a==(wrap64 (a2- 1)))=true:=zE J
 have c25b1:(a !=(wrap64 (a2- 1)))=false:=zY J
 clear J
 obtain rfl:=zI H
 obtain⟨a5,a6,a7,a8⟩:=cells2 b.out
 have c:0≤(a:Int):=zzA
 have d:a<(l0_0.length:Int):=zzA
 obtain⟨x,m,g,i,j⟩:=at_T55 B.out a c d
 cases m
 replace g:=sX HB g
 replace i:=sX HB i
 replace j:=sX HB j
 replace c:=eq_true c
 replace d:=eq_true d
 go_wp2_with (first|((with_reducible refine gate_dst (N:=10) rfl ?_);refine sV (N:=10) (cs:= #[.int .i64 0,.int .i64 0,.string (⟨#[]⟩:ByteArray)]) (t:=55) ?_;intro gb304 hg a9 hbox hb;have n:=zM (hbox);have y:=sG HB hg;have E:=sG HB hg;replace HB:=sB HB hb;have l:=sN b hg;have o:=sM b hg;replace b:=sK b hb;clear hb hbox hg;have ba:=o.out;have bb:=l.out;obtain⟨bc,bd,be,bf,bg,bh⟩:=cells3 n.out)|((with_reducible refine gate_callee (f:=51) rfl ?_);refine sC (some 26) Try.func51 #[.int .i64 ((rd_T55 l0_0 a).f0)] (impl_isLast.calls ((rd_T55 l0_0 a).f0) false _ D.out) ?_;rintro e w' ⟨rfl,⟨nd,rfl⟩⟩;refine⟨_,rfl,?_⟩))
 go_ret
 exact⟨sq,sb⟩)
 rw[if_neg J]at H
 have c25b0:(a==(wrap64 (a2- 1)))=false:=zN J
 have c25b1:(a !=(wrap64 (a2- 1)))=true:=zX J
 by_cases K:((rd_T55 l0_0 a).f0)=37
 ·(
 rw[if_pos K]at H
 have c30b0:(((rd_T55 l0_0 a).f0)==37)=true:=zE K
 have c30b1:(((rd_T55 l0_0 a).f0) !=37)=false:=zY K
 clear K
 by_cases Q:((rd_T55 l0_0 a).f1)≥a1
 ·(
 rw[if_pos Q]at H
 have c31b0:decide (a1≤((rd_T55 l0_0 a).f1))=true:=zT Q
 clear Q
 by_cases R:((rd_T55 l0_0 a).f1)<a
 ·(
 rw[if_pos R]at H
 have c32b0:=zT R
 clear R
 by_cases X:0≤((rd_T55 l0_0 a).f1)
 ·(
 rw[if_pos X]at H
 have c33b0:=zT X
 clear X
 by_cases Y:((rd_T55 l0_0 a).f1)<(l0_0.length:Int)
 ·(
 rw[if_pos Y]at H
 have c34b0:=zT Y
 clear Y
 by_cases L:(((rd_T55 l0_0 ((rd_T55 l0_0 a).f1)).f0)=31)
 ·(
 rw[if_pos L]at H
 have c35b0:(((rd_T55 l0_0 ((rd_T55 l0_0 a).f1)).f0)==31)=true:=zE L
 have c35b1:(((rd_T55 l0_0 ((rd_T55 l0_0 a).f1)).f0) !=31)=false:=zY L
 clear L
 have H':=zM H
 clear H
 obtain⟨bi,bj,bk,bl⟩:=cells2 b.out
 have c:0≤(a:Int):=zzA
 have d:a<(l0_0.length:Int):=zzA
 obtain⟨x,m,g,i,j⟩:=at_T55 B.out a c d
 cases m
 replace g:=sX HB g
 replace i:=sX HB i
 replace j:=sX HB j
 replace c:=eq_true c
 replace d:=eq_true d
 go_wp2_with (first|((with_reducible refine gate_dst (N:=10) rfl ?_);refine sV (N:=10) (cs:= #[.int .i64 0,.int .i64 0,.string (⟨#[]⟩:ByteArray)]) (t:=55) ?_;intro gb304 hg bm hbox hb;have n:=zM (hbox);have y:=sG HB hg;have E:=sG HB hg;replace HB:=sB HB hb;have l:=sN b hg;have o:=sM b hg;replace b:=sK b hb;clear hb hbox hg;have bn:=o.out;have bo:=l.out;obtain⟨bp,bq,br,bs,bt,bu⟩:=cells3 n.out)|((with_reducible refine gate_callee (f:=51) rfl ?_);refine sC (some 26) Try.func51 #[.int .i64 ((rd_T55 l0_0 a).f0)] (impl_isLast.calls ((rd_T55 l0_0 a).f0) false _ D.out) ?_;rintro e w' ⟨rfl,⟨nd,rfl⟩⟩;refine⟨_,rfl,?_⟩;obtain⟨bv,bw,bx,bz⟩:=cells2 b.out;have M:0≤(((rd_T55 l0_0 a).f1):Int):=zzA;have O:((rd_T55 l0_0 a).f1)<(l0_0.length:Int):=zzA;obtain⟨ad306,ab,q,z,A⟩:=at_T55 B.out ((rd_T55 l0_0 a).f1) M O;obtain rfl:x=ad306:=(by injection ab);have s:x.block≠gb304:=zzU q y.out;have u:x.block≠gb304:=zzU q y.out;have v:x.block≠gb304:=zzU q y.out;replace q:=sX HB q;replace z:=sX HB z;replace A:=sX HB A;replace q:=(cell_far (p:=⟨gb304,0,none⟩) (zzK s) (.int .i64 ((rd_T55 l0_0 a).f0))).trans q;replace z:=(cell_far (p:=⟨gb304,0,none⟩) (zzK s) (.int .i64 ((rd_T55 l0_0 a).f0))).trans z;replace A:=(cell_far (p:=⟨gb304,0,none⟩) (zzK s) (.int .i64 ((rd_T55 l0_0 a).f0))).trans A;replace q:=(cell_far (p:=⟨gb304,1,none⟩) (zzK u) (.int .i64 ((rd_T55 l0_0 a).f1))).trans q;replace z:=(cell_far (p:=⟨gb304,1,none⟩) (zzK u) (.int .i64 ((rd_T55 l0_0 a).f1))).trans z;replace A:=(cell_far (p:=⟨gb304,1,none⟩) (zzK u) (.int .i64 ((rd_T55 l0_0 a).f1))).trans A;replace q:=(cell_far (p:=⟨gb304,2,none⟩) (zzK v) (.string ((rd_T55 l0_0 a).f2))).trans q;replace z:=(cell_far (p:=⟨gb304,2,none⟩) (zzK v) (.string ((rd_T55 l0_0 a).f2))).trans z;replace A:=(cell_far (p:=⟨gb304,2,none⟩) (zzK v) (.string ((rd_T55 l0_0 a).f2))).trans A;clear s;clear u;clear v;replace M:=eq_true M;replace O:=eq_true O))
 go_roundg k1
 case measure=>have:=F.out;omega
 case rel=>exact⟨(wrap64 (a+1)),sr,H',⟨by have:=F.out;omega⟩,⟨by(with_reducible repeat(first|refine blk_drewN ?_ _|refine blk_drew ?_|refine blk_alloc ?_ _));refine blk_far ?_ l.out _;(with_reducible repeat(first|refine blk_drewN ?_ _|refine blk_drew ?_|refine blk_alloc ?_ _));refine blk_far ?_ l.out _;(with_reducible repeat(first|refine blk_drewN ?_ _|refine blk_drew ?_|refine blk_alloc ?_ _));refine blk_far ?_ l.out _;exact sT b.out⟩,⟨sb⟩⟩)
 rw[if_neg L]at H
 have c35b0:(((rd_T55 l0_0 ((rd_T55 l0_0 a).f1)).f0)==31)=false:=zN L
 have c35b1:(((rd_T55 l0_0 ((rd_T55 l0_0 a).f1)).f0) !=31)=true:=zX L
 obtain rfl:=zI H
 obtain⟨bA,bB,bC,bD⟩:=cells2 b.out
 have c:0≤(a:Int):=zzA
 have d:a<(l0_0.length:Int):=zzA
 obtain⟨x,m,g,i,j⟩:=at_T55 B.out a c d
 cases m
 replace g:=sX HB g
 replace i:=sX HB i
 replace j:=sX HB j
 replace c:=eq_true c
 replace d:=eq_true d
 go_wp2_with (first|((with_reducible refine gate_dst (N:=10) rfl ?_);refine sV (N:=10) (cs:= #[.int .i64 0,.int .i64 0,.string (⟨#[]⟩:ByteArray)]) (t:=55) ?_;intro gb304 hg bE hbox hb;have n:=zM (hbox);have y:=sG HB hg;have E:=sG HB hg;replace HB:=sB HB hb;have l:=sN b hg;have o:=sM b hg;replace b:=sK b hb;clear hb hbox hg;have bF:=o.out;have bG:=l.out;obtain⟨bH,bI,bJ,bK,bL,bM⟩:=cells3 n.out)|((with_reducible refine gate_callee (f:=51) rfl ?_);refine sC (some 26) Try.func51 #[.int .i64 ((rd_T55 l0_0 a).f0)] (impl_isLast.calls ((rd_T55 l0_0 a).f0) false _ D.out) ?_;rintro e w' ⟨rfl,⟨nd,rfl⟩⟩;refine⟨_,rfl,?_⟩;obtain⟨bN,bO,bP,bQ⟩:=cells2 b.out;have M:0≤(((rd_T55 l0_0 a).f1):Int):=zzA;have O:((rd_T55 l0_0 a).f1)<(l0_0.length:Int):=zzA;obtain⟨ad306,ab,q,z,A⟩:=at_T55 B.out ((rd_T55 l0_0 a).f1) M O;obtain rfl:x=ad306:=(by injection ab);have s:x.block≠gb304:=zzU q y.out;have u:x.block≠gb304:=zzU q y.out;have v:x.block≠gb304:=zzU q y.out;replace q:=sX HB q;replace z:=sX HB z;replace A:=sX HB A;replace q:=(cell_far (p:=⟨gb304,0,none⟩) (zzK s) (.int .i64 ((rd_T55 l0_0 a).f0))).trans q;replace z:=(cell_far (p:=⟨gb304,0,none⟩) (zzK s) (.int .i64 ((rd_T55 l0_0 a).f0))).trans z;replace A:=(cell_far (p:=⟨gb304,0,none⟩) (zzK s) (.int .i64 ((rd_T55 l0_0 a).f0))).trans A;replace q:=(cell_far (p:=⟨gb304,1,none⟩) (zzK u) (.int .i64 ((rd_T55 l0_0 a).f1))).trans q;replace z:=(cell_far (p:=⟨gb304,1,none⟩) (zzK u) (.int .i64 ((rd_T55 l0_0 a).f1))).trans z;replace A:=(cell_far (p:=⟨gb304,1,none⟩) (zzK u) (.int .i64 ((rd_T55 l0_0 a).f1))).trans A;replace q:=(cell_far (p:=⟨gb304,2,none⟩) (zzK v) (.string ((rd_T55 l0_0 a).f2))).trans q;replace z:=(cell_far (p:=⟨gb304,2,none⟩) (zzK v) (.string ((rd_T55 l0_0 a).f2))).trans z;replace A:=(cell_far (p:=⟨gb304,2,none⟩) (zzK v) (.string ((rd_T55 l0_0 a).f2))).trans A;clear s;clear u;clear v;replace M:=eq_true M;replace O:=eq_true O))
 go_ret
 exact⟨sq,sb⟩)
 rw[if_neg Y]at H
 exact absurd H (by simp))
 rw[if_neg X]at H
 exact absurd H (by simp))
 rw[if_neg R]at H
 have c32b0:=zF R
 clear R
 obtain rfl:=zI H
 obtain⟨bR,bS,bT,bU⟩:=cells2 b.out
 have c:0≤(a:Int):=zzA
 have d:a<(l0_0.length:Int):=zzA
 obtain⟨x,m,g,i,j⟩:=at_T55 B.out a c d
 cases m
 replace g:=sX HB g
 replace i:=sX HB i
 replace j:=sX HB j
 replace c:=eq_true c
 replace d:=eq_true d
 go_wp2_with (first|((with_reducible refine gate_dst (N:=10) rfl ?_);refine sV (N:=10) (cs:= #[.int .i64 0,.int .i64 0,.string (⟨#[]⟩:ByteArray)]) (t:=55) ?_;intro gb304 hg bV hbox hb;have n:=zM (hbox);have y:=sG HB hg;have E:=sG HB hg;replace HB:=sB HB hb;have l:=sN b hg;have o:=sM b hg;replace b:=sK b hb;clear hb hbox hg;have bW:=o.out;have bX:=l.out;obtain⟨bY,bZ,b0,b1,b2,b3⟩:=cells3 n.out)|((with_reducible refine gate_callee (f:=51) rfl ?_);refine sC (some 26) Try.func51 #[.int .i64 ((rd_T55 l0_0 a).f0)] (impl_isLast.calls ((rd_T55 l0_0 a).f0) false _ D.out) ?_;rintro e w' ⟨rfl,⟨nd,rfl⟩⟩;refine⟨_,rfl,?_⟩))
 go_ret
 exact⟨sq,sb⟩)
 rw[if_neg Q]at H
 have c31b0:decide (a1≤((rd_T55 l0_0 a).f1))=false:=zF Q
 clear Q
 obtain rfl:=zI H
 obtain⟨b4,b5,b6,b7⟩:=cells2 b.out
 have c:0≤(a:Int):=zzA
 have d:a<(l0_0.length:Int):=zzA
 obtain⟨x,m,g,i,j⟩:=at_T55 B.out a c d
 cases m
 replace g:=sX HB g
 replace i:=sX HB i
 replace j:=sX HB j
 replace c:=eq_true c
 replace d:=eq_true d
 go_wp2_with (first|((with_reducible refine gate_dst (N:=10) rfl ?_);refine sV (N:=10) (cs:= #[.int .i64 0,.int .i64 0,.string (⟨#[]⟩:ByteArray)]) (t:=55) ?_;intro gb304 hg b8 hbox hb;have n:=zM (hbox);have y:=sG HB hg;have E:=sG HB hg;replace HB:=sB HB hb;have l:=sN b hg;have o:=sM b hg;replace b:=sK b hb;clear hb hbox hg;have b9:=o.out;have ca:=l.out;obtain⟨cb,cc,cd,ce,cf,cg⟩:=cells3 n.out)|((with_reducible refine gate_callee (f:=51) rfl ?_);refine sC (some 26) Try.func51 #[.int .i64 ((rd_T55 l0_0 a).f0)] (impl_isLast.calls ((rd_T55 l0_0 a).f0) false _ D.out) ?_;rintro e w' ⟨rfl,⟨nd,rfl⟩⟩;refine⟨_,rfl,?_⟩))
 go_ret
 exact⟨sq,sb⟩)
 rw[if_neg K]at H
 have c30b0:(((rd_T55 l0_0 a).f0)==37)=false:=zN K
 have c30b1:(((rd_T55 l0_0 a).f0) !=37)=true:=zX K
 obtain⟨ae,Z,H⟩:=sO H
 by_cases aa:ae=true
 ·(
 subst aa
 rewrite[if_pos rfl]at H
 by_cases S:((rd_T55 l0_0 a).f1)>a
 ·(
 rw[if_pos S]at H
 have c56b0:decide (a<((rd_T55 l0_0 a).f1))=true:=zT S
 clear S
 by_cases T:(((rd_T55 l0_0 a).f1)<a2)
 ·(
 rw[if_pos T]at H
 have c57b0:decide (((rd_T55 l0_0 a).f1)<a2)=true:=zT T
 clear T
 have H':=zM H
 clear H
 obtain⟨ch,ci,cj,ck⟩:=cells2 b.out
 have c:0≤(a:Int):=zzA
 have d:a<(l0_0.length:Int):=zzA
 obtain⟨x,m,g,i,j⟩:=at_T55 B.out a c d
 cases m
 replace g:=sX HB g
 replace i:=sX HB i
 replace j:=sX HB j
 replace c:=eq_true c
 replace d:=eq_true d
 go_wp2_with (first|((with_reducible refine gate_dst (N:=10) rfl ?_);refine sV (N:=10) (cs:= #[.int .i64 0,.int .i64 0,.string (⟨#[]⟩:ByteArray)]) (t:=55) ?_;intro gb304 hg cl hbox hb;have n:=zM (hbox);have y:=sG HB hg;have E:=sG HB hg;replace HB:=sB HB hb;have l:=sN b hg;have o:=sM b hg;replace b:=sK b hb;clear hb hbox hg;have cm:=o.out;have cn:=l.out;obtain⟨co,cp,cq,cr,ct,cu⟩:=cells3 n.out)|((with_reducible refine gate_callee (f:=51) rfl ?_);refine sC (some 26) Try.func51 #[.int .i64 ((rd_T55 l0_0 a).f0)] (impl_isLast.calls ((rd_T55 l0_0 a).f0) false _ D.out) ?_;rintro e w' ⟨rfl,⟨nd,rfl⟩⟩;refine⟨_,rfl,?_⟩)|((with_reducible refine gate_callee (f:=44) rfl ?_);refine sC (some 69) Try.func44 #[.int .i64 ((rd_T55 l0_0 a).f0)] (impl_hasAddress.calls ((rd_T55 l0_0 a).f0) true _ Z.out) ?_;rintro e w' ⟨rfl,⟨nd,rfl⟩⟩;refine⟨_,rfl,?_⟩))
 go_roundg k1
 case measure=>have:=F.out;omega
 case rel=>exact⟨(wrap64 (a+1)),sr,H',⟨by have:=F.out;omega⟩,⟨by(with_reducible repeat(first|refine blk_drewN ?_ _|refine blk_drew ?_|refine blk_alloc ?_ _));refine blk_far ?_ l.out _;(with_reducible repeat(first|refine blk_drewN ?_ _|refine blk_drew ?_|refine blk_alloc ?_ _));refine blk_far ?_ l.out _;(with_reducible repeat(first|refine blk_drewN ?_ _|refine blk_drew ?_|refine blk_alloc ?_ _));refine blk_far ?_ l.out _;exact sT b.out⟩,⟨sb⟩⟩)
 rw[if_neg T]at H
 have c57b0:decide (((rd_T55 l0_0 a).f1)<a2)=false:=zF T
 clear T
 obtain rfl:=zI H
 obtain⟨cv,cw,cx,cy⟩:=cells2 b.out
 have c:0≤(a:Int):=zzA
 have d:a<(l0_0.length:Int):=zzA
 obtain⟨x,m,g,i,j⟩:=at_T55 B.out a c d
 cases m
 replace g:=sX HB g
 replace i:=sX HB i
 replace j:=sX HB j
 replace c:=eq_true c
 replace d:=eq_true d
 go_wp2_with (first|((with_reducible refine gate_dst (N:=10) rfl ?_);refine sV (N:=10) (cs:= #[.int .i64 0,.int .i64 0,.string (⟨#[]⟩:ByteArray)]) (t:=55) ?_;intro gb304 hg cz hbox hb;have n:=zM (hbox);have y:=sG HB hg;have E:=sG HB hg;replace HB:=sB HB hb;have l:=sN b hg;have o:=sM b hg;replace b:=sK b hb;clear hb hbox hg;have cA:=o.out;have cB:=l.out;obtain⟨cC,cD,cE,cF,cG,cH⟩:=cells3 n.out)|((with_reducible refine gate_callee (f:=51) rfl ?_);refine sC (some 26) Try.func51 #[.int .i64 ((rd_T55 l0_0 a).f0)] (impl_isLast.calls ((rd_T55 l0_0 a).f0) false _ D.out) ?_;rintro e w' ⟨rfl,⟨nd,rfl⟩⟩;refine⟨_,rfl,?_⟩)|((with_reducible refine gate_callee (f:=44) rfl ?_);refine sC (some 69) Try.func44 #[.int .i64 ((rd_T55 l0_0 a).f0)] (impl_hasAddress.calls ((rd_T55 l0_0 a).f0) true _ Z.out) ?_;rintro e w' ⟨rfl,⟨nd,rfl⟩⟩;refine⟨_,rfl,?_⟩))
 go_ret
 exact⟨sq,sb⟩)
 rw[if_neg S]at H
 have c56b0:decide (a<((rd_T55 l0_0 a).f1))=false:=zF S
 clear S
 obtain rfl:=zI H
 obtain⟨cI,cJ,cK,cL⟩:=cells2 b.out
 have c:0≤(a:Int):=zzA
 have d:a<(l0_0.length:Int):=zzA
 obtain⟨x,m,g,i,j⟩:=at_T55 B.out a c d
 cases m
 replace g:=sX HB g
 replace i:=sX HB i
 replace j:=sX HB j
 replace c:=eq_true c
 replace d:=eq_true d
 go_wp2_with (first|((with_reducible refine gate_dst (N:=10) rfl ?_);refine sV (N:=10) (cs:= #[.int .i64 0,.int .i64 0,.string (⟨#[]⟩:ByteArray)]) (t:=55) ?_;intro gb304 hg cM hbox hb;have n:=zM (hbox);have y:=sG HB hg;have E:=sG HB hg;replace HB:=sB HB hb;have l:=sN b hg;have o:=sM b hg;replace b:=sK b hb;clear hb hbox hg;have cN:=o.out;have cO:=l.out;obtain⟨cP,cQ,cR,cS,cT,cU⟩:=cells3 n.out)|((with_reducible refine gate_callee (f:=51) rfl ?_);refine sC (some 26) Try.func51 #[.int .i64 ((rd_T55 l0_0 a).f0)] (impl_isLast.calls ((rd_T55 l0_0 a).f0) false _ D.out) ?_;rintro e w' ⟨rfl,⟨nd,rfl⟩⟩;refine⟨_,rfl,?_⟩)|((with_reducible refine gate_callee (f:=44) rfl ?_);refine sC (some 69) Try.func44 #[.int .i64 ((rd_T55 l0_0 a).f0)] (impl_hasAddress.calls ((rd_T55 l0_0 a).f0) true _ Z.out) ?_;rintro e w' ⟨rfl,⟨nd,rfl⟩⟩;refine⟨_,rfl,?_⟩))
 go_ret
 exact⟨sq,sb⟩)
 replace aa:=zB aa
 subst aa
 rewrite[if_neg zQ]at H
 have H':=zM H
 clear H
 obtain⟨cV,cW,cX,cY⟩:=cells2 b.out
 have c:0≤(a:Int):=zzA
 have d:a<(l0_0.length:Int):=zzA
 obtain⟨x,m,g,i,j⟩:=at_T55 B.out a c d
 cases m
 replace g:=sX HB g
 replace i:=sX HB i
 replace j:=sX HB j
 replace c:=eq_true c
 replace d:=eq_true d
 go_wp2_with (first|((with_reducible refine gate_dst (N:=10) rfl ?_);refine sV (N:=10) (cs:= #[.int .i64 0,.int .i64 0,.string (⟨#[]⟩:ByteArray)]) (t:=55) ?_;intro gb304 hg cZ hbox hb;have n:=zM (hbox);have y:=sG HB hg;have E:=sG HB hg;replace HB:=sB HB hb;have l:=sN b hg;have o:=sM b hg;replace b:=sK b hb;clear hb hbox hg;have c0:=o.out;have c1:=l.out;obtain⟨c3,c4,c5,c9,da,db⟩:=cells3 n.out)|((with_reducible refine gate_callee (f:=51) rfl ?_);refine sC (some 26) Try.func51 #[.int .i64 ((rd_T55 l0_0 a).f0)] (impl_isLast.calls ((rd_T55 l0_0 a).f0) false _ D.out) ?_;rintro e w' ⟨rfl,⟨nd,rfl⟩⟩;refine⟨_,rfl,?_⟩)|((with_reducible refine gate_callee (f:=44) rfl ?_);refine sC (some 69) Try.func44 #[.int .i64 ((rd_T55 l0_0 a).f0)] (impl_hasAddress.calls ((rd_T55 l0_0 a).f0) false _ Z.out) ?_;rintro e w' ⟨rfl,⟨nd,rfl⟩⟩;refine⟨_,rfl,?_⟩))
 go_roundg k1
 case measure=>have:=F.out;omega
 case rel=>exact⟨(wrap64 (a+1)),sr,H',⟨by have:=F.out;omega⟩,⟨by(with_reducible repeat(first|refine blk_drewN ?_ _|refine blk_drew ?_|refine blk_alloc ?_ _));refine blk_far ?_ l.out _;(with_reducible repeat(first|refine blk_drewN ?_ _|refine blk_drew ?_|refine blk_alloc ?_ _));refine blk_far ?_ l.out _;(with_reducible repeat(first|refine blk_drewN ?_ _|refine blk_drew ?_|refine blk_alloc ?_ _));refine blk_far ?_ l.out _;exact sT b.out⟩,⟨sb⟩⟩)
 rw[if_neg V]at H
 exact absurd H (by simp))
 rw[if_neg U]at H
 exact absurd H (by simp))
 rw[if_neg P]at H
 have c6b0:=zF P
 clear P
 obtain rfl:=zI H
 go_wp2
 go_ret
 exact⟨sq,sb⟩))
end Go.Proofs.Ytcppdkdnpmgpmaa.PFnExactEntryOf
