/- Printed functions: impl_Function__impl_sameFunction. -/
import Derived.Test.YtnneadpahjkhgaaYSmP0
import Derived.Test.YtnneadpahjkhgaaYSmPE
import Derived.Test.YtnneadpahjkhgaaYSmP24
namespace Go.Proofs.Ytnneadpahjkhgaa.PFnExactSameMemory
open Go.RowKit Go.Proofs.YtnneadpahjkhgaaG Go.Proofs.YtnneadpahjkhgaaW.PrintWords Go.Proofs.YtnneadpahjkhgaaW.PrintLast Go.Proofs.YtnneadpahjkhgaaW.PrintMore
attribute [local go_sem] max2_int min2_int max_two min_two max_three min_three max_four min_four
set_option linter.unusedVariables false
set_option linter.unusedSimpArgs false
section
attribute [local go_sem high] eqA114 eqA116
def impl_Function__impl_sameFunction.l0 : Nat → List (S107) → List (S107) → Int → Int → Option (Bool)
 |0,_,_,_,_=>none
 |k+1,x1,x15,x16,x17=>if x17<x16 then(if 0≤x17 then(if x17<(x15.length:Int)then(if x17<(x1.length:Int)then((impl_sameFunction.f k ((rd_T107 x15 x17).f0) ((rd_T107 x15 x17).f1) ((rd_T107 x15 x17).f2) ((rd_T107 x15 x17).f3) ((rd_T107 x1 x17).f0) ((rd_T107 x1 x17).f1) ((rd_T107 x1 x17).f2) ((rd_T107 x1 x17).f3)).bind fun t406=>(if t406=true then(impl_Function__impl_sameFunction.l0 k x1 x15 x16 (wrap64 (x17+1)))else(some false)))else(none))else(none))else(none))else(some true)
def impl_Function__impl_sameFunction.f (k:Nat) (l0:List (S107)) (l1:List (S107)):Option (Bool):=if(l0.length:Int)=(l1.length:Int)then(impl_Function__impl_sameFunction.l0 k l1 l0 (l0.length:Int) 0)else(some false)
set_option maxHeartbeats 8000000 in
set_option maxRecDepth 100000 in
theorem impl_Function__impl_sameFunction.calls (k:Nat) (A0:Option Addr) (c0:Nat) (l0:List (S107)) (A1:Option Addr) (c1:Nat) (l1:List (S107)) (r:Bool) (w:World) (hr0:Kd.C k107 w A0 l0.length l0) (hc0:l0.length≤c0) (hr1:Kd.C k107 w A1 l1.length l1) (hc1:l1.length≤c1) (h:impl_Function__impl_sameFunction.f k l0 l1=some r):
  Calls Try.prog 94 #[.slice A0 l0.length c0,.slice A1 l1.length c1,.func (.func 95) #[] #[]] w fun e w'=>e= .returned (.bool r)∧Below w.heap.size w w':=by
 have aG:=Try.underlying107
 have az:=zM hr0
 have aH:=zM hc0
 clear hr0 hc0
 have aA:=zM hr1
 have aI:=zM hc1
 clear hr1 hc1
 have HB:=zM (Below.refl w.heap.size w)
 have H:(if(l0.length:Int)=(l1.length:Int)then(impl_Function__impl_sameFunction.l0 k l1 l0 (l0.length:Int) 0)else(some false))=some r:=h
 clear h
 by_cases y:(l0.length:Int)=(l1.length:Int)
 ·(
 rw[if_pos y]at H
 have c4b0:((l0.length:Int)==(l1.length:Int))=true:=zE y
 have c4b1:((l0.length:Int) !=(l1.length:Int))=false:=zY y
 have c4b2:(l0.length==l1.length)=true:=by first|simpa using y|(simp at y ⊢;omega)
 clear y
 have H':=zM H
 clear H
 go_enter Try.func94,Try.ntmps94
 go_wp2
 go_loopg [17] k (fun kq aC w'=>∃(a:Int),aC= .int .i64 a∧Aside0 (impl_Function__impl_sameFunction.l0 kq l1 l0 (l0.length:Int) a=some r)∧Aside0 (kq≤k)∧Aside0 (Below w.heap.size w w'))
 case atStart=>exact⟨(0),sr,H',⟨Nat.le_refl _⟩,⟨sb⟩⟩
 case round=>(
 clear H'
 try clear c1
 try clear y
 try clear c4b0
 try clear c4b1
 try clear c4b2
 obtain⟨a,rfl,HA,aB,HB⟩:=hrel
 cases gk with
 |zero=>exact absurd HA.out (by simp[impl_Function__impl_sameFunction.l0])
 |succ k1=>(
 have H:=HA.out
 clear HA
 simp only[impl_Function__impl_sameFunction.l0]at H
 by_cases Q:a<(l0.length:Int)
 ·(
 rw[if_pos Q]at H
 have c5b0:=zT Q
 clear Q
 by_cases c6:0≤a
 ·(
 rw[if_pos c6]at H
 have c6b0:=zT c6
 clear c6
 by_cases c7:a<(l0.length:Int)
 ·(
 rw[if_pos c7]at H
 have c7b0:=zT c7
 clear c7
 by_cases c8:a<(l1.length:Int)
 ·(
 rw[if_pos c8]at H
 have c8b0:=zT c8
 clear c8
 obtain⟨aD,A9,H⟩:=sO H
 by_cases ah:aD=true
 ·(
 subst ah
 rewrite[if_pos rfl]at H
 have H':=zM H
 clear H
 have K:0≤(a:Int):=zO (by first|(with_reducible assumption)|assumption)
 have L:a<(l0.length:Int):=zO (by first|(with_reducible assumption)|assumption)
 obtain⟨aE,s,u,v,x,ai,R,S,T,U,V,W,X,Y⟩:=at_T107 az.out a K L
 cases ai
 replace R:=sX HB R
 replace S:=sX HB S
 replace T:=sX HB T
 replace U:=sX HB U
 have aj:=zM W
 have ak:=zM V
 clear W V
 have al:=zM Y
 have am:=zM X
 clear Y X
 replace K:=eq_true K
 replace L:=eq_true L
 go_wp2_with (first|((with_reducible refine gate_dst (N:=8) rfl ?_);refine sV (N:=8) (cs:= #[.string (⟨#[]⟩:ByteArray),.slice none 0 0,.slice none 0 0,.string (⟨#[]⟩:ByteArray)]) (t:=107) ?_;intro gb403 hg aJ hbox hb;have l:=zM (hbox);have E:=sG HB hg;have F:=sG HB hg;replace HB:=sB HB hb;clear hb hbox hg;obtain⟨aK,aL,aM,aN,aO,aP,aQ,aR⟩:=cells4 l.out;have M:0≤(a:Int):=zO (by first|(with_reducible assumption)|assumption);have O:a<(l1.length:Int):=zO (by first|(with_reducible assumption)|assumption);obtain⟨G,an,ao,ap,aq,ar,b,m,n,q,Z,aa,ab,ac⟩:=at_T107 aA.out a M O;cases ar;have c:G.block≠gb403:=Nat.ne_of_lt (Nat.lt_of_lt_of_le (by have:=zL _ _ b;first|rwa [add_block]at this|exact this) E.out);have d:G.block≠gb403:=Nat.ne_of_lt (Nat.lt_of_lt_of_le (by have:=zL _ _ b;first|rwa [add_block]at this|exact this) E.out);have i:G.block≠gb403:=Nat.ne_of_lt (Nat.lt_of_lt_of_le (by have:=zL _ _ b;first|rwa [add_block]at this|exact this) E.out);have j:G.block≠gb403:=Nat.ne_of_lt (Nat.lt_of_lt_of_le (by have:=zL _ _ b;first|rwa [add_block]at this|exact this) E.out);replace b:=sX HB b;replace m:=sX HB m;replace n:=sX HB n;replace q:=sX HB q;have au:=zM aa;have av:=zM Z;clear aa Z;have aw:=zM ac;have ax:=zM ab;clear ac ab;replace b:=(cell_far (p:=⟨gb403,0,none⟩) (by first|(rw[add_block];exact c)|(show(Addr.add _ _).block≠_;rw[add_block];exact c)|exact c) (.string ((rd_T107 l0 a).f0))).trans b;replace m:=(cell_far (p:=⟨gb403,0,none⟩) (by first|(rw[add_block];exact c)|(show(Addr.add _ _).block≠_;rw[add_block];exact c)|exact c) (.string ((rd_T107 l0 a).f0))).trans m;replace n:=(cell_far (p:=⟨gb403,0,none⟩) (by first|(rw[add_block];exact c)|(show(Addr.add _ _).block≠_;rw[add_block];exact c)|exact c) (.string ((rd_T107 l0 a).f0))).trans n;replace q:=(cell_far (p:=⟨gb403,0,none⟩) (by first|(rw[add_block];exact c)|(show(Addr.add _ _).block≠_;rw[add_block];exact c)|exact c) (.string ((rd_T107 l0 a).f0))).trans q;replace b:=(cell_far (p:=⟨gb403,1,none⟩) (by first|(rw[add_block];exact d)|(show(Addr.add _ _).block≠_;rw[add_block];exact d)|exact d) (.slice s ((rd_T107 l0 a).f1).length u)).trans b;replace m:=(cell_far (p:=⟨gb403,1,none⟩) (by first|(rw[add_block];exact d)|(show(Addr.add _ _).block≠_;rw[add_block];exact d)|exact d) (.slice s ((rd_T107 l0 a).f1).length u)).trans m;replace n:=(cell_far (p:=⟨gb403,1,none⟩) (by first|(rw[add_block];exact d)|(show(Addr.add _ _).block≠_;rw[add_block];exact d)|exact d) (.slice s ((rd_T107 l0 a).f1).length u)).trans n;replace q:=(cell_far (p:=⟨gb403,1,none⟩) (by first|(rw[add_block];exact d)|(show(Addr.add _ _).block≠_;rw[add_block];exact d)|exact d) (.slice s ((rd_T107 l0 a).f1).length u)).trans q;replace b:=(cell_far (p:=⟨gb403,2,none⟩) (by first|(rw[add_block];exact i)|(show(Addr.add _ _).block≠_;rw[add_block];exact i)|exact i) (.slice v ((rd_T107 l0 a).f2).length x)).trans b;replace m:=(cell_far (p:=⟨gb403,2,none⟩) (by first|(rw[add_block];exact i)|(show(Addr.add _ _).block≠_;rw[add_block];exact i)|exact i) (.slice v ((rd_T107 l0 a).f2).length x)).trans m;replace n:=(cell_far (p:=⟨gb403,2,none⟩) (by first|(rw[add_block];exact i)|(show(Addr.add _ _).block≠_;rw[add_block];exact i)|exact i) (.slice v ((rd_T107 l0 a).f2).length x)).trans n;replace q:=(cell_far (p:=⟨gb403,2,none⟩) (by first|(rw[add_block];exact i)|(show(Addr.add _ _).block≠_;rw[add_block];exact i)|exact i) (.slice v ((rd_T107 l0 a).f2).length x)).trans q;replace b:=(cell_far (p:=⟨gb403,3,none⟩) (by first|(rw[add_block];exact j)|(show(Addr.add _ _).block≠_;rw[add_block];exact j)|exact j) (.string ((rd_T107 l0 a).f3))).trans b;replace m:=(cell_far (p:=⟨gb403,3,none⟩) (by first|(rw[add_block];exact j)|(show(Addr.add _ _).block≠_;rw[add_block];exact j)|exact j) (.string ((rd_T107 l0 a).f3))).trans m;replace n:=(cell_far (p:=⟨gb403,3,none⟩) (by first|(rw[add_block];exact j)|(show(Addr.add _ _).block≠_;rw[add_block];exact j)|exact j) (.string ((rd_T107 l0 a).f3))).trans n;replace q:=(cell_far (p:=⟨gb403,3,none⟩) (by first|(rw[add_block];exact j)|(show(Addr.add _ _).block≠_;rw[add_block];exact j)|exact j) (.string ((rd_T107 l0 a).f3))).trans q;clear c;clear d;clear i;clear j;replace M:=eq_true M;replace O:=eq_true O)|((with_reducible refine gate_dst (N:=9) rfl ?_);refine sV (N:=9) (cs:= #[.string (⟨#[]⟩:ByteArray),.slice none 0 0,.slice none 0 0,.string (⟨#[]⟩:ByteArray)]) (t:=107) ?_;intro P hg aS hbox hb;have z:=zM (blk_below (g:=gb403) (o:= .cells #[.string ((rd_T107 l0 a).f0),.slice s ((rd_T107 l0 a).f1).length u,.slice v ((rd_T107 l0 a).f2).length x,.string ((rd_T107 l0 a).f3)] 107 (0,0)) (by exact sP4 (sT l.out)) hb);have A:=sB HB hb;have B:=zM (hbox);have ad:=sG HB hg;have ae:=sG HB hg;have af:=zM ((by rw[hg];exact Nat.ne_of_lt (blk_lt (g:=gb403) (o:= .cells #[.string ((rd_T107 l0 a).f0),.slice s ((rd_T107 l0 a).f1).length u,.slice v ((rd_T107 l0 a).f2).length x,.string ((rd_T107 l0 a).f3)] 107 (0,0)) (by exact sP4 (sT l.out))):gb403≠P));have ag:=zM ((by rw[hg];exact Nat.ne_of_gt (blk_lt (g:=gb403) (o:= .cells #[.string ((rd_T107 l0 a).f0),.slice s ((rd_T107 l0 a).f1).length u,.slice v ((rd_T107 l0 a).f2).length x,.string ((rd_T107 l0 a).f3)] 107 (0,0)) (by exact sP4 (sT l.out))):P≠gb403));clear l;clear HB;have l:=z;have HB:=A;have I:=B;have aF:=ad;have J:=ae;have D:=af;have ay:=ag;clear z A B ad ae af ag;clear hb hbox hg;have aT:=ay.out;have aU:=D.out;obtain⟨aV,aW,aX,aY,aZ,a0,a1,a2⟩:=cells4 I.out;obtain⟨a3,a4,a5,a6,a7,a8,a9,ba⟩:=cells4 l.out)|(go_at_call 95;(with_reducible refine(impl_sameFunction.calls k1 ((rd_T107 l0 a).f0) _ _ ((rd_T107 l0 a).f1) _ _ ((rd_T107 l0 a).f2) ((rd_T107 l0 a).f3) ((rd_T107 l1 a).f0) _ _ ((rd_T107 l1 a).f1) _ _ ((rd_T107 l1 a).f2) ((rd_T107 l1 a).f3) true _ ?side1 ?side2 ?side3 ?side4 ?side5 ?side6 ?side7 ?side8 A9.out).mono ?_);(case side1=>exact zC aj.out (by repeat(first|(with_reducible first|exact HB.out|apply below_alloc|apply pw_below_drewN|apply below_drew1|refine below_set ?_ F.out|refine below_set ?_ J.out)|exact HB.out)));(case side2=>exact ak.out);(case side3=>exact zC al.out (by repeat(first|(with_reducible first|exact HB.out|apply below_alloc|apply pw_below_drewN|apply below_drew1|refine below_set ?_ F.out|refine below_set ?_ J.out)|exact HB.out)));(case side4=>exact am.out);(case side5=>exact zC au.out (by repeat(first|(with_reducible first|exact HB.out|apply below_alloc|apply pw_below_drewN|apply below_drew1|refine below_set ?_ F.out|refine below_set ?_ J.out)|exact HB.out)));(case side6=>exact av.out);(case side7=>exact zC aw.out (by repeat(first|(with_reducible first|exact HB.out|apply below_alloc|apply pw_below_drewN|apply below_drew1|refine below_set ?_ F.out|refine below_set ?_ J.out)|exact HB.out)));(case side8=>exact ax.out);rintro e bb ⟨rfl,hb⟩;have z:=zM (blk_below (g:=gb403) (o:= .cells #[.string ((rd_T107 l0 a).f0),.slice s ((rd_T107 l0 a).f1).length u,.slice v ((rd_T107 l0 a).f2).length x,.string ((rd_T107 l0 a).f3)] 107 (0,0)) (by(with_reducible repeat(first|refine blk_drewN ?_ _|refine blk_drew ?_|refine blk_alloc ?_ _));refine blk_far ?_ D.out _;(with_reducible repeat(first|refine blk_drewN ?_ _|refine blk_drew ?_|refine blk_alloc ?_ _));refine blk_far ?_ D.out _;(with_reducible repeat(first|refine blk_drewN ?_ _|refine blk_drew ?_|refine blk_alloc ?_ _));refine blk_far ?_ D.out _;(with_reducible repeat(first|refine blk_drewN ?_ _|refine blk_drew ?_|refine blk_alloc ?_ _));refine blk_far ?_ D.out _;exact sT l.out) hb);have A:=zM (blk_below (g:=P) (o:= .cells #[.string ((rd_T107 l1 a).f0),.slice an ((rd_T107 l1 a).f1).length ao,.slice ap ((rd_T107 l1 a).f2).length aq,.string ((rd_T107 l1 a).f3)] 107 (0,0)) (by exact sP4 (sT I.out)) hb);have B:=sB HB hb;clear l;clear I;clear HB;have l:=z;have I:=A;have HB:=B;clear z A B;(try clear hb)))
 go_roundg k1
 case measure=>have:=aB.out;omega
 case rel=>exact⟨(wrap64 (a+1)),sr,H',⟨by have:=aB.out;omega⟩,⟨sb⟩⟩)
 replace ah:=zB ah
 subst ah
 rewrite[if_neg zQ]at H
 obtain rfl:=zI H
 have K:0≤(a:Int):=zO (by first|(with_reducible assumption)|assumption)
 have L:a<(l0.length:Int):=zO (by first|(with_reducible assumption)|assumption)
 obtain⟨aE,s,u,v,x,ai,R,S,T,U,V,W,X,Y⟩:=at_T107 az.out a K L
 cases ai
 replace R:=sX HB R
 replace S:=sX HB S
 replace T:=sX HB T
 replace U:=sX HB U
 have aj:=zM W
 have ak:=zM V
 clear W V
 have al:=zM Y
 have am:=zM X
 clear Y X
 replace K:=eq_true K
 replace L:=eq_true L
 go_wp2_with (first|((with_reducible refine gate_dst (N:=8) rfl ?_);refine sV (N:=8) (cs:= #[.string (⟨#[]⟩:ByteArray),.slice none 0 0,.slice none 0 0,.string (⟨#[]⟩:ByteArray)]) (t:=107) ?_;intro gb403 hg bc hbox hb;have l:=zM (hbox);have E:=sG HB hg;have F:=sG HB hg;replace HB:=sB HB hb;clear hb hbox hg;obtain⟨bd,be,bf,bg,bh,bi,bj,bk⟩:=cells4 l.out;have M:0≤(a:Int):=zO (by first|(with_reducible assumption)|assumption);have O:a<(l1.length:Int):=zO (by first|(with_reducible assumption)|assumption);obtain⟨G,an,ao,ap,aq,ar,b,m,n,q,Z,aa,ab,ac⟩:=at_T107 aA.out a M O;cases ar;have c:G.block≠gb403:=Nat.ne_of_lt (Nat.lt_of_lt_of_le (by have:=zL _ _ b;first|rwa [add_block]at this|exact this) E.out);have d:G.block≠gb403:=Nat.ne_of_lt (Nat.lt_of_lt_of_le (by have:=zL _ _ b;first|rwa [add_block]at this|exact this) E.out);have i:G.block≠gb403:=Nat.ne_of_lt (Nat.lt_of_lt_of_le (by have:=zL _ _ b;first|rwa [add_block]at this|exact this) E.out);have j:G.block≠gb403:=Nat.ne_of_lt (Nat.lt_of_lt_of_le (by have:=zL _ _ b;first|rwa [add_block]at this|exact this) E.out);replace b:=sX HB b;replace m:=sX HB m;replace n:=sX HB n;replace q:=sX HB q;have au:=zM aa;have av:=zM Z;clear aa Z;have aw:=zM ac;have ax:=zM ab;clear ac ab;replace b:=(cell_far (p:=⟨gb403,0,none⟩) (by first|(rw[add_block];exact c)|(show(Addr.add _ _).block≠_;rw[add_block];exact c)|exact c) (.string ((rd_T107 l0 a).f0))).trans b;replace m:=(cell_far (p:=⟨gb403,0,none⟩) (by first|(rw[add_block];exact c)|(show(Addr.add _ _).block≠_;rw[add_block];exact c)|exact c) (.string ((rd_T107 l0 a).f0))).trans m;replace n:=(cell_far (p:=⟨gb403,0,none⟩) (by first|(rw[add_block];exact c)|(show(Addr.add _ _).block≠_;rw[add_block];exact c)|exact c) (.string ((rd_T107 l0 a).f0))).trans n;replace q:=(cell_far (p:=⟨gb403,0,none⟩) (by first|(rw[add_block];exact c)|(show(Addr.add _ _).block≠_;rw[add_block];exact c)|exact c) (.string ((rd_T107 l0 a).f0))).trans q;replace b:=(cell_far (p:=⟨gb403,1,none⟩) (by first|(rw[add_block];exact d)|(show(Addr.add _ _).block≠_;rw[add_block];exact d)|exact d) (.slice s ((rd_T107 l0 a).f1).length u)).trans b;replace m:=(cell_far (p:=⟨gb403,1,none⟩) (by first|(rw[add_block];exact d)|(show(Addr.add _ _).block≠_;rw[add_block];exact d)|exact d) (.slice s ((rd_T107 l0 a).f1).length u)).trans m;replace n:=(cell_far (p:=⟨gb403,1,none⟩) (by first|(rw[add_block];exact d)|(show(Addr.add _ _).block≠_;rw[add_block];exact d)|exact d) (.slice s ((rd_T107 l0 a).f1).length u)).trans n;replace q:=(cell_far (p:=⟨gb403,1,none⟩) (by first|(rw[add_block];exact d)|(show(Addr.add _ _).block≠_;rw[add_block];exact d)|exact d) (.slice s ((rd_T107 l0 a).f1).length u)).trans q;replace b:=(cell_far (p:=⟨gb403,2,none⟩) (by first|(rw[add_block];exact i)|(show(Addr.add _ _).block≠_;rw[add_block];exact i)|exact i) (.slice v ((rd_T107 l0 a).f2).length x)).trans b;replace m:=(cell_far (p:=⟨gb403,2,none⟩) (by first|(rw[add_block];exact i)|(show(Addr.add _ _).block≠_;rw[add_block];exact i)|exact i) (.slice v ((rd_T107 l0 a).f2).length x)).trans m;replace n:=(cell_far (p:=⟨gb403,2,none⟩) (by first|(rw[add_block];exact i)|(show(Addr.add _ _).block≠_;rw[add_block];exact i)|exact i) (.slice v ((rd_T107 l0 a).f2).length x)).trans n;replace q:=(cell_far (p:=⟨gb403,2,none⟩) (by first|(rw[add_block];exact i)|(show(Addr.add _ _).block≠_;rw[add_block];exact i)|exact i) (.slice v ((rd_T107 l0 a).f2).length x)).trans q;replace b:=(cell_far (p:=⟨gb403,3,none⟩) (by first|(rw[add_block];exact j)|(show(Addr.add _ _).block≠_;rw[add_block];exact j)|exact j) (.string ((rd_T107 l0 a).f3))).trans b;replace m:=(cell_far (p:=⟨gb403,3,none⟩) (by first|(rw[add_block];exact j)|(show(Addr.add _ _).block≠_;rw[add_block];exact j)|exact j) (.string ((rd_T107 l0 a).f3))).trans m;replace n:=(cell_far (p:=⟨gb403,3,none⟩) (by first|(rw[add_block];exact j)|(show(Addr.add _ _).block≠_;rw[add_block];exact j)|exact j) (.string ((rd_T107 l0 a).f3))).trans n;replace q:=(cell_far (p:=⟨gb403,3,none⟩) (by first|(rw[add_block];exact j)|(show(Addr.add _ _).block≠_;rw[add_block];exact j)|exact j) (.string ((rd_T107 l0 a).f3))).trans q;clear c;clear d;clear i;clear j;replace M:=eq_true M;replace O:=eq_true O)|((with_reducible refine gate_dst (N:=9) rfl ?_);refine sV (N:=9) (cs:= #[.string (⟨#[]⟩:ByteArray),.slice none 0 0,.slice none 0 0,.string (⟨#[]⟩:ByteArray)]) (t:=107) ?_;intro P hg bl hbox hb;have z:=zM (blk_below (g:=gb403) (o:= .cells #[.string ((rd_T107 l0 a).f0),.slice s ((rd_T107 l0 a).f1).length u,.slice v ((rd_T107 l0 a).f2).length x,.string ((rd_T107 l0 a).f3)] 107 (0,0)) (by exact sP4 (sT l.out)) hb);have A:=sB HB hb;have B:=zM (hbox);have ad:=sG HB hg;have ae:=sG HB hg;have af:=zM ((by rw[hg];exact Nat.ne_of_lt (blk_lt (g:=gb403) (o:= .cells #[.string ((rd_T107 l0 a).f0),.slice s ((rd_T107 l0 a).f1).length u,.slice v ((rd_T107 l0 a).f2).length x,.string ((rd_T107 l0 a).f3)] 107 (0,0)) (by exact sP4 (sT l.out))):gb403≠P));have ag:=zM ((by rw[hg];exact Nat.ne_of_gt (blk_lt (g:=gb403) (o:= .cells #[.string ((rd_T107 l0 a).f0),.slice s ((rd_T107 l0 a).f1).length u,.slice v ((rd_T107 l0 a).f2).length x,.string ((rd_T107 l0 a).f3)] 107 (0,0)) (by exact sP4 (sT l.out))):P≠gb403));clear l;clear HB;have l:=z;have HB:=A;have I:=B;have aF:=ad;have J:=ae;have D:=af;have ay:=ag;clear z A B ad ae af ag;clear hb hbox hg;have bm:=ay.out;have bn:=D.out;obtain⟨bo,bp,bq,br,bs,bt,bu,bv⟩:=cells4 I.out;obtain⟨bw,bx,bz,bA,bB,bC,bD,bE⟩:=cells4 l.out)|(go_at_call 95;(with_reducible refine(impl_sameFunction.calls k1 ((rd_T107 l0 a).f0) _ _ ((rd_T107 l0 a).f1) _ _ ((rd_T107 l0 a).f2) ((rd_T107 l0 a).f3) ((rd_T107 l1 a).f0) _ _ ((rd_T107 l1 a).f1) _ _ ((rd_T107 l1 a).f2) ((rd_T107 l1 a).f3) false _ ?side1 ?side2 ?side3 ?side4 ?side5 ?side6 ?side7 ?side8 A9.out).mono ?_);(case side1=>exact zC aj.out (by repeat(first|(with_reducible first|exact HB.out|apply below_alloc|apply pw_below_drewN|apply below_drew1|refine below_set ?_ F.out|refine below_set ?_ J.out)|exact HB.out)));(case side2=>exact ak.out);(case side3=>exact zC al.out (by repeat(first|(with_reducible first|exact HB.out|apply below_alloc|apply pw_below_drewN|apply below_drew1|refine below_set ?_ F.out|refine below_set ?_ J.out)|exact HB.out)));(case side4=>exact am.out);(case side5=>exact zC au.out (by repeat(first|(with_reducible first|exact HB.out|apply below_alloc|apply pw_below_drewN|apply below_drew1|refine below_set ?_ F.out|refine below_set ?_ J.out)|exact HB.out)));(case side6=>exact av.out);(case side7=>exact zC aw.out (by repeat(first|(with_reducible first|exact HB.out|apply below_alloc|apply pw_below_drewN|apply below_drew1|refine below_set ?_ F.out|refine below_set ?_ J.out)|exact HB.out)));(case side8=>exact ax.out);rintro e bF ⟨rfl,hb⟩;have z:=zM (blk_below (g:=gb403) (o:= .cells #[.string ((rd_T107 l0 a).f0),.slice s ((rd_T107 l0 a).f1).length u,.slice v ((rd_T107 l0 a).f2).length x,.string ((rd_T107 l0 a).f3)] 107 (0,0)) (by(with_reducible repeat(first|refine blk_drewN ?_ _|refine blk_drew ?_|refine blk_alloc ?_ _));refine blk_far ?_ D.out _;(with_reducible repeat(first|refine blk_drewN ?_ _|refine blk_drew ?_|refine blk_alloc ?_ _));refine blk_far ?_ D.out _;(with_reducible repeat(first|refine blk_drewN ?_ _|refine blk_drew ?_|refine blk_alloc ?_ _));refine blk_far ?_ D.out _;(with_reducible repeat(first|refine blk_drewN ?_ _|refine blk_drew ?_|refine blk_alloc ?_ _));refine blk_far ?_ D.out _;exact sT l.out) hb);have A:=zM (blk_below (g:=P) (o:= .cells #[.string ((rd_T107 l1 a).f0),.slice an ((rd_T107 l1 a).f1).length ao,.slice ap ((rd_T107 l1 a).f2).length aq,.string ((rd_T107 l1 a).f3)] 107 (0,0)) (by exact sP4 (sT I.out)) hb);have B:=sB HB hb;clear l;clear I;clear HB;have l:=z;have I:=A;have HB:=B;clear z A B;(try clear hb)))
 go_ret
 exact⟨sq,sb⟩)
 rw[if_neg c8]at H
 exact absurd H (by simp))
 rw[if_neg c7]at H
 exact absurd H (by simp))
 rw[if_neg c6]at H
 exact absurd H (by simp))
 rw[if_neg Q]at H
 have c5b0:=zF Q
 clear Q
 obtain rfl:=zI H
 go_wp2
 go_ret
 exact⟨sq,sb⟩)))
 rw[if_neg y]at H
 have c4b0:((l0.length:Int)==(l1.length:Int))=false:=zN y
 have c4b1:((l0.length:Int) !=(l1.length:Int))=true:=zX y
 have c4b2:(l0.length==l1.length)=false:=by first|simpa using y|(simp at y ⊢;omega)
 obtain rfl:=zI H
 go_enter Try.func94,Try.ntmps94
 go_wp2
 go_ret
 exact⟨sq,sb⟩
end
end Go.Proofs.Ytnneadpahjkhgaa.PFnExactSameMemory
