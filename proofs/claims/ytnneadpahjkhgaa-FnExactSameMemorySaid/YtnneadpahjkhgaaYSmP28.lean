/- Printed functions: impl_File__impl_sameFile, impl_SameConsole. -/
import Derived.Test.YtnneadpahjkhgaaYSmP0
import Derived.Test.YtnneadpahjkhgaaYSmP24
namespace Go.Proofs.Ytnneadpahjkhgaa.PFnExactSameMemory
open Go.RowKit Go.Proofs.YtnneadpahjkhgaaG Go.Proofs.YtnneadpahjkhgaaW.PrintWords Go.Proofs.YtnneadpahjkhgaaW.PrintLast Go.Proofs.YtnneadpahjkhgaaW.PrintMore
attribute [local go_sem] max2_int min2_int max_two min_two max_three min_three max_four min_four
set_option linter.unusedVariables false
set_option linter.unusedSimpArgs false
def impl_File__impl_sameFile.l0 : Nat → List (S87) → List (S87) → Int → Int → Option (Bool)
 |0,_,_,_,_=>none
 |k+1,x1,x15,x16,x17=>if x17<x16 then(if 0≤x17 then(if x17<(x15.length:Int)then(if x17<(x1.length:Int)then((impl_sameFile.f k ((rd_T87 x15 x17).f0) ((rd_T87 x15 x17).f1) ((rd_T87 x15 x17).f2) ((rd_T87 x15 x17).f3) ((rd_T87 x1 x17).f0) ((rd_T87 x1 x17).f1) ((rd_T87 x1 x17).f2) ((rd_T87 x1 x17).f3)).bind fun t430=>(if t430=true then(impl_File__impl_sameFile.l0 k x1 x15 x16 (wrap64 (x17+1)))else(some false)))else(none))else(none))else(none))else(some true)
def impl_File__impl_sameFile.f (k:Nat) (l0:List (S87)) (l1:List (S87)):Option (Bool):=if(l0.length:Int)=(l1.length:Int)then(impl_File__impl_sameFile.l0 k l1 l0 (l0.length:Int) 0)else(some false)
set_option maxHeartbeats 8000000 in
set_option maxRecDepth 100000 in
theorem impl_File__impl_sameFile.calls (k:Nat) (A0:Option Addr) (c0:Nat) (l0:List (S87)) (A1:Option Addr) (c1:Nat) (l1:List (S87)) (r:Bool) (w:World) (hr0:Kd.C k87 w A0 l0.length l0) (hc0:l0.length≤c0) (hr1:Kd.C k87 w A1 l1.length l1) (hc1:l1.length≤c1) (h:impl_File__impl_sameFile.f k l0 l1=some r):
  Calls Try.prog 46 #[.slice A0 l0.length c0,.slice A1 l1.length c1,.func (.func 47) #[] #[]] w fun e w'=>e= .returned (.bool r)∧Below w.heap.size w w':=by
 have au:=Try.underlying87
 have al:=zM hr0
 have av:=zM hc0
 clear hr0 hc0
 have am:=zM hr1
 have aw:=zM hc1
 clear hr1 hc1
 have HB:=zM (Below.refl w.heap.size w)
 have H:(if(l0.length:Int)=(l1.length:Int)then(impl_File__impl_sameFile.l0 k l1 l0 (l0.length:Int) 0)else(some false))=some r:=h
 clear h
 by_cases v:(l0.length:Int)=(l1.length:Int)
 ·(
 rw[if_pos v]at H
 have c4b0:((l0.length:Int)==(l1.length:Int))=true:=zE v
 have c4b1:((l0.length:Int) !=(l1.length:Int))=false:=zY v
 have c4b2:(l0.length==l1.length)=true:=by first|simpa using v|(simp at v ⊢;omega)
 clear v
 have H':=zM H
 clear H
 go_enter Try.func46,Try.ntmps46
 go_wp2
 go_loopg [17] k (fun kq ao w'=>∃(a:Int),ao= .int .i64 a∧Aside0 (impl_File__impl_sameFile.l0 kq l1 l0 (l0.length:Int) a=some r)∧Aside0 (kq≤k)∧Aside0 (Below w.heap.size w w'))
 case atStart=>exact⟨(0),sr,H',⟨Nat.le_refl _⟩,⟨sb⟩⟩
 case round=>(
 clear H'
 try clear c1
 try clear v
 try clear c4b0
 try clear c4b1
 try clear c4b2
 obtain⟨a,rfl,HA,an,HB⟩:=hrel
 cases gk with
 |zero=>exact absurd HA.out (by simp[impl_File__impl_sameFile.l0])
 |succ k1=>(
 have H:=HA.out
 clear HA
 simp only[impl_File__impl_sameFile.l0]at H
 by_cases L:a<(l0.length:Int)
 ·(
 rw[if_pos L]at H
 have c5b0:=zT L
 clear L
 by_cases c6:0≤a
 ·(
 rw[if_pos c6]at H
 have c6b0:=zT c6
 clear c6
 by_cases c7:a<(l0.length:Int)
 ·(
 rw[if_pos c7]at H
 have c7b0:=zT c7
 clear c7
 by_cases c8:a<(l1.length:Int)
 ·(
 rw[if_pos c8]at H
 have c8b0:=zT c8
 clear c8
 obtain⟨ap,A9,H⟩:=sO H
 by_cases ab:ap=true
 ·(
 subst ab
 rewrite[if_pos rfl]at H
 have H':=zM H
 clear H
 have F:0≤(a:Int):=zO (by first|(with_reducible assumption)|assumption)
 have G:a<(l0.length:Int):=zO (by first|(with_reducible assumption)|assumption)
 obtain⟨aq,s,u,ac,M,O,P,Q,R,S⟩:=at_T87 al.out a F G
 cases ac
 replace M:=sX HB M
 replace O:=sX HB O
 replace P:=sX HB P
 replace Q:=sX HB Q
 have ad:=zM S
 have ae:=zM R
 clear S R
 replace F:=eq_true F
 replace G:=eq_true G
 go_wp2_with (first|((with_reducible refine gate_dst (N:=8) rfl ?_);refine sV (N:=8) (cs:= #[.string (⟨#[]⟩:ByteArray),.slice none 0 0,.int .i64 0,.int .i64 0]) (t:=87) ?_;intro gb427 hg ax hbox hb;have l:=zM (hbox);have B:=sG HB hg;have T:=sG HB hg;replace HB:=sB HB hb;clear hb hbox hg;obtain⟨ay,az,aA,aB,aC,aD,aE,aF⟩:=cells4 l.out;have I:0≤(a:Int):=zO (by first|(with_reducible assumption)|assumption);have J:a<(l1.length:Int):=zO (by first|(with_reducible assumption)|assumption);obtain⟨D,af,ag,ah,b,m,n,q,U,V⟩:=at_T87 am.out a I J;cases ah;have c:D.block≠gb427:=Nat.ne_of_lt (Nat.lt_of_lt_of_le (by have:=zL _ _ b;first|rwa [add_block]at this|exact this) B.out);have d:D.block≠gb427:=Nat.ne_of_lt (Nat.lt_of_lt_of_le (by have:=zL _ _ b;first|rwa [add_block]at this|exact this) B.out);have i:D.block≠gb427:=Nat.ne_of_lt (Nat.lt_of_lt_of_le (by have:=zL _ _ b;first|rwa [add_block]at this|exact this) B.out);have j:D.block≠gb427:=Nat.ne_of_lt (Nat.lt_of_lt_of_le (by have:=zL _ _ b;first|rwa [add_block]at this|exact this) B.out);replace b:=sX HB b;replace m:=sX HB m;replace n:=sX HB n;replace q:=sX HB q;have ai:=zM V;have aj:=zM U;clear V U;replace b:=(cell_far (p:=⟨gb427,0,none⟩) (by first|(rw[add_block];exact c)|(show(Addr.add _ _).block≠_;rw[add_block];exact c)|exact c) (.string ((rd_T87 l0 a).f0))).trans b;replace m:=(cell_far (p:=⟨gb427,0,none⟩) (by first|(rw[add_block];exact c)|(show(Addr.add _ _).block≠_;rw[add_block];exact c)|exact c) (.string ((rd_T87 l0 a).f0))).trans m;replace n:=(cell_far (p:=⟨gb427,0,none⟩) (by first|(rw[add_block];exact c)|(show(Addr.add _ _).block≠_;rw[add_block];exact c)|exact c) (.string ((rd_T87 l0 a).f0))).trans n;replace q:=(cell_far (p:=⟨gb427,0,none⟩) (by first|(rw[add_block];exact c)|(show(Addr.add _ _).block≠_;rw[add_block];exact c)|exact c) (.string ((rd_T87 l0 a).f0))).trans q;replace b:=(cell_far (p:=⟨gb427,1,none⟩) (by first|(rw[add_block];exact d)|(show(Addr.add _ _).block≠_;rw[add_block];exact d)|exact d) (.slice s ((rd_T87 l0 a).f1).length u)).trans b;replace m:=(cell_far (p:=⟨gb427,1,none⟩) (by first|(rw[add_block];exact d)|(show(Addr.add _ _).block≠_;rw[add_block];exact d)|exact d) (.slice s ((rd_T87 l0 a).f1).length u)).trans m;replace n:=(cell_far (p:=⟨gb427,1,none⟩) (by first|(rw[add_block];exact d)|(show(Addr.add _ _).block≠_;rw[add_block];exact d)|exact d) (.slice s ((rd_T87 l0 a).f1).length u)).trans n;replace q:=(cell_far (p:=⟨gb427,1,none⟩) (by first|(rw[add_block];exact d)|(show(Addr.add _ _).block≠_;rw[add_block];exact d)|exact d) (.slice s ((rd_T87 l0 a).f1).length u)).trans q;replace b:=(cell_far (p:=⟨gb427,2,none⟩) (by first|(rw[add_block];exact i)|(show(Addr.add _ _).block≠_;rw[add_block];exact i)|exact i) (.int .i64 ((rd_T87 l0 a).f2))).trans b;replace m:=(cell_far (p:=⟨gb427,2,none⟩) (by first|(rw[add_block];exact i)|(show(Addr.add _ _).block≠_;rw[add_block];exact i)|exact i) (.int .i64 ((rd_T87 l0 a).f2))).trans m;replace n:=(cell_far (p:=⟨gb427,2,none⟩) (by first|(rw[add_block];exact i)|(show(Addr.add _ _).block≠_;rw[add_block];exact i)|exact i) (.int .i64 ((rd_T87 l0 a).f2))).trans n;replace q:=(cell_far (p:=⟨gb427,2,none⟩) (by first|(rw[add_block];exact i)|(show(Addr.add _ _).block≠_;rw[add_block];exact i)|exact i) (.int .i64 ((rd_T87 l0 a).f2))).trans q;replace b:=(cell_far (p:=⟨gb427,3,none⟩) (by first|(rw[add_block];exact j)|(show(Addr.add _ _).block≠_;rw[add_block];exact j)|exact j) (.int .i64 ((rd_T87 l0 a).f3))).trans b;replace m:=(cell_far (p:=⟨gb427,3,none⟩) (by first|(rw[add_block];exact j)|(show(Addr.add _ _).block≠_;rw[add_block];exact j)|exact j) (.int .i64 ((rd_T87 l0 a).f3))).trans m;replace n:=(cell_far (p:=⟨gb427,3,none⟩) (by first|(rw[add_block];exact j)|(show(Addr.add _ _).block≠_;rw[add_block];exact j)|exact j) (.int .i64 ((rd_T87 l0 a).f3))).trans n;replace q:=(cell_far (p:=⟨gb427,3,none⟩) (by first|(rw[add_block];exact j)|(show(Addr.add _ _).block≠_;rw[add_block];exact j)|exact j) (.int .i64 ((rd_T87 l0 a).f3))).trans q;clear c;clear d;clear i;clear j;replace I:=eq_true I;replace J:=eq_true J)|((with_reducible refine gate_dst (N:=9) rfl ?_);refine sV (N:=9) (cs:= #[.string (⟨#[]⟩:ByteArray),.slice none 0 0,.int .i64 0,.int .i64 0]) (t:=87) ?_;intro K hg aG hbox hb;have x:=zM (blk_below (g:=gb427) (o:= .cells #[.string ((rd_T87 l0 a).f0),.slice s ((rd_T87 l0 a).f1).length u,.int .i64 ((rd_T87 l0 a).f2),.int .i64 ((rd_T87 l0 a).f3)] 87 (0,0)) (by exact sP4 (sT l.out)) hb);have y:=sB HB hb;have z:=zM (hbox);have W:=sG HB hg;have X:=sG HB hg;have Y:=zM ((by rw[hg];exact Nat.ne_of_lt (blk_lt (g:=gb427) (o:= .cells #[.string ((rd_T87 l0 a).f0),.slice s ((rd_T87 l0 a).f1).length u,.int .i64 ((rd_T87 l0 a).f2),.int .i64 ((rd_T87 l0 a).f3)] 87 (0,0)) (by exact sP4 (sT l.out))):gb427≠K));have Z:=zM ((by rw[hg];exact Nat.ne_of_gt (blk_lt (g:=gb427) (o:= .cells #[.string ((rd_T87 l0 a).f0),.slice s ((rd_T87 l0 a).f1).length u,.int .i64 ((rd_T87 l0 a).f2),.int .i64 ((rd_T87 l0 a).f3)] 87 (0,0)) (by exact sP4 (sT l.out))):K≠gb427));clear l;clear HB;have l:=x;have HB:=y;have E:=z;have ar:=W;have aa:=X;have A:=Y;have ak:=Z;clear x y z W X Y Z;clear hb hbox hg;have aH:=ak.out;have aI:=A.out;obtain⟨aJ,aK,aL,aM,aN,aO,aP,aQ⟩:=cells4 E.out;obtain⟨aR,aS,aT,aU,aV,aW,aX,aY⟩:=cells4 l.out)|(go_at_call 47;(with_reducible refine(impl_sameFile.calls k1 ((rd_T87 l0 a).f0) _ _ ((rd_T87 l0 a).f1) ((rd_T87 l0 a).f2) ((rd_T87 l0 a).f3) ((rd_T87 l1 a).f0) _ _ ((rd_T87 l1 a).f1) ((rd_T87 l1 a).f2) ((rd_T87 l1 a).f3) true _ ?side1 ?side2 ?side3 ?side4 A9.out).mono ?_);(case side1=>exact zC ad.out (by repeat(first|(with_reducible first|exact HB.out|apply below_alloc|apply pw_below_drewN|apply below_drew1|refine below_set ?_ T.out|refine below_set ?_ aa.out)|exact HB.out)));(case side2=>exact ae.out);(case side3=>exact zC ai.out (by repeat(first|(with_reducible first|exact HB.out|apply below_alloc|apply pw_below_drewN|apply below_drew1|refine below_set ?_ T.out|refine below_set ?_ aa.out)|exact HB.out)));(case side4=>exact aj.out);rintro e aZ ⟨rfl,hb⟩;have x:=zM (blk_below (g:=gb427) (o:= .cells #[.string ((rd_T87 l0 a).f0),.slice s ((rd_T87 l0 a).f1).length u,.int .i64 ((rd_T87 l0 a).f2),.int .i64 ((rd_T87 l0 a).f3)] 87 (0,0)) (by(with_reducible repeat(first|refine blk_drewN ?_ _|refine blk_drew ?_|refine blk_alloc ?_ _));refine blk_far ?_ A.out _;(with_reducible repeat(first|refine blk_drewN ?_ _|refine blk_drew ?_|refine blk_alloc ?_ _));refine blk_far ?_ A.out _;(with_reducible repeat(first|refine blk_drewN ?_ _|refine blk_drew ?_|refine blk_alloc ?_ _));refine blk_far ?_ A.out _;(with_reducible repeat(first|refine blk_drewN ?_ _|refine blk_drew ?_|refine blk_alloc ?_ _));refine blk_far ?_ A.out _;exact sT l.out) hb);have y:=zM (blk_below (g:=K) (o:= .cells #[.string ((rd_T87 l1 a).f0),.slice af ((rd_T87 l1 a).f1).length ag,.int .i64 ((rd_T87 l1 a).f2),.int .i64 ((rd_T87 l1 a).f3)] 87 (0,0)) (by exact sP4 (sT E.out)) hb);have z:=sB HB hb;clear l;clear E;clear HB;have l:=x;have E:=y;have HB:=z;clear x y z;(try clear hb)))
 go_roundg k1
 case measure=>have:=an.out;omega
 case rel=>exact⟨(wrap64 (a+1)),sr,H',⟨by have:=an.out;omega⟩,⟨sb⟩⟩)
 replace ab:=zB ab
 subst ab
 rewrite[if_neg zQ]at H
 obtain rfl:=zI H
 have F:0≤(a:Int):=zO (by first|(with_reducible assumption)|assumption)
 have G:a<(l0.length:Int):=zO (by first|(with_reducible assumption)|assumption)
 obtain⟨aq,s,u,ac,M,O,P,Q,R,S⟩:=at_T87 al.out a F G
 cases ac
 replace M:=sX HB M
 replace O:=sX HB O
 replace P:=sX HB P
 replace Q:=sX HB Q
 have ad:=zM S
 have ae:=zM R
 clear S R
 replace F:=eq_true F
 replace G:=eq_true G
 go_wp2_with (first|((with_reducible refine gate_dst (N:=8) rfl ?_);refine sV (N:=8) (cs:= #[.string (⟨#[]⟩:ByteArray),.slice none 0 0,.int .i64 0,.int .i64 0]) (t:=87) ?_;intro gb427 hg a0 hbox hb;have l:=zM (hbox);have B:=sG HB hg;have T:=sG HB hg;replace HB:=sB HB hb;clear hb hbox hg;obtain⟨a1,a2,a3,a4,a5,a6,a7,a8⟩:=cells4 l.out;have I:0≤(a:Int):=zO (by first|(with_reducible assumption)|assumption);have J:a<(l1.length:Int):=zO (by first|(with_reducible assumption)|assumption);obtain⟨D,af,ag,ah,b,m,n,q,U,V⟩:=at_T87 am.out a I J;cases ah;have c:D.block≠gb427:=Nat.ne_of_lt (Nat.lt_of_lt_of_le (by have:=zL _ _ b;first|rwa [add_block]at this|exact this) B.out);have d:D.block≠gb427:=Nat.ne_of_lt (Nat.lt_of_lt_of_le (by have:=zL _ _ b;first|rwa [add_block]at this|exact this) B.out);have i:D.block≠gb427:=Nat.ne_of_lt (Nat.lt_of_lt_of_le (by have:=zL _ _ b;first|rwa [add_block]at this|exact this) B.out);have j:D.block≠gb427:=Nat.ne_of_lt (Nat.lt_of_lt_of_le (by have:=zL _ _ b;first|rwa [add_block]at this|exact this) B.out);replace b:=sX HB b;replace m:=sX HB m;replace n:=sX HB n;replace q:=sX HB q;have ai:=zM V;have aj:=zM U;clear V U;replace b:=(cell_far (p:=⟨gb427,0,none⟩) (by first|(rw[add_block];exact c)|(show(Addr.add _ _).block≠_;rw[add_block];exact c)|exact c) (.string ((rd_T87 l0 a).f0))).trans b;replace m:=(cell_far (p:=⟨gb427,0,none⟩) (by first|(rw[add_block];exact c)|(show(Addr.add _ _).block≠_;rw[add_block];exact c)|exact c) (.string ((rd_T87 l0 a).f0))).trans m;replace n:=(cell_far (p:=⟨gb427,0,none⟩) (by first|(rw[add_block];exact c)|(show(Addr.add _ _).block≠_;rw[add_block];exact c)|exact c) (.string ((rd_T87 l0 a).f0))).trans n;replace q:=(cell_far (p:=⟨gb427,0,none⟩) (by first|(rw[add_block];exact c)|(show(Addr.add _ _).block≠_;rw[add_block];exact c)|exact c) (.string ((rd_T87 l0 a).f0))).trans q;replace b:=(cell_far (p:=⟨gb427,1,none⟩) (by first|(rw[add_block];exact d)|(show(Addr.add _ _).block≠_;rw[add_block];exact d)|exact d) (.slice s ((rd_T87 l0 a).f1).length u)).trans b;replace m:=(cell_far (p:=⟨gb427,1,none⟩) (by first|(rw[add_block];exact d)|(show(Addr.add _ _).block≠_;rw[add_block];exact d)|exact d) (.slice s ((rd_T87 l0 a).f1).length u)).trans m;replace n:=(cell_far (p:=⟨gb427,1,none⟩) (by first|(rw[add_block];exact d)|(show(Addr.add _ _).block≠_;rw[add_block];exact d)|exact d) (.slice s ((rd_T87 l0 a).f1).length u)).trans n;replace q:=(cell_far (p:=⟨gb427,1,none⟩) (by first|(rw[add_block];exact d)|(show(Addr.add _ _).block≠_;rw[add_block];exact d)|exact d) (.slice s ((rd_T87 l0 a).f1).length u)).trans q;replace b:=(cell_far (p:=⟨gb427,2,none⟩) (by first|(rw[add_block];exact i)|(show(Addr.add _ _).block≠_;rw[add_block];exact i)|exact i) (.int .i64 ((rd_T87 l0 a).f2))).trans b;replace m:=(cell_far (p:=⟨gb427,2,none⟩) (by first|(rw[add_block];exact i)|(show(Addr.add _ _).block≠_;rw[add_block];exact i)|exact i) (.int .i64 ((rd_T87 l0 a).f2))).trans m;replace n:=(cell_far (p:=⟨gb427,2,none⟩) (by first|(rw[add_block];exact i)|(show(Addr.add _ _).block≠_;rw[add_block];exact i)|exact i) (.int .i64 ((rd_T87 l0 a).f2))).trans n;replace q:=(cell_far (p:=⟨gb427,2,none⟩) (by first|(rw[add_block];exact i)|(show(Addr.add _ _).block≠_;rw[add_block];exact i)|exact i) (.int .i64 ((rd_T87 l0 a).f2))).trans q;replace b:=(cell_far (p:=⟨gb427,3,none⟩) (by first|(rw[add_block];exact j)|(show(Addr.add _ _).block≠_;rw[add_block];exact j)|exact j) (.int .i64 ((rd_T87 l0 a).f3))).trans b;replace m:=(cell_far (p:=⟨gb427,3,none⟩) (by first|(rw[add_block];exact j)|(show(Addr.add _ _).block≠_;rw[add_block];exact j)|exact j) (.int .i64 ((rd_T87 l0 a).f3))).trans m;replace n:=(cell_far (p:=⟨gb427,3,none⟩) (by first|(rw[add_block];exact j)|(show(Addr.add _ _).block≠_;rw[add_block];exact j)|exact j) (.int .i64 ((rd_T87 l0 a).f3))).trans n;replace q:=(cell_far (p:=⟨gb427,3,none⟩) (by first|(rw[add_block];exact j)|(show(Addr.add _ _).block≠_;rw[add_block];exact j)|exact j) (.int .i64 ((rd_T87 l0 a).f3))).trans q;clear c;clear d;clear i;clear j;replace I:=eq_true I;replace J:=eq_true J)|((with_reducible refine gate_dst (N:=9) rfl ?_);refine sV (N:=9) (cs:= #[.string (⟨#[]⟩:ByteArray),.slice none 0 0,.int .i64 0,.int .i64 0]) (t:=87) ?_;intro K hg a9 hbox hb;have x:=zM (blk_below (g:=gb427) (o:= .cells #[.string ((rd_T87 l0 a).f0),.slice s ((rd_T87 l0 a).f1).length u,.int .i64 ((rd_T87 l0 a).f2),.int .i64 ((rd_T87 l0 a).f3)] 87 (0,0)) (by exact sP4 (sT l.out)) hb);have y:=sB HB hb;have z:=zM (hbox);have W:=sG HB hg;have X:=sG HB hg;have Y:=zM ((by rw[hg];exact Nat.ne_of_lt (blk_lt (g:=gb427) (o:= .cells #[.string ((rd_T87 l0 a).f0),.slice s ((rd_T87 l0 a).f1).length u,.int .i64 ((rd_T87 l0 a).f2),.int .i64 ((rd_T87 l0 a).f3)] 87 (0,0)) (by exact sP4 (sT l.out))):gb427≠K));have Z:=zM ((by rw[hg];exact Nat.ne_of_gt (blk_lt (g:=gb427) (o:= .cells #[.string ((rd_T87 l0 a).f0),.slice s ((rd_T87 l0 a).f1).length u,.int .i64 ((rd_T87 l0 a).f2),.int .i64 ((rd_T87 l0 a).f3)] 87 (0,0)) (by exact sP4 (sT l.out))):K≠gb427));clear l;clear HB;have l:=x;have HB:=y;have E:=z;have ar:=W;have aa:=X;have A:=Y;have ak:=Z;clear x y z W X Y Z;clear hb hbox hg;have ba:=ak.out;have bb:=A.out;obtain⟨bc,bd,be,bf,bg,bh,bi,bj⟩:=cells4 E.out;obtain⟨bk,bl,bm,bn,bo,bp,bq,br⟩:=cells4 l.out)|(go_at_call 47;(with_reducible refine(impl_sameFile.calls k1 ((rd_T87 l0 a).f0) _ _ ((rd_T87 l0 a).f1) ((rd_T87 l0 a).f2) ((rd_T87 l0 a).f3) ((rd_T87 l1 a).f0) _ _ ((rd_T87 l1 a).f1) ((rd_T87 l1 a).f2) ((rd_T87 l1 a).f3) false _ ?side1 ?side2 ?side3 ?side4 A9.out).mono ?_);(case side1=>exact zC ad.out (by repeat(first|(with_reducible first|exact HB.out|apply below_alloc|apply pw_below_drewN|apply below_drew1|refine below_set ?_ T.out|refine below_set ?_ aa.out)|exact HB.out)));(case side2=>exact ae.out);(case side3=>exact zC ai.out (by repeat(first|(with_reducible first|exact HB.out|apply below_alloc|apply pw_below_drewN|apply below_drew1|refine below_set ?_ T.out|refine below_set ?_ aa.out)|exact HB.out)));(case side4=>exact aj.out);rintro e bs ⟨rfl,hb⟩;have x:=zM (blk_below (g:=gb427) (o:= .cells #[.string ((rd_T87 l0 a).f0),.slice s ((rd_T87 l0 a).f1).length u,.int .i64 ((rd_T87 l0 a).f2),.int .i64 ((rd_T87 l0 a).f3)] 87 (0,0)) (by(with_reducible repeat(first|refine blk_drewN ?_ _|refine blk_drew ?_|refine blk_alloc ?_ _));refine blk_far ?_ A.out _;(with_reducible repeat(first|refine blk_drewN ?_ _|refine blk_drew ?_|refine blk_alloc ?_ _));refine blk_far ?_ A.out _;(with_reducible repeat(first|refine blk_drewN ?_ _|refine blk_drew ?_|refine blk_alloc ?_ _));refine blk_far ?_ A.out _;(with_reducible repeat(first|refine blk_drewN ?_ _|refine blk_drew ?_|refine blk_alloc ?_ _));refine blk_far ?_ A.out _;exact sT l.out) hb);have y:=zM (blk_below (g:=K) (o:= .cells #[.string ((rd_T87 l1 a).f0),.slice af ((rd_T87 l1 a).f1).length ag,.int .i64 ((rd_T87 l1 a).f2),.int .i64 ((rd_T87 l1 a).f3)] 87 (0,0)) (by exact sP4 (sT E.out)) hb);have z:=sB HB hb;clear l;clear E;clear HB;have l:=x;have E:=y;have HB:=z;clear x y z;(try clear hb)))
 go_ret
 exact⟨sq,sb⟩)
 rw[if_neg c8]at H
 exact absurd H (by simp))
 rw[if_neg c7]at H
 exact absurd H (by simp))
 rw[if_neg c6]at H
 exact absurd H (by simp))
 rw[if_neg L]at H
 have c5b0:=zF L
 clear L
 obtain rfl:=zI H
 go_wp2
 go_ret
 exact⟨sq,sb⟩)))
 rw[if_neg v]at H
 have c4b0:((l0.length:Int)==(l1.length:Int))=false:=zN v
 have c4b1:((l0.length:Int) !=(l1.length:Int))=true:=zX v
 have c4b2:(l0.length==l1.length)=false:=by first|simpa using v|(simp at v ⊢;omega)
 obtain rfl:=zI H
 go_enter Try.func46,Try.ntmps46
 go_wp2
 go_ret
 exact⟨sq,sb⟩
def impl_SameConsole.j0 : Nat → Bool → List ByteArray → Int → List ByteArray → List (S87) → List ByteArray → List ByteArray → Int → List ByteArray → List (S87) → List ByteArray → Option (Bool)
 |0,_,_,_,_,_,_,_,_,_,_,_=>none
 |k+1,x5,x432000,x432001,x432002,x432003,x432004,x433000,x433001,x433002,x433003,x433004=>if x432001=x433001 then(if x5=true then((impl_File__impl_sameFile.f k x432003 x433003).bind fun t436=>(some t436))else(some false))else(some false)
def impl_SameConsole.f (k:Nat) (l0_0:List ByteArray) (a0_1:Int) (l0_2:List ByteArray) (l0_3:List (S87)) (l0_4:List ByteArray) (l1_0:List ByteArray) (a1_1:Int) (l1_2:List ByteArray) (l1_3:List (S87)) (l1_4:List ByteArray):Option (Bool):=(slices_Equal_string_string.f k l0_0 l1_0).bind fun t433=>(if t433=true then((slices_Equal_string_string.f k l0_2 l1_2).bind fun t434=>(if t434=true then((slices_Equal_string_string.f k l0_4 l1_4).bind fun t435=>(impl_SameConsole.j0 k t435 l0_0 a0_1 l0_2 l0_3 l0_4 l1_0 a1_1 l1_2 l1_3 l1_4))else(impl_SameConsole.j0 k false l0_0 a0_1 l0_2 l0_3 l0_4 l1_0 a1_1 l1_2 l1_3 l1_4)))else(impl_SameConsole.j0 k false l0_0 a0_1 l0_2 l0_3 l0_4 l1_0 a1_1 l1_2 l1_3 l1_4))
set_option maxHeartbeats 8000000 in
set_option maxRecDepth 100000 in
theorem impl_SameConsole.calls (k:Nat) (A0_0:Option Addr) (c0_0:Nat) (l0_0:List ByteArray) (a0_1:Int) (A0_2:Option Addr) (c0_2:Nat) (l0_2:List ByteArray) (A0_3:Option Addr) (c0_3:Nat) (l0_3:List (S87)) (A0_4:Option Addr) (c0_4:Nat) (l0_4:List ByteArray) (A1_0:Option Addr) (c1_0:Nat) (l1_0:List ByteArray) (a1_1:Int) (A1_2:Option Addr) (c1_2:Nat) (l1_2:List ByteArray) (A1_3:Option Addr) (c1_3:Nat) (l1_3:List (S87)) (A1_4:Option Addr) (c1_4:Nat) (l1_4:List ByteArray) (r:Bool) (w:World) (hr0_0:Kd.C Kd.string w A0_0 l0_0.length l0_0) (hc0_0:l0_0.length≤c0_0) (hr0_2:Kd.C Kd.string w A0_2 l0_2.length l0_2) (hc0_2:l0_2.length≤c0_2) (hr0_3:Kd.C k87 w A0_3 l0_3.length l0_3) (hc0_3:l0_3.length≤c0_3) (hr0_4:Kd.C Kd.string w A0_4 l0_4.length l0_4) (hc0_4:l0_4.length≤c0_4) (hr1_0:Kd.C Kd.string w A1_0 l1_0.length l1_0) (hc1_0:l1_0.length≤c1_0) (hr1_2:Kd.C Kd.string w A1_2 l1_2.length l1_2) (hc1_2:l1_2.length≤c1_2) (hr1_3:Kd.C k87 w A1_3 l1_3.length l1_3) (hc1_3:l1_3.length≤c1_3) (hr1_4:Kd.C Kd.string w A1_4 l1_4.length l1_4) (hc1_4:l1_4.length≤c1_4) (h:impl_SameConsole.f k l0_0 a0_1 l0_2 l0_3 l0_4 l1_0 a1_1 l1_2 l1_3 l1_4=some r):
  Calls Try.prog 16 #[.agg #[.slice A0_0 l0_0.length c0_0,.int .i64 a0_1,.slice A0_2 l0_2.length c0_2,.slice A0_3 l0_3.length c0_3,.slice A0_4 l0_4.length c0_4],.agg #[.slice A1_0 l1_0.length c1_0,.int .i64 a1_1,.slice A1_2 l1_2.length c1_2,.slice A1_3 l1_3.length c1_3,.slice A1_4 l1_4.length c1_4]] w fun e w'=>e= .returned (.bool r)∧Below w.heap.size w w':=by
 have aa:=Try.underlying41
 have v:=zM hr0_0
 have x:=zM hc0_0
 clear hr0_0 hc0_0
 have F:=zM hr0_2
 have G:=zM hc0_2
 clear hr0_2 hc0_2
 have L:=zM hr0_3
 have M:=zM hc0_3
 clear hr0_3 hc0_3
 have O:=zM hr0_4
 have P:=zM hc0_4
 clear hr0_4 hc0_4
 have y:=zM hr1_0
 have z:=zM hc1_0
 clear hr1_0 hc1_0
 have I:=zM hr1_2
 have J:=zM hc1_2
 clear hr1_2 hc1_2
 have Q:=zM hr1_3
 have R:=zM hc1_3
 clear hr1_3 hc1_3
 have S:=zM hr1_4
 have T:=zM hc1_4
 clear hr1_4 hc1_4
 have HB:=zM (Below.refl w.heap.size w)
 have H:((slices_Equal_string_string.f k l0_0 l1_0).bind fun A=>(if A=true then((slices_Equal_string_string.f k l0_2 l1_2).bind fun B=>(if B=true then((slices_Equal_string_string.f k l0_4 l1_4).bind fun m=>(impl_SameConsole.j0 k m l0_0 a0_1 l0_2 l0_3 l0_4 l1_0 a1_1 l1_2 l1_3 l1_4))else(impl_SameConsole.j0 k false l0_0 a0_1 l0_2 l0_3 l0_4 l1_0 a1_1 l1_2 l1_3 l1_4)))else(impl_SameConsole.j0 k false l0_0 a0_1 l0_2 l0_3 l0_4 l1_0 a1_1 l1_2 l1_3 l1_4)))=some r:=h
 clear h
 have D:=zM H
 clear H
 go_enter Try.func16,Try.ntmps16
 go_upto_region 1 with(first|((with_reducible refine gate_dst (N:=2) rfl ?_);refine sV (N:=2) (cs:= #[.slice A0_0 l0_0.length c0_0,.int .i64 a0_1,.slice A0_2 l0_2.length c0_2,.slice A0_3 l0_3.length c0_3,.slice A0_4 l0_4.length c0_4]) (t:=41) ?_;intro U hg w4 hbox hb;have a:=zM (hbox);have ab:=sG HB hg;have d:=sG HB hg;replace HB:=sB HB hb;clear hb hbox hg)|((with_reducible refine gate_dst (N:=3) rfl ?_);refine sV (N:=3) (cs:= #[.slice A1_0 l1_0.length c1_0,.int .i64 a1_1,.slice A1_2 l1_2.length c1_2,.slice A1_3 l1_3.length c1_3,.slice A1_4 l1_4.length c1_4]) (t:=41) ?_;intro V hg w5 hbox hb;have b:=zM (hbox);have ac:=sG HB hg;have i:=sG HB hg;replace HB:=sB HB hb;have j:=sN a hg;have l:=sM a hg;replace a:=sK a hb;clear hb hbox hg))
 (try simp only[zP])
 go_cut [5] (fun W wc=>∃(kq:Nat) (n:Bool),W= .bool n∧Aside0 (impl_SameConsole.j0 kq n l0_0 a0_1 l0_2 l0_3 l0_4 l1_0 a1_1 l1_2 l1_3 l1_4=some r)∧Aside0 (kq≤k)∧Aside0 (wc.heap[U]?=some (.cells #[(.slice A0_0 l0_0.length c0_0),.int .i64 a0_1,(.slice A0_2 l0_2.length c0_2),(.slice A0_3 l0_3.length c0_3),(.slice A0_4 l0_4.length c0_4)] 41 (0,0)))∧Aside0 (wc.heap[V]?=some (.cells #[(.slice A1_0 l1_0.length c1_0),.int .i64 a1_1,(.slice A1_2 l1_2.length c1_2),(.slice A1_3 l1_3.length c1_3),(.slice A1_4 l1_4.length c1_4)] 41 (0,0)))∧Aside0 (Below w.heap.size w wc))
 case first=>(
 have H:=D.out
 clear D
 obtain⟨A,E,H⟩:=sO H
 by_cases q:A=true
 ·(
 subst q
 rewrite[if_pos rfl]at H
 obtain⟨B,K,H⟩:=sO H
 by_cases s:B=true
 ·(
 subst s
 rewrite[if_pos rfl]at H
 obtain⟨m,X,H⟩:=sO H
 have H':=zM H
 clear H
 have ad:=j.out
 have ae:=l.out
 obtain⟨af,ag,ah,ai,aj,ak,al,am,an,ao⟩:=cells5 a.out
 obtain⟨ap,aq,ar,au,av,aw,ax,ay,az,aA⟩:=cells5 b.out
 go_wp2_with (first|((with_reducible refine gate_callee (f:=45) rfl ?_);refine sC (some 10) Try.func45 #[.slice A0_0 l0_0.length c0_0,.slice A1_0 l1_0.length c1_0] (slices_Equal_string_string.calls k _ _ l0_0 _ _ l1_0 true _ ?side1 ?side2 ?side3 ?side4 E.out) ?_;(case side1=>exact sD (zC v.out HB.out));(case side2=>exact x.out);(case side3=>exact sD (zC y.out HB.out));(case side4=>exact z.out);rintro e w' ⟨rfl,⟨nd,rfl⟩⟩;refine⟨_,rfl,?_⟩)|(go_at_call 45;(with_reducible refine(slices_Equal_string_string.calls k _ _ l0_2 _ _ l1_2 true _ ?side1 ?side2 ?side3 ?side4 K.out).mono ?_);(case side1=>exact sD (zC F.out (by repeat(first|(with_reducible first|exact HB.out|apply below_alloc|apply pw_below_drewN|apply below_drew1|refine below_set ?_ d.out|refine below_set ?_ i.out)|exact HB.out))));(case side2=>exact G.out);(case side3=>exact sD (zC I.out (by repeat(first|(with_reducible first|exact HB.out|apply below_alloc|apply pw_below_drewN|apply below_drew1|refine below_set ?_ d.out|refine below_set ?_ i.out)|exact HB.out))));(case side4=>exact J.out);rintro e w' ⟨rfl,⟨nd,rfl⟩⟩)|(go_at_call 45;(with_reducible refine(slices_Equal_string_string.calls k _ _ l0_4 _ _ l1_4 m _ ?side1 ?side2 ?side3 ?side4 X.out).mono ?_);(case side1=>exact sD (zC O.out (by repeat(first|(with_reducible first|exact HB.out|apply below_alloc|apply pw_below_drewN|apply below_drew1|refine below_set ?_ d.out|refine below_set ?_ i.out)|exact HB.out))));(case side2=>exact P.out);(case side3=>exact sD (zC S.out (by repeat(first|(with_reducible first|exact HB.out|apply below_alloc|apply pw_below_drewN|apply below_drew1|refine below_set ?_ d.out|refine below_set ?_ i.out)|exact HB.out))));(case side4=>exact T.out);rintro e w' ⟨rfl,⟨nd,rfl⟩⟩))
 go_meet
 case rel=>exact⟨_,(m),sr,H',⟨by first|omega|exact Nat.le_refl _⟩,⟨by exact sT a.out⟩,⟨by exact sT b.out⟩,⟨sb⟩⟩)
 replace s:=zB s
 subst s
 rewrite[if_neg zQ]at H
 have H':=zM H
 clear H
 have aB:=j.out
 have aC:=l.out
 obtain⟨aD,aE,aF,aG,aH,aI,aJ,aK,aL,aM⟩:=cells5 a.out
 obtain⟨aN,aO,aP,aQ,aR,aS,aT,aU,aV,aW⟩:=cells5 b.out
 go_wp2_with (first|((with_reducible refine gate_callee (f:=45) rfl ?_);refine sC (some 10) Try.func45 #[.slice A0_0 l0_0.length c0_0,.slice A1_0 l1_0.length c1_0] (slices_Equal_string_string.calls k _ _ l0_0 _ _ l1_0 true _ ?side1 ?side2 ?side3 ?side4 E.out) ?_;(case side1=>exact sD (zC v.out HB.out));(case side2=>exact x.out);(case side3=>exact sD (zC y.out HB.out));(case side4=>exact z.out);rintro e w' ⟨rfl,⟨nd,rfl⟩⟩;refine⟨_,rfl,?_⟩)|(go_at_call 45;(with_reducible refine(slices_Equal_string_string.calls k _ _ l0_2 _ _ l1_2 false _ ?side1 ?side2 ?side3 ?side4 K.out).mono ?_);(case side1=>exact sD (zC F.out (by repeat(first|(with_reducible first|exact HB.out|apply below_alloc|apply pw_below_drewN|apply below_drew1|refine below_set ?_ d.out|refine below_set ?_ i.out)|exact HB.out))));(case side2=>exact G.out);(case side3=>exact sD (zC I.out (by repeat(first|(with_reducible first|exact HB.out|apply below_alloc|apply pw_below_drewN|apply below_drew1|refine below_set ?_ d.out|refine below_set ?_ i.out)|exact HB.out))));(case side4=>exact J.out);rintro e w' ⟨rfl,⟨nd,rfl⟩⟩))
 go_meet
 case rel=>exact⟨_,(false),sr,H',⟨by first|omega|exact Nat.le_refl _⟩,⟨by exact sT a.out⟩,⟨by exact sT b.out⟩,⟨sb⟩⟩)
 replace q:=zB q
 subst q
 rewrite[if_neg zQ]at H
 have H':=zM H
 clear H
 have aX:=j.out
 have aY:=l.out
 obtain⟨aZ,a0,a1,a2,a3,a4,a5,a6,a7,a8⟩:=cells5 a.out
 obtain⟨a9,ba,bb,bc,bd,be,bf,bg,bh,bi⟩:=cells5 b.out
 go_wp2_with (first|((with_reducible refine gate_callee (f:=45) rfl ?_);refine sC (some 10) Try.func45 #[.slice A0_0 l0_0.length c0_0,.slice A1_0 l1_0.length c1_0] (slices_Equal_string_string.calls k _ _ l0_0 _ _ l1_0 false _ ?side1 ?side2 ?side3 ?side4 E.out) ?_;(case side1=>exact sD (zC v.out HB.out));(case side2=>exact x.out);(case side3=>exact sD (zC y.out HB.out));(case side4=>exact z.out);rintro e w' ⟨rfl,⟨nd,rfl⟩⟩;refine⟨_,rfl,?_⟩))
 go_meet
 case rel=>exact⟨_,(false),sr,H',⟨by first|omega|exact Nat.le_refl _⟩,⟨by exact sT a.out⟩,⟨by exact sT b.out⟩,⟨sb⟩⟩)
 case rest=>(
 clear D
 obtain⟨kq,n,rfl,HA,bj,a,b,HB⟩:=hcut
 cases kq with
 |zero=>exact absurd HA.out (by simp[impl_SameConsole.j0])
 |succ kj2=>(
 have H:=HA.out
 clear HA
 simp only[impl_SameConsole.j0]at H
 by_cases c:a0_1=a1_1
 ·(
 rw[if_pos c]at H
 have c20b0:(a0_1==a1_1)=true:=zE c
 have c20b1:(a0_1 !=a1_1)=false:=zY c
 clear c
 by_cases u:n=true
 ·(
 subst u
 rewrite[if_pos rfl]at H
 obtain⟨Y,Z,H⟩:=sO H
 obtain rfl:=zI H
 have bk:=j.out
 have bl:=l.out
 obtain⟨bm,bn,bo,bp,bq,br,bs,bt,bu,bv⟩:=cells5 a.out
 obtain⟨bw,bx,bz,bA,bB,bC,bD,bE,bF,bG⟩:=cells5 b.out
 go_wp2_with (first|(go_at_call 46;(with_reducible refine(impl_File__impl_sameFile.calls kj2 _ _ l0_3 _ _ l1_3 Y _ ?side1 ?side2 ?side3 ?side4 Z.out).mono ?_);(case side1=>exact sD (zC L.out HB.out));(case side2=>exact M.out);(case side3=>exact sD (zC Q.out HB.out));(case side4=>exact R.out);rintro e bH ⟨rfl,hb⟩;replace a:=sK a hb;replace b:=sK b hb;replace HB:=sB HB hb;(try clear hb)))
 go_ret
 exact⟨sq,sb⟩)
 replace u:=zB u
 subst u
 rewrite[if_neg zQ]at H
 obtain rfl:=zI H
 have bI:=j.out
 have bJ:=l.out
 obtain⟨bK,bL,bM,bN,bO,bP,bQ,bR,bS,bT⟩:=cells5 a.out
 obtain⟨bU,bV,bW,bX,bY,bZ,b0,b1,b2,b3⟩:=cells5 b.out
 go_wp2
 go_ret
 exact⟨sq,sb⟩)
 rw[if_neg c]at H
 have c20b0:(a0_1==a1_1)=false:=zN c
 have c20b1:(a0_1 !=a1_1)=true:=zX c
 obtain rfl:=zI H
 have b4:=j.out
 have b5:=l.out
 obtain⟨b6,b7,b8,b9,ca,cb,cc,cd,ce,cf⟩:=cells5 a.out
 obtain⟨cg,ch,ci,cj,ck,cl,cm,cn,co,cp⟩:=cells5 b.out
 go_wp2
 go_ret
 exact⟨sq,sb⟩))
end Go.Proofs.Ytnneadpahjkhgaa.PFnExactSameMemory
