/- Printed functions: impl_RecordType__impl_sameType. -/
import Derived.Test.YtnneadpahjkhgaaYSmP0
import Derived.Test.YtnneadpahjkhgaaYSmP24
namespace Go.Proofs.Ytnneadpahjkhgaa.PFnExactSameMemory
open Go.RowKit Go.Proofs.YtnneadpahjkhgaaG Go.Proofs.YtnneadpahjkhgaaW.PrintWords Go.Proofs.YtnneadpahjkhgaaW.PrintLast Go.Proofs.YtnneadpahjkhgaaW.PrintMore
attribute [local go_sem] max2_int min2_int max_two min_two max_three min_three max_four min_four
set_option linter.unusedVariables false
set_option linter.unusedSimpArgs false
def impl_RecordType__impl_sameType.l0 : Nat → List (S109) → List (S109) → Int → Int → Option (Bool)
 |0,_,_,_,_=>none
 |k+1,x1,x15,x16,x17=>if x17<x16 then(if 0≤x17 then(if x17<(x15.length:Int)then(if x17<(x1.length:Int)then((impl_sameType.f k ((rd_T109 x15 x17).f0) ((rd_T109 x15 x17).f1) ((rd_T109 x1 x17).f0) ((rd_T109 x1 x17).f1)).bind fun t414=>(if t414=true then(impl_RecordType__impl_sameType.l0 k x1 x15 x16 (wrap64 (x17+1)))else(some false)))else(none))else(none))else(none))else(some true)
def impl_RecordType__impl_sameType.f (k:Nat) (l0:List (S109)) (l1:List (S109)):Option (Bool):=if(l0.length:Int)=(l1.length:Int)then(impl_RecordType__impl_sameType.l0 k l1 l0 (l0.length:Int) 0)else(some false)
set_option maxHeartbeats 8000000 in
set_option maxRecDepth 100000 in
theorem impl_RecordType__impl_sameType.calls (k:Nat) (A0:Option Addr) (c0:Nat) (l0:List (S109)) (A1:Option Addr) (c1:Nat) (l1:List (S109)) (r:Bool) (w:World) (hr0:Kd.C k109 w A0 l0.length l0) (hc0:l0.length≤c0) (hr1:Kd.C k109 w A1 l1.length l1) (hc1:l1.length≤c1) (h:impl_RecordType__impl_sameType.f k l0 l1=some r):
  Calls Try.prog 96 #[.slice A0 l0.length c0,.slice A1 l1.length c1,.func (.func 97) #[] #[]] w fun e w'=>e= .returned (.bool r)∧Below w.heap.size w w':=by
 have ap:=Try.underlying109
 have ai:=zM hr0
 have aq:=zM hc0
 clear hr0 hc0
 have aj:=zM hr1
 have ar:=zM hc1
 clear hr1 hc1
 have HB:=zM (Below.refl w.heap.size w)
 have H:(if(l0.length:Int)=(l1.length:Int)then(impl_RecordType__impl_sameType.l0 k l1 l0 (l0.length:Int) 0)else(some false))=some r:=h
 clear h
 by_cases n:(l0.length:Int)=(l1.length:Int)
 ·(
 rw[if_pos n]at H
 have c4b0:((l0.length:Int)==(l1.length:Int))=true:=zE n
 have c4b1:((l0.length:Int) !=(l1.length:Int))=false:=zY n
 have c4b2:(l0.length==l1.length)=true:=by first|simpa using n|(simp at n ⊢;omega)
 clear n
 have H':=zM H
 clear H
 go_enter Try.func96,Try.ntmps96
 go_wp2
 go_loopg [17] k (fun kq al w'=>∃(a:Int),al= .int .i64 a∧Aside0 (impl_RecordType__impl_sameType.l0 kq l1 l0 (l0.length:Int) a=some r)∧Aside0 (kq≤k)∧Aside0 (Below w.heap.size w w'))
 case atStart=>exact⟨(0),sr,H',⟨Nat.le_refl _⟩,⟨sb⟩⟩
 case round=>(
 clear H'
 try clear c1
 try clear n
 try clear c4b0
 try clear c4b1
 try clear c4b2
 obtain⟨a,rfl,HA,ak,HB⟩:=hrel
 cases gk with
 |zero=>exact absurd HA.out (by simp[impl_RecordType__impl_sameType.l0])
 |succ k1=>(
 have H:=HA.out
 clear HA
 simp only[impl_RecordType__impl_sameType.l0]at H
 by_cases E:a<(l0.length:Int)
 ·(
 rw[if_pos E]at H
 have c5b0:=zT E
 clear E
 by_cases V:0≤a
 ·(
 rw[if_pos V]at H
 have c6b0:=zT V
 clear V
 by_cases W:a<(l0.length:Int)
 ·(
 rw[if_pos W]at H
 have c7b0:=zT W
 clear W
 by_cases X:a<(l1.length:Int)
 ·(
 rw[if_pos X]at H
 have c8b0:=zT X
 clear X
 obtain⟨am,A9,H⟩:=sO H
 by_cases Y:am=true
 ·(
 subst Y
 rewrite[if_pos rfl]at H
 have H':=zM H
 clear H
 have x:0≤(a:Int):=zO (by first|(with_reducible assumption)|assumption)
 have y:a<(l0.length:Int):=zO (by first|(with_reducible assumption)|assumption)
 obtain⟨an,j,l,Z,F,G,I,J⟩:=at_T109 ai.out a x y
 cases Z
 replace F:=sX HB F
 replace G:=sX HB G
 have aa:=zM J
 have ab:=zM I
 clear J I
 replace x:=eq_true x
 replace y:=eq_true y
 go_wp2_with (first|((with_reducible refine gate_dst (N:=8) rfl ?_);refine sV (N:=8) (cs:= #[.string (⟨#[]⟩:ByteArray),.slice none 0 0]) (t:=109) ?_;intro gb411 hg au hbox hb;have b:=zM (hbox);have K:=sG HB hg;have L:=sG HB hg;replace HB:=sB HB hb;clear hb hbox hg;obtain⟨av,aw,ax,ay⟩:=cells2 b.out;have z:0≤(a:Int):=zO (by first|(with_reducible assumption)|assumption);have A:a<(l1.length:Int):=zO (by first|(with_reducible assumption)|assumption);obtain⟨M,ac,ad,ae,c,m,O,P⟩:=at_T109 aj.out a z A;cases ae;have d:M.block≠gb411:=Nat.ne_of_lt (Nat.lt_of_lt_of_le (by have:=zL _ _ c;first|rwa [add_block]at this|exact this) K.out);have i:M.block≠gb411:=Nat.ne_of_lt (Nat.lt_of_lt_of_le (by have:=zL _ _ c;first|rwa [add_block]at this|exact this) K.out);replace c:=sX HB c;replace m:=sX HB m;have af:=zM P;have ag:=zM O;clear P O;replace c:=(cell_far (p:=⟨gb411,0,none⟩) (by first|(rw[add_block];exact d)|(show(Addr.add _ _).block≠_;rw[add_block];exact d)|exact d) (.string ((rd_T109 l0 a).f0))).trans c;replace m:=(cell_far (p:=⟨gb411,0,none⟩) (by first|(rw[add_block];exact d)|(show(Addr.add _ _).block≠_;rw[add_block];exact d)|exact d) (.string ((rd_T109 l0 a).f0))).trans m;replace c:=(cell_far (p:=⟨gb411,1,none⟩) (by first|(rw[add_block];exact i)|(show(Addr.add _ _).block≠_;rw[add_block];exact i)|exact i) (.slice j ((rd_T109 l0 a).f1).length l)).trans c;replace m:=(cell_far (p:=⟨gb411,1,none⟩) (by first|(rw[add_block];exact i)|(show(Addr.add _ _).block≠_;rw[add_block];exact i)|exact i) (.slice j ((rd_T109 l0 a).f1).length l)).trans m;clear d;clear i;replace z:=eq_true z;replace A:=eq_true A)|((with_reducible refine gate_dst (N:=9) rfl ?_);refine sV (N:=9) (cs:= #[.string (⟨#[]⟩:ByteArray),.slice none 0 0]) (t:=109) ?_;intro B hg az hbox hb;have q:=zM (blk_below (g:=gb411) (o:= .cells #[.string ((rd_T109 l0 a).f0),.slice j ((rd_T109 l0 a).f1).length l] 109 (0,0)) (by exact sP2 (sT b.out)) hb);have s:=sB HB hb;have u:=zM (hbox);have Q:=sG HB hg;have R:=sG HB hg;have S:=zM ((by rw[hg];exact Nat.ne_of_lt (blk_lt (g:=gb411) (o:= .cells #[.string ((rd_T109 l0 a).f0),.slice j ((rd_T109 l0 a).f1).length l] 109 (0,0)) (by exact sP2 (sT b.out))):gb411≠B));have T:=zM ((by rw[hg];exact Nat.ne_of_gt (blk_lt (g:=gb411) (o:= .cells #[.string ((rd_T109 l0 a).f0),.slice j ((rd_T109 l0 a).f1).length l] 109 (0,0)) (by exact sP2 (sT b.out))):B≠gb411));clear b;clear HB;have b:=q;have HB:=s;have v:=u;have ao:=Q;have U:=R;have D:=S;have ah:=T;clear q s u Q R S T;clear hb hbox hg;have aA:=ah.out;have aB:=D.out;obtain⟨aC,aD,aE,aF⟩:=cells2 v.out;obtain⟨aG,aH,aI,aJ⟩:=cells2 b.out)|(go_at_call 97;(with_reducible refine(impl_sameType.calls k1 ((rd_T109 l0 a).f0) _ _ ((rd_T109 l0 a).f1) ((rd_T109 l1 a).f0) _ _ ((rd_T109 l1 a).f1) true _ ?side1 ?side2 ?side3 ?side4 A9.out).mono ?_);(case side1=>exact zC aa.out (by repeat(first|(with_reducible first|exact HB.out|apply below_alloc|apply pw_below_drewN|apply below_drew1|refine below_set ?_ L.out|refine below_set ?_ U.out)|exact HB.out)));(case side2=>exact ab.out);(case side3=>exact zC af.out (by repeat(first|(with_reducible first|exact HB.out|apply below_alloc|apply pw_below_drewN|apply below_drew1|refine below_set ?_ L.out|refine below_set ?_ U.out)|exact HB.out)));(case side4=>exact ag.out);rintro e aK ⟨rfl,hb⟩;have q:=zM (blk_below (g:=gb411) (o:= .cells #[.string ((rd_T109 l0 a).f0),.slice j ((rd_T109 l0 a).f1).length l] 109 (0,0)) (by(with_reducible repeat(first|refine blk_drewN ?_ _|refine blk_drew ?_|refine blk_alloc ?_ _));refine blk_far ?_ D.out _;(with_reducible repeat(first|refine blk_drewN ?_ _|refine blk_drew ?_|refine blk_alloc ?_ _));refine blk_far ?_ D.out _;exact sT b.out) hb);have s:=zM (blk_below (g:=B) (o:= .cells #[.string ((rd_T109 l1 a).f0),.slice ac ((rd_T109 l1 a).f1).length ad] 109 (0,0)) (by exact sP2 (sT v.out)) hb);have u:=sB HB hb;clear b;clear v;clear HB;have b:=q;have v:=s;have HB:=u;clear q s u;(try clear hb)))
 go_roundg k1
 case measure=>have:=ak.out;omega
 case rel=>exact⟨(wrap64 (a+1)),sr,H',⟨by have:=ak.out;omega⟩,⟨sb⟩⟩)
 replace Y:=zB Y
 subst Y
 rewrite[if_neg zQ]at H
 obtain rfl:=zI H
 have x:0≤(a:Int):=zO (by first|(with_reducible assumption)|assumption)
 have y:a<(l0.length:Int):=zO (by first|(with_reducible assumption)|assumption)
 obtain⟨an,j,l,Z,F,G,I,J⟩:=at_T109 ai.out a x y
 cases Z
 replace F:=sX HB F
 replace G:=sX HB G
 have aa:=zM J
 have ab:=zM I
 clear J I
 replace x:=eq_true x
 replace y:=eq_true y
 go_wp2_with (first|((with_reducible refine gate_dst (N:=8) rfl ?_);refine sV (N:=8) (cs:= #[.string (⟨#[]⟩:ByteArray),.slice none 0 0]) (t:=109) ?_;intro gb411 hg aL hbox hb;have b:=zM (hbox);have K:=sG HB hg;have L:=sG HB hg;replace HB:=sB HB hb;clear hb hbox hg;obtain⟨aM,aN,aO,aP⟩:=cells2 b.out;have z:0≤(a:Int):=zO (by first|(with_reducible assumption)|assumption);have A:a<(l1.length:Int):=zO (by first|(with_reducible assumption)|assumption);obtain⟨M,ac,ad,ae,c,m,O,P⟩:=at_T109 aj.out a z A;cases ae;have d:M.block≠gb411:=Nat.ne_of_lt (Nat.lt_of_lt_of_le (by have:=zL _ _ c;first|rwa [add_block]at this|exact this) K.out);have i:M.block≠gb411:=Nat.ne_of_lt (Nat.lt_of_lt_of_le (by have:=zL _ _ c;first|rwa [add_block]at this|exact this) K.out);replace c:=sX HB c;replace m:=sX HB m;have af:=zM P;have ag:=zM O;clear P O;replace c:=(cell_far (p:=⟨gb411,0,none⟩) (by first|(rw[add_block];exact d)|(show(Addr.add _ _).block≠_;rw[add_block];exact d)|exact d) (.string ((rd_T109 l0 a).f0))).trans c;replace m:=(cell_far (p:=⟨gb411,0,none⟩) (by first|(rw[add_block];exact d)|(show(Addr.add _ _).block≠_;rw[add_block];exact d)|exact d) (.string ((rd_T109 l0 a).f0))).trans m;replace c:=(cell_far (p:=⟨gb411,1,none⟩) (by first|(rw[add_block];exact i)|(show(Addr.add _ _).block≠_;rw[add_block];exact i)|exact i) (.slice j ((rd_T109 l0 a).f1).length l)).trans c;replace m:=(cell_far (p:=⟨gb411,1,none⟩) (by first|(rw[add_block];exact i)|(show(Addr.add _ _).block≠_;rw[add_block];exact i)|exact i) (.slice j ((rd_T109 l0 a).f1).length l)).trans m;clear d;clear i;replace z:=eq_true z;replace A:=eq_true A)|((with_reducible refine gate_dst (N:=9) rfl ?_);refine sV (N:=9) (cs:= #[.string (⟨#[]⟩:ByteArray),.slice none 0 0]) (t:=109) ?_;intro B hg aQ hbox hb;have q:=zM (blk_below (g:=gb411) (o:= .cells #[.string ((rd_T109 l0 a).f0),.slice j ((rd_T109 l0 a).f1).length l] 109 (0,0)) (by exact sP2 (sT b.out)) hb);have s:=sB HB hb;have u:=zM (hbox);have Q:=sG HB hg;have R:=sG HB hg;have S:=zM ((by rw[hg];exact Nat.ne_of_lt (blk_lt (g:=gb411) (o:= .cells #[.string ((rd_T109 l0 a).f0),.slice j ((rd_T109 l0 a).f1).length l] 109 (0,0)) (by exact sP2 (sT b.out))):gb411≠B));have T:=zM ((by rw[hg];exact Nat.ne_of_gt (blk_lt (g:=gb411) (o:= .cells #[.string ((rd_T109 l0 a).f0),.slice j ((rd_T109 l0 a).f1).length l] 109 (0,0)) (by exact sP2 (sT b.out))):B≠gb411));clear b;clear HB;have b:=q;have HB:=s;have v:=u;have ao:=Q;have U:=R;have D:=S;have ah:=T;clear q s u Q R S T;clear hb hbox hg;have aR:=ah.out;have aS:=D.out;obtain⟨aT,aU,aV,aW⟩:=cells2 v.out;obtain⟨aX,aY,aZ,a0⟩:=cells2 b.out)|(go_at_call 97;(with_reducible refine(impl_sameType.calls k1 ((rd_T109 l0 a).f0) _ _ ((rd_T109 l0 a).f1) ((rd_T109 l1 a).f0) _ _ ((rd_T109 l1 a).f1) false _ ?side1 ?side2 ?side3 ?side4 A9.out).mono ?_);(case side1=>exact zC aa.out (by repeat(first|(with_reducible first|exact HB.out|apply below_alloc|apply pw_below_drewN|apply below_drew1|refine below_set ?_ L.out|refine below_set ?_ U.out)|exact HB.out)));(case side2=>exact ab.out);(case side3=>exact zC af.out (by repeat(first|(with_reducible first|exact HB.out|apply below_alloc|apply pw_below_drewN|apply below_drew1|refine below_set ?_ L.out|refine below_set ?_ U.out)|exact HB.out)));(case side4=>exact ag.out);rintro e a1 ⟨rfl,hb⟩;have q:=zM (blk_below (g:=gb411) (o:= .cells #[.string ((rd_T109 l0 a).f0),.slice j ((rd_T109 l0 a).f1).length l] 109 (0,0)) (by(with_reducible repeat(first|refine blk_drewN ?_ _|refine blk_drew ?_|refine blk_alloc ?_ _));refine blk_far ?_ D.out _;(with_reducible repeat(first|refine blk_drewN ?_ _|refine blk_drew ?_|refine blk_alloc ?_ _));refine blk_far ?_ D.out _;exact sT b.out) hb);have s:=zM (blk_below (g:=B) (o:= .cells #[.string ((rd_T109 l1 a).f0),.slice ac ((rd_T109 l1 a).f1).length ad] 109 (0,0)) (by exact sP2 (sT v.out)) hb);have u:=sB HB hb;clear b;clear v;clear HB;have b:=q;have v:=s;have HB:=u;clear q s u;(try clear hb)))
 go_ret
 exact⟨sq,sb⟩)
 rw[if_neg X]at H
 exact absurd H (by simp))
 rw[if_neg W]at H
 exact absurd H (by simp))
 rw[if_neg V]at H
 exact absurd H (by simp))
 rw[if_neg E]at H
 have c5b0:=zF E
 clear E
 obtain rfl:=zI H
 go_wp2
 go_ret
 exact⟨sq,sb⟩)))
 rw[if_neg n]at H
 have c4b0:((l0.length:Int)==(l1.length:Int))=false:=zN n
 have c4b1:((l0.length:Int) !=(l1.length:Int))=true:=zX n
 have c4b2:(l0.length==l1.length)=false:=by first|simpa using n|(simp at n ⊢;omega)
 obtain rfl:=zI H
 go_enter Try.func96,Try.ntmps96
 go_wp2
 go_ret
 exact⟨sq,sb⟩
end Go.Proofs.Ytnneadpahjkhgaa.PFnExactSameMemory
