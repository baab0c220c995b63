/- Printed functions: laws_toStringS, laws_toFunction, laws_toFunctionS, laws_toRecordType. -/
import Derived.Test.YtnneadpahjkhgaaYSmP0
import Derived.Test.YtnneadpahjkhgaaYSmPE
namespace Go.Proofs.Ytnneadpahjkhgaa.PFnExactSameMemory
open Go.RowKit Go.Proofs.YtnneadpahjkhgaaG Go.Proofs.YtnneadpahjkhgaaW.PrintWords Go.Proofs.YtnneadpahjkhgaaW.PrintLast Go.Proofs.YtnneadpahjkhgaaW.PrintMore
attribute [local go_sem] max2_int min2_int max_two min_two max_three min_three max_four min_four
set_option linter.unusedVariables false
set_option linter.unusedSimpArgs false
section
attribute [local go_sem high] eqA114
def laws_toStringS.l0 : Nat → List ByteArray → List ByteArray → Int → Option (List ByteArray)
 |0,_,_,_=>none
 |k+1,x0,x3,x4=>if x4<(x0.length:Int)then(if 0≤x4 then(if x4<(x3.length:Int)then(laws_toStringS.l0 k x0 (x3.set (x4:Int).toNat (rdOf ByteArray.empty x0 x4)) (wrap64 (x4+1)))else(none))else(none))else(some x3)
def laws_toStringS.f (k:Nat) (l0:List ByteArray):Option (List ByteArray):=if 0≤(l0.length:Int)then(if((l0.length:Int):Int).toNat≤17592186044416 then(laws_toStringS.l0 k l0 (List.replicate ((l0.length:Int):Int).toNat (⟨#[]⟩:ByteArray)) 0)else(none))else(none)
set_option maxHeartbeats 8000000 in
set_option maxRecDepth 100000 in
theorem laws_toStringS.calls (k:Nat) (A0:Option Addr) (c0:Nat) (l0:List ByteArray) (r:List ByteArray) (w:World) (hr0:Kd.C Kd.string w A0 l0.length l0) (hc0:l0.length≤c0) (h:laws_toStringS.f k l0=some r):
  Calls Try.prog 43 #[.slice A0 l0.length c0] w fun e w'=>∃G:Value,e= .returned (G)∧Kd.R Kd.string 9 w' w.heap.size (fun _=>True) G r∧Below w.heap.size w w':=by
 have U:=zM hr0
 have ah:=zM hc0
 clear hr0 hc0
 have HB:=zM (Below.refl w.heap.size w)
 have H:(if 0≤(l0.length:Int)then(if((l0.length:Int):Int).toNat≤17592186044416 then(laws_toStringS.l0 k l0 (List.replicate ((l0.length:Int):Int).toNat (⟨#[]⟩:ByteArray)) 0)else(none))else(none))=some r:=h
 clear h
 by_cases i:0≤(l0.length:Int)
 ·(
 rw[if_pos i]at H
 have c2b0:=eq_true i
 have c2b1:=zT i
 clear i
 by_cases l:((l0.length:Int):Int).toNat≤17592186044416
 ·(
 rw[if_pos l]at H
 have c3b0:=eq_true l
 have c3b1:=zT l
 clear l
 obtain⟨y210,hy210⟩:∃x:List ByteArray,x=(List.replicate ((l0.length:Int):Int).toNat (⟨#[]⟩:ByteArray)):=⟨_,rfl⟩
 replace H:(laws_toStringS.l0 k l0 y210 0)=some r:=by first|(rw[hy210];with_reducible exact H)|(have b:=(Option.bind_some _ _).symm.trans H;rw[hy210];with_reducible exact b)|(have b:=(Option.bind_some _ _).symm.trans H;with_reducible exact b)|with_reducible exact H|(rw[hy210];exact H)|exact H
 have I:=zM hy210
 clear hy210
 have H':=zM H
 clear H
 go_enter Try.func43,Try.ntmps43
 go_wp2_with (first|((with_reducible refine gate_dst (N:=7) rfl ?_);refine Kd.R_make Kd.string _ 9 rfl (N:=7) rfl 33 _ _ rfl (l0.length:Int) rfl rfl Try.underlying33 (.string ⟨#[]⟩) 16 info9 rfl (by decide) (by omega) (⟨#[]⟩:ByteArray) (ok:=fun _=>True) (okp:=fun _=>True) rfl (fun _ hk=>hk) trivial (zO (by first|(with_reducible assumption)|assumption)) (Nat.le_trans (Nat.mul_le_mul_right _ (zO (by first|(with_reducible assumption)|assumption):(l0.length:Int).toNat≤17592186044416)) (by omega)) (Below.refl _ _) (Nat.le_refl _) ?_;intro V w4 n hb W X;clear W X;(first|rw[←I.out]at n|(simp only[Int.reduceToNat]at n;rw[←I.out]at n));have Y:=zM (Kd.R_lower n (below_size (sH HB.out)));replace HB:=sB HB hb;clear hb n))
 go_loopg [4] k (fun kq Z w'=>∃(c:List ByteArray) (a:Int),Z= .int .i64 a∧Aside0 (laws_toStringS.l0 kq l0 c a=some r)∧Aside0 (kq≤k)∧Aside0 (Kd.R Kd.string 9 w' w.heap.size (fun _=>True) V c)∧Aside0 (Below w.heap.size w w'))
 case atStart=>exact⟨(y210),(0),sr,H',⟨Nat.le_refl _⟩,⟨by exact sE Y.out⟩,⟨sb⟩⟩
 case round=>(
 clear H'
 try clear i
 try clear c2b0
 try clear c2b1
 try clear l
 try clear c3b0
 try clear c3b1
 obtain⟨c,a,rfl,HA,J,d,HB⟩:=hrel
 cases gk with
 |zero=>exact absurd HA.out (by simp[laws_toStringS.l0])
 |succ k1=>(
 have H:=HA.out
 clear HA
 simp only[laws_toStringS.l0]at H
 by_cases m:a<(l0.length:Int)
 ·(
 rw[if_pos m]at H
 have c6b0:=zT m
 clear m
 by_cases q:0≤a
 ·(
 rw[if_pos q]at H
 have c7b0:=zT q
 clear q
 by_cases s:a<(c.length:Int)
 ·(
 rw[if_pos s]at H
 have c8b0:=zT s
 clear s
 obtain⟨y214,hy214⟩:∃x:List ByteArray,x=(c.set (a:Int).toNat (rdOf ByteArray.empty l0 a)):=⟨_,rfl⟩
 replace H:(laws_toStringS.l0 k1 l0 y214 (wrap64 (a+1)))=some r:=by first|(rw[hy214];with_reducible exact H)|(have b:=(Option.bind_some _ _).symm.trans H;rw[hy214];with_reducible exact b)|(have b:=(Option.bind_some _ _).symm.trans H;with_reducible exact b)|with_reducible exact H|(rw[hy214];exact H)|exact H
 have aa:=zM hy214
 clear hy214
 have H':=zM H
 clear H
 have y:0≤(a:Int):=zO (by first|(with_reducible assumption)|assumption)
 have z:a<(l0.length:Int):=zO (by first|(with_reducible assumption)|assumption)
 obtain⟨ai,ab,K⟩:=Kd.at_string U.out a y z
 cases ab
 replace K:=sX HB K
 replace y:=eq_true y
 replace z:=eq_true z
 have A:0≤(a:Int):=zO (by first|(with_reducible assumption)|assumption)
 have B:(a:Int)<((c.length:Int):Int):=zO (by first|(with_reducible assumption)|assumption)
 obtain⟨D,ac,L,M,ad,aj,O⟩:=Kd.R_form d.out (by omega)
 (first|cases L|(injection L with u ae af;(first|subst u|(injection u with u;subst u));subst af;clear ae))
 have ag:=zM M
 have ak:=zM O
 clear M ad O
 obtain⟨al,am⟩:=Kd.R_celln (⟨#[]⟩:ByteArray) d.out (a:Int) A B
 replace A:=eq_true A
 replace B:=eq_true B
 have E:=Kd.R_putg d.out (a:Int) (rdOf ByteArray.empty l0 a)
 go_wp2_with (first|((with_reducible refine gate_store (t:=9) (p:=20) rfl ?_);refine store_event (t:=9) (p:=20) (v:=?vo_w11) (w1:=(wr.setCell ⟨D,(a:Int).toNat,none⟩ (.string (rdOf ByteArray.empty l0 a)))) ?hg ?ho ?hn ?hr ?_;(case ho=>rfl);(case hg=>rfl);(case hn=>rfl);(case hr=>first|(go_simp;done)|(go_simp;rfl));intro F hw;have hg:wr.grownBy F (some D):=(by rw[hw];exact E.2);have P:Kd.R Kd.string 9 F w.heap.size (fun _=>True) (.slice (some ⟨D,0,none⟩) c.length ac) y214:=(by rw[hw,aa.out];exact E.1);clear E;have Q:=zM (P);have T:=zM ((by rw[hw];exact below_set (HB.out) ag.out:Below w.heap.size w F));clear d;clear HB;have d:=Q;have HB:=T;clear Q T;clear hg hw P))
 go_roundg k1
 case measure=>have:=J.out;omega
 case rel=>exact⟨(y214),(wrap64 (a+1)),sr,H',⟨by have:=J.out;omega⟩,⟨by exact sE d.out⟩,⟨sb⟩⟩)
 rw[if_neg s]at H
 exact absurd H (by simp))
 rw[if_neg q]at H
 exact absurd H (by simp))
 rw[if_neg m]at H
 have c6b0:=zF m
 clear m
 obtain rfl:=zI H
 go_wp2
 go_ret
 exact⟨_,sq,by exact sE d.out,sb⟩)))
 rw[if_neg l]at H
 exact absurd H (by simp))
 rw[if_neg i]at H
 exact absurd H (by simp)
end
section
attribute [local go_sem high] eqA114
def laws_toFunction.f (k:Nat) (a0_0:ByteArray) (l0_1:List ByteArray) (l0_2:List ByteArray) (a0_3:ByteArray):Option (ByteArray×List ByteArray×List ByteArray×ByteArray):=(laws_toStringS.f k l0_1).bind fun t218=>((laws_toStringS.f k l0_2).bind fun t221=>(some (a0_0,t218,t221,a0_3)))
set_option maxHeartbeats 8000000 in
set_option maxRecDepth 100000 in
theorem laws_toFunction.calls (k:Nat) (a0_0:ByteArray) (A0_1:Option Addr) (c0_1:Nat) (l0_1:List ByteArray) (A0_2:Option Addr) (c0_2:Nat) (l0_2:List ByteArray) (a0_3:ByteArray) (r1:ByteArray) (r2:List ByteArray) (r3:List ByteArray) (r4:ByteArray) (w:World) (hr0_1:Kd.C Kd.string w A0_1 l0_1.length l0_1) (hc0_1:l0_1.length≤c0_1) (hr0_2:Kd.C Kd.string w A0_2 l0_2.length l0_2) (hc0_2:l0_2.length≤c0_2) (h:laws_toFunction.f k a0_0 l0_1 l0_2 a0_3=some (r1,r2,r3,r4)):
  Calls Try.prog 92 #[.agg #[.string a0_0,.slice A0_1 l0_1.length c0_1,.slice A0_2 l0_2.length c0_2,.string a0_3]] w fun e w'=>∃v1_ v2_:Value,e= .returned (.agg #[.string r1,v1_,v2_,.string r4])∧Kd.R Kd.string 9 w' w.heap.size (fun K=>some K≠(v2_:Value).ownBlock) v1_ r2∧Kd.R Kd.string 9 w' w.heap.size (fun K=>some K≠(v1_:Value).ownBlock) v2_ r3∧Below w.heap.size w w':=by
 have af:=Try.underlying136
 have ag:=Try.underlying107
 have T:=zM hr0_1
 have U:=zM hc0_1
 clear hr0_1 hc0_1
 have V:=zM hr0_2
 have W:=zM hc0_2
 clear hr0_2 hc0_2
 have HB:=zM (Below.refl w.heap.size w)
 have H:((laws_toStringS.f k l0_1).bind fun d=>((laws_toStringS.f k l0_2).bind fun l=>(some (a0_0,d,l,a0_3))))=some (r1,r2,r3,r4):=h
 clear h
 obtain⟨d,X,H⟩:=sO H
 obtain⟨l,Y,H⟩:=sO H
 simp only[Option.some.injEq,Prod.mk.injEq]at H
 obtain⟨rfl,rfl,rfl,rfl⟩:=H
 go_enter Try.func92,Try.ntmps92
 go_wp2_with (first|((with_reducible refine gate_dst (N:=1) rfl ?_);refine sV (N:=1) (cs:= #[.string a0_0,.slice A0_1 l0_1.length c0_1,.slice A0_2 l0_2.length c0_2,.string a0_3]) (t:=136) ?_;intro O hg w4 hbox hb;have a:=zM (hbox);have ah:=sG HB hg;have E:=sG HB hg;replace HB:=sB HB hb;clear hb hbox hg)|((with_reducible refine gate_dst (N:=2) rfl ?_);refine sV (N:=2) (cs:= #[.string (⟨#[]⟩:ByteArray),.slice none 0 0,.slice none 0 0,.string (⟨#[]⟩:ByteArray)]) (t:=107) ?_;intro u hg w5 hbox hb;have b:=zM (hbox);have ai:=sG HB hg;have F:=sG HB hg;replace HB:=sB HB hb;have Z:=sN a hg;have aa:=sM a hg;replace a:=sK a hb;clear hb hbox hg)|((with_reducible refine gate_dst (N:=3) rfl ?_);refine sV (N:=3) (cs:= #[.string (⟨#[]⟩:ByteArray),.slice none 0 0,.slice none 0 0,.string (⟨#[]⟩:ByteArray)]) (t:=107) ?_;intro i hg w6 hbox hb;have c:=zM (hbox);have aj:=sG HB hg;have G:=sG HB hg;replace HB:=sB HB hb;have L:=sN a hg;have ab:=sM a hg;replace a:=sK a hb;have x:=sN b hg;have ac:=sM b hg;replace b:=sK b hb;clear hb hbox hg;have ak:=Z.out;have al:=aa.out;have am:=L.out;have an:=ab.out;obtain⟨ao,ap,aq,ar,au,av,aw,ax⟩:=cells4 a.out;have ay:=ac.out;have az:=x.out;obtain⟨aA,aB,aC,aD,aE,aF,aG,aH⟩:=cells4 c.out)|((with_reducible refine gate_callee (f:=43) rfl ?_);refine sC (some 9) Try.func43 #[.slice A0_1 l0_1.length c0_1] (laws_toStringS.calls k _ _ l0_1 d _ ?side1 ?side2 X.out) ?_;(case side1=>exact zC T.out (by repeat(first|(with_reducible first|exact HB.out|apply below_alloc|apply pw_below_drewN|apply below_drew1|refine below_set ?_ E.out|refine below_set ?_ F.out|refine below_set ?_ G.out)|exact HB.out)));(case side2=>exact U.out);rintro e aI ⟨aJ,rfl,m,hb⟩;refine⟨_,rfl,?_⟩;have y:=zM (Kd.R_lower m (below_size (by repeat(first|(with_reducible first|exact HB.out|apply below_alloc|apply pw_below_drewN|apply below_drew1|refine below_set ?_ E.out|refine below_set ?_ F.out|refine below_set ?_ G.out)|exact HB.out))));have z:=zM (blk_below (g:=O) (o:= .cells #[.string a0_0,.slice A0_1 l0_1.length c0_1,.slice A0_2 l0_2.length c0_2,.string a0_3] 136 (0,0)) (by(with_reducible repeat(first|refine blk_drewN ?_ _|refine blk_drew ?_|refine blk_alloc ?_ _));refine blk_far ?_ L.out _;exact sT a.out) hb);have A:=zM (blk_below (g:=u) (o:= .cells #[.string (⟨#[]⟩:ByteArray),.slice none 0 0,.slice none 0 0,.string (⟨#[]⟩:ByteArray)] 107 (0,0)) (by(with_reducible repeat(first|refine blk_drewN ?_ _|refine blk_drew ?_|refine blk_alloc ?_ _));refine blk_far ?_ x.out _;exact sT b.out) hb);have B:=zM (blk_below (g:=i) (o:= .cells #[.string a0_0,.slice none 0 0,.slice none 0 0,.string (⟨#[]⟩:ByteArray)] 107 (0,0)) (by(with_reducible repeat(first|refine blk_drewN ?_ _|refine blk_drew ?_|refine blk_alloc ?_ _));refine blk_put (cs:= #[.string (⟨#[]⟩:ByteArray),.slice none 0 0,.slice none 0 0,.string (⟨#[]⟩:ByteArray)]) ?_ 0 _ rfl;exact sT c.out) hb);have D:=sB HB hb;clear a;clear b;clear c;clear HB;have n:=y;have a:=z;have b:=A;have c:=B;have HB:=D;clear y z A B D;(try clear hb);(try clear m);obtain⟨q,s,ad⟩:=Kd.R_slice n.out;subst ad;obtain⟨aK,aL,aM,aN,aO,aP,aQ,aR⟩:=cells4 c.out;obtain⟨aS,aT,aU,aV,aW,aX,aY,aZ⟩:=cells4 a.out)|((with_reducible refine gate_callee (f:=43) rfl ?_);refine sC (some 13) Try.func43 #[.slice A0_2 l0_2.length c0_2] (laws_toStringS.calls k _ _ l0_2 l _ ?side1 ?side2 Y.out) ?_;(case side1=>exact zC V.out (by repeat(first|(with_reducible first|exact HB.out|apply below_alloc|apply pw_below_drewN|apply below_drew1|refine below_set ?_ E.out|refine below_set ?_ F.out|refine below_set ?_ G.out)|exact HB.out)));(case side2=>exact W.out);rintro e a0 ⟨a1,rfl,m,hb⟩;refine⟨_,rfl,?_⟩;have y:=zM (Kd.R_elder' (by(with_reducible repeat(first|apply Kd.R_alloc|apply Kd.R_drewN|apply Kd.R_drew));exact(Kd.R_mono (Kd.R_far (p:=⟨i,1,none⟩) (Kd.R_types n.out c.out (by decide)) (fun _ hk=>hk.2) (.slice q d.length s)) (fun _ M=>M.1))) (Kd.R_base m) hb);have z:=zM (Kd.R_lower (Kd.R_new' m (Kd.R_lt (by(with_reducible repeat(first|apply Kd.R_alloc|apply Kd.R_drewN|apply Kd.R_drew));exact(Kd.R_mono (Kd.R_far (p:=⟨i,1,none⟩) (Kd.R_types n.out c.out (by decide)) (fun _ hk=>hk.2) (.slice q d.length s)) (fun _ M=>M.1))))) (below_size (by repeat(first|(with_reducible first|exact HB.out|apply below_alloc|apply pw_below_drewN|apply below_drew1|refine below_set ?_ E.out|refine below_set ?_ F.out|refine below_set ?_ G.out)|exact HB.out))));have A:=zM (blk_below (g:=O) (o:= .cells #[.string a0_0,.slice A0_1 l0_1.length c0_1,.slice A0_2 l0_2.length c0_2,.string a0_3] 136 (0,0)) (by(with_reducible repeat(first|refine blk_drewN ?_ _|refine blk_drew ?_|refine blk_alloc ?_ _));refine blk_far ?_ L.out _;exact sT a.out) hb);have B:=zM (blk_below (g:=u) (o:= .cells #[.string (⟨#[]⟩:ByteArray),.slice none 0 0,.slice none 0 0,.string (⟨#[]⟩:ByteArray)] 107 (0,0)) (by(with_reducible repeat(first|refine blk_drewN ?_ _|refine blk_drew ?_|refine blk_alloc ?_ _));refine blk_far ?_ x.out _;exact sT b.out) hb);have D:=zM (blk_below (g:=i) (o:= .cells #[.string a0_0,.slice q d.length s,.slice none 0 0,.string (⟨#[]⟩:ByteArray)] 107 (0,0)) (by(with_reducible repeat(first|refine blk_drewN ?_ _|refine blk_drew ?_|refine blk_alloc ?_ _));refine blk_put (cs:= #[.string a0_0,.slice none 0 0,.slice none 0 0,.string (⟨#[]⟩:ByteArray)]) ?_ 1 _ rfl;exact sT c.out) hb);have P:=sB HB hb;clear n;clear a;clear b;clear c;clear HB;have n:=y;have Q:=z;have a:=A;have b:=B;have c:=D;have HB:=P;clear y z A B D P;(try clear hb);(try clear hk);(try clear m);obtain⟨I,J,ae⟩:=Kd.R_slice Q.out;subst ae;obtain⟨a2,a3,a4,a5,a6,a7,a8,a9⟩:=cells4 c.out;obtain⟨ba,bb,bc,bd,be,bf,bg,bh⟩:=cells4 a.out;obtain⟨bi,bj,bk,bl,bm,bn,bo,bp⟩:=cells4 b.out))
 refine bodyPost_ret (results_cell_row rfl _ _ u 107 #[.string a0_0,.slice q d.length s,.slice I l.length J,.string a0_3] (0,0) _ rfl (by(with_reducible repeat(first|refine blk_drewN ?_ _|refine blk_drew ?_|refine blk_alloc ?_ _));refine blk_put (cs:= #[.string a0_0,.slice q d.length s,.slice I l.length J,.string (⟨#[]⟩:ByteArray)]) ?_ 3 _ rfl;(with_reducible repeat(first|refine blk_drewN ?_ _|refine blk_drew ?_|refine blk_alloc ?_ _));refine blk_put (cs:= #[.string a0_0,.slice q d.length s,.slice none 0 0,.string (⟨#[]⟩:ByteArray)]) ?_ 2 _ rfl;(with_reducible repeat(first|refine blk_drewN ?_ _|refine blk_drew ?_|refine blk_alloc ?_ _));refine blk_put (cs:= #[.string a0_0,.slice none 0 0,.slice none 0 0,.string (⟨#[]⟩:ByteArray)]) ?_ 1 _ rfl;(with_reducible repeat(first|refine blk_drewN ?_ _|refine blk_drew ?_|refine blk_alloc ?_ _));refine blk_put (cs:= #[.string (⟨#[]⟩:ByteArray),.slice none 0 0,.slice none 0 0,.string (⟨#[]⟩:ByteArray)]) ?_ 0 _ rfl;(with_reducible repeat(first|refine blk_drewN ?_ _|refine blk_drew ?_|refine blk_alloc ?_ _));refine blk_far ?_ x.out _;(with_reducible repeat(first|refine blk_drewN ?_ _|refine blk_drew ?_|refine blk_alloc ?_ _));refine blk_far ?_ x.out _;exact sT b.out) Try.underlying107 rfl (by kernel_rfl)) rfl ?_
 exact⟨_,_,sq,by(with_reducible repeat(first|apply Kd.R_alloc|apply Kd.R_drewN|apply Kd.R_drew));exact Kd.R_mono (sRF4 (g:=u) (Kd.R_far (p:=⟨i,3,none⟩) (Kd.R_far (p:=⟨i,2,none⟩) (Kd.R_types (Kd.R_types n.out c.out (by decide)) b.out (by decide)) (fun _ hk=>hk.1.2) (.slice I l.length J)) (fun _ hk=>hk.1.2) (.string a0_3)) (fun _ hk=>hk.2)) (fun _ hk=>hk.1.1.2),by(with_reducible repeat(first|apply Kd.R_alloc|apply Kd.R_drewN|apply Kd.R_drew));exact Kd.R_mono (sRF4 (g:=u) (Kd.R_far (p:=⟨i,3,none⟩) (Kd.R_far (p:=⟨i,2,none⟩) (Kd.R_types (Kd.R_types Q.out c.out (by decide)) b.out (by decide)) (fun _ hk=>hk.1.2) (.slice I l.length J)) (fun _ hk=>hk.1.2) (.string a0_3)) (fun _ hk=>hk.2)) (fun _ hk=>hk.1.1.2),sb⟩
end
section
attribute [local go_sem high] eqA114
def laws_toFunctionS.l0 : Nat → List (S136) → List (S107) → Int → Option ((List (S107)))
 |0,_,_,_=>none
 |k+1,x0,x3,x4=>if x4<(x0.length:Int)then(if 0≤x4 then((laws_toFunction.f k ((rd_T136 x0 x4).f0) ((rd_T136 x0 x4).f1) ((rd_T136 x0 x4).f2) ((rd_T136 x0 x4).f3)).bind fun bt228=>(if x4<(x3.length:Int)then(laws_toFunctionS.l0 k x0 (x3.set (x4:Int).toNat (⟨bt228.1,bt228.2.1,bt228.2.2.1,bt228.2.2.2⟩:S107)) (wrap64 (x4+1)))else(none)))else(none))else(some x3)
def laws_toFunctionS.f (k:Nat) (l0:List (S136)):Option ((List (S107))):=if 0≤(l0.length:Int)then(if((l0.length:Int):Int).toNat≤3518437208883 then(laws_toFunctionS.l0 k l0 (List.replicate ((l0.length:Int):Int).toNat z107) 0)else(none))else(none)
set_option maxHeartbeats 8000000 in
set_option maxRecDepth 100000 in
theorem laws_toFunctionS.calls (k:Nat) (A0:Option Addr) (c0:Nat) (l0:List (S136)) (r:List (S107)) (w:World) (hr0:Kd.C k136 w A0 l0.length l0) (hc0:l0.length≤c0) (h:laws_toFunctionS.f k l0=some r):
  Calls Try.prog 65 #[.slice A0 l0.length c0] w fun e w'=>∃ad:Value,e= .returned (ad)∧Kd.S k107 107 w' w.heap.size (fun _=>True) ad r∧Below w.heap.size w w':=by
 have ba:=Try.underlying136
 have bb:=Try.underlying107
 have aB:=zM hr0
 have bc:=zM hc0
 clear hr0 hc0
 have HB:=zM (Below.refl w.heap.size w)
 have H:(if 0≤(l0.length:Int)then(if((l0.length:Int):Int).toNat≤3518437208883 then(laws_toFunctionS.l0 k l0 (List.replicate ((l0.length:Int):Int).toNat z107) 0)else(none))else(none))=some r:=h
 clear h
 by_cases x:0≤(l0.length:Int)
 ·(
 rw[if_pos x]at H
 have c2b0:=eq_true x
 have c2b1:=zT x
 clear x
 by_cases y:((l0.length:Int):Int).toNat≤3518437208883
 ·(
 rw[if_pos y]at H
 have c3b0:=eq_true y
 have c3b1:=zT y
 clear y
 obtain⟨y224,hy224⟩:∃U:List (S107),U=(List.replicate ((l0.length:Int):Int).toNat z107):=⟨_,rfl⟩
 replace H:(laws_toFunctionS.l0 k l0 y224 0)=some r:=by first|(rw[hy224];with_reducible exact H)|(have q:=(Option.bind_some _ _).symm.trans H;rw[hy224];with_reducible exact q)|(have q:=(Option.bind_some _ _).symm.trans H;with_reducible exact q)|with_reducible exact H|(rw[hy224];exact H)|exact H
 have ae:=zM hy224
 clear hy224
 have H':=zM H
 clear H
 go_enter Try.func65,Try.ntmps65
 go_wp2_with (first|((with_reducible refine gate_dst (N:=7) rfl ?_);refine Kd.S_make k107 _ 107 rfl (N:=7) rfl 54 _ _ rfl (l0.length:Int) rfl rfl Try.underlying54 (.agg #[(.string ⟨#[]⟩),(.slice none 0 0),(.slice none 0 0),(.string ⟨#[]⟩)]) 80 info107 rfl (by decide) (by omega) z107 (ok:=fun _=>True) (okp:=fun _=>True) (k107_mkM _ _ _ z107 (Kd.R_nil _ _ _ _ _) (Kd.R_nil _ _ _ _ _)) (fun _ hk=>hk) trivial (zO (by first|(with_reducible assumption)|assumption)) (Nat.le_trans (Nat.mul_le_mul_right _ (zO (by first|(with_reducible assumption)|assumption):(l0.length:Int).toNat≤3518437208883)) (by omega)) (Below.refl _ _) (Nat.le_refl _) ?_;intro aC w4 A hb aD aE;clear aD aE;(first|rw[←ae.out]at A|(simp only[Int.reduceToNat]at A;rw[←ae.out]at A));have aF:=zM (Kd.S_lower A (below_size (sH HB.out)));replace HB:=sB HB hb;clear hb A))
 go_loopg [4] k (fun kq v4 w'=>∃(l:List (S107)) (a:Int),v4= .int .i64 a∧Aside0 (laws_toFunctionS.l0 kq l0 l a=some r)∧Aside0 (kq≤k)∧Aside0 (Kd.S k107 107 w' w.heap.size (fun _=>True) aC l)∧Aside0 (Below w.heap.size w w'))
 case atStart=>exact⟨(y224),(0),sr,H',⟨Nat.le_refl _⟩,⟨by exact sI aF.out⟩,⟨sb⟩⟩
 case round=>(
 clear H'
 try clear x
 try clear c2b0
 try clear c2b1
 try clear y
 try clear c3b0
 try clear c3b1
 obtain⟨l,a,rfl,HA,af,i,HB⟩:=hrel
 cases gk with
 |zero=>exact absurd HA.out (by simp[laws_toFunctionS.l0])
 |succ k1=>(
 have H:=HA.out
 clear HA
 simp only[laws_toFunctionS.l0]at H
 by_cases z:a<(l0.length:Int)
 ·(
 rw[if_pos z]at H
 have c6b0:=zT z
 clear z
 by_cases J:0≤a
 ·(
 rw[if_pos J]at H
 have c7b0:=zT J
 clear J
 replace H:=Option.bind_eq_some_iff.mp H
 obtain⟨⟨s,B,D,u⟩,ag,H⟩:=H
 replace H:(if a<(l.length:Int)then(laws_toFunctionS.l0 k1 l0 (l.set (a:Int).toNat (⟨s,B,D,u⟩:S107)) (wrap64 (a+1)))else(none))=some r:=H
 have A8:=zM ag
 clear ag
 by_cases K:a<(l.length:Int)
 ·(
 rw[if_pos K]at H
 have c9b0:=zT K
 clear K
 obtain⟨y236,hy236⟩:∃U:List (S107),U=(l.set (a:Int).toNat (⟨s,B,D,u⟩:S107)):=⟨_,rfl⟩
 replace H:(laws_toFunctionS.l0 k1 l0 y236 (wrap64 (a+1)))=some r:=by first|(rw[hy236];with_reducible exact H)|(have q:=(Option.bind_some _ _).symm.trans H;rw[hy236];with_reducible exact q)|(have q:=(Option.bind_some _ _).symm.trans H;with_reducible exact q)|with_reducible exact H|(rw[hy236];exact H)|exact H
 have aG:=zM hy236
 clear hy236
 have H':=zM H
 clear H
 have V:0≤(a:Int):=zO (by first|(with_reducible assumption)|assumption)
 have W:a<(l0.length:Int):=zO (by first|(with_reducible assumption)|assumption)
 obtain⟨bd,aH,aI,aJ,aK,aL,ah,ai,aj,ak,al,am,an,ao⟩:=at_T136 aB.out a V W
 cases aL
 replace ah:=sX HB ah
 replace ai:=sX HB ai
 replace aj:=sX HB aj
 replace ak:=sX HB ak
 have aM:=zM am
 have aN:=zM al
 clear am al
 have aO:=zM ao
 have aP:=zM an
 clear ao an
 replace V:=eq_true V
 replace W:=eq_true W
 go_wp2_with (first|((with_reducible refine gate_callee (f:=92) rfl ?_);refine sC (some 20) Try.func92 #[.agg #[.string ((rd_T136 l0 a).f0),.slice aH ((rd_T136 l0 a).f1).length aI,.slice aJ ((rd_T136 l0 a).f2).length aK,.string ((rd_T136 l0 a).f3)]] (laws_toFunction.calls k1 ((rd_T136 l0 a).f0) _ _ ((rd_T136 l0 a).f1) _ _ ((rd_T136 l0 a).f2) ((rd_T136 l0 a).f3) s B D u _ ?side1 ?side2 ?side3 ?side4 A8.out) ?_;(case side1=>exact sD (zC aM.out HB.out));(case side2=>exact aN.out);(case side3=>exact sD (zC aO.out HB.out));(case side4=>exact aP.out);rintro e m ⟨L,M,rfl,X,Y,hb⟩;refine⟨_,rfl,?_⟩;replace i:=zM (Kd.S_mono (Kd.S_told (Kd.S_told (Kd.S_old (sI i.out) hb) (Kd.R_base X)) (Kd.R_base Y)) (fun _ c=>c.1));have O:=zM (Kd.R_lower X (below_size (sH HB.out)));have P:=zM (Kd.R_lower Y (below_size (sH HB.out)));replace HB:=sB HB hb;(try clear hb);(try clear X);(try clear Y);have Z:0≤(a:Int):=zO (by first|(with_reducible assumption)|assumption);have aa:(a:Int)<((l.length:Int):Int):=zO (by first|(with_reducible assumption)|assumption);obtain⟨d,ap,aq,ar,aQ,be,au⟩:=Kd.S_form i.out (by omega);(first|cases aq|(injection aq with Q aR aS;(first|subst Q|(injection Q with Q;subst Q));subst aS;clear aR));have T:=zM ar;have bf:=zM au;clear ar aQ au;obtain⟨_,bg,aT,av,E,F,_,_⟩:=Kd.S_elem i.out z107 (a:Int) Z aa;obtain⟨aU,aV,rfl,bh,bi⟩:=k107_openM av;have bj:m.cell? ⟨d,(a:Int).toNat*4,none⟩=some (.string ((rd_T107 l a).f0)):=E 0 _ rfl;have bk:m.cell? ⟨d,(a:Int).toNat*4+1,none⟩=some (aU):=E 1 _ rfl;have bl:m.cell? ⟨d,(a:Int).toNat*4+2,none⟩=some (aV):=E 2 _ rfl;have bm:m.cell? ⟨d,(a:Int).toNat*4+3,none⟩=some (.string ((rd_T107 l a).f3)):=E 3 _ rfl;have bn:m.frozen? ⟨d,(a:Int).toNat*4,none⟩=false:=F 0;have bo:m.frozen? ⟨d,(a:Int).toNat*4+1,none⟩=false:=F 1;have bp:m.frozen? ⟨d,(a:Int).toNat*4+2,none⟩=false:=F 2;have bq:m.frozen? ⟨d,(a:Int).toNat*4+3,none⟩=false:=F 3;clear aT E F av;replace Z:=eq_true Z;replace aa:=eq_true aa;have n_:=zM (Kd.S_mono (ok':=(fun b=>some b≠(L:Value).ownBlock∧some b≠(M:Value).ownBlock)) i.out (fun b hk=>⟨hk.1.2,hk.2⟩));clear i;have i:=n_;clear n_;have aW:=zM (show Kd.S k107 107 m w.heap.size (fun b=>((fun _=>True)) b∧¬((fun b=>some b=(L:Value).ownBlock∨some b=(M:Value).ownBlock)) b) (.slice (some ⟨d,0,none⟩) l.length ap) l from(by(with_reducible repeat(first|apply Kd.S_alloc|apply Kd.S_drewN|apply Kd.S_drew));exact Kd.S_mono i.out (fun b hk=>⟨trivial,fun n=>n.elim (fun c=>hk.1 c) (fun c=>hk.2 c)⟩)));obtain⟨br,bs,aX,aw,G,I,aY,ax⟩:=Kd.S_elem aW.out z107 (a:Int) (zO (by first|(with_reducible assumption)|assumption)) (by have c:(a:Int)<((l.length:Int):Int):=zO (by first|(with_reducible assumption)|assumption);first|exact c|(have n:=(Kd.S_reads' i.out).1;omega)|simpa using c);obtain⟨bt,bu,rfl,bv,bw⟩:=k107_openM aw;have ab:=Kd.S_seg ax (zO (by first|(with_reducible assumption)|assumption)) (by have c:(a:Int)<((l.length:Int):Int):=zO (by first|(with_reducible assumption)|assumption);first|exact c|(have n:=(Kd.S_reads' i.out).1;omega)|simpa using c) (seg:=[.string s,L,M,.string u]) (j:=0) (show 4≤4 from by decide) (x':=(⟨s,B,D,u⟩:S107)) (k107_mkM _ _ _ (⟨s,B,D,u⟩:S107) (Kd.R_mono (Kd.R_tight rfl (Kd.R_mono (ok':=fun b=>((fun _=>True)) b∧b≠d) (Kd.R_apart' (O.out) (Kd.S_typed i.out) (by decide)) (fun b hk=>⟨trivial,fun n=>(hk.2) (by rw[n];rfl)⟩))) (fun _ c=>Or.inr (Or.inl c))) (Kd.R_mono (Kd.R_tight rfl (Kd.R_mono (ok':=fun b=>((fun _=>True)) b∧b≠d) (Kd.R_apart' (P.out) (Kd.S_typed i.out) (by decide)) (fun b hk=>⟨trivial,fun n=>(hk.2) (by rw[n];rfl)⟩))) (fun _ c=>Or.inr (Or.inr (c))))) (fun _ hk=>hk) (fun b aZ=>aZ.elim (fun c=>((Kd.R_mono (ok':=fun b=>((fun _=>True)) b∧b≠d) (Kd.R_apart' (O.out) (Kd.S_typed i.out) (by decide)) (fun b hk=>⟨trivial,fun n=>(hk.2) (by rw[n];rfl)⟩))).1 b c.symm) (fun c=>((Kd.R_mono (ok':=fun b=>((fun _=>True)) b∧b≠d) (Kd.R_apart' (P.out) (Kd.S_typed i.out) (by decide)) (fun b hk=>⟨trivial,fun n=>(hk.2) (by rw[n];rfl)⟩))).1 b c.symm));have a0:=G 0 _ rfl;(try simp only[show(k107).sz=4 from rfl,Nat.mul_one,Nat.add_zero]at a0);have a1:=I 0;(try simp only[show(k107).sz=4 from rfl,Nat.mul_one,Nat.add_zero]at a1);have a2:=G 1 _ rfl;(try simp only[show(k107).sz=4 from rfl,Nat.mul_one,Nat.add_zero]at a2);have a3:=I 1;(try simp only[show(k107).sz=4 from rfl,Nat.mul_one,Nat.add_zero]at a3);have a4:=G 2 _ rfl;(try simp only[show(k107).sz=4 from rfl,Nat.mul_one,Nat.add_zero]at a4);have a5:=I 2;(try simp only[show(k107).sz=4 from rfl,Nat.mul_one,Nat.add_zero]at a5);have a6:=G 3 _ rfl;(try simp only[show(k107).sz=4 from rfl,Nat.mul_one,Nat.add_zero]at a6);have a7:=I 3;(try simp only[show(k107).sz=4 from rfl,Nat.mul_one,Nat.add_zero]at a7);clear aX G I aw aY ax)|((with_reducible refine gate_store (t:=107) (p:=21) rfl ?_);refine store_event (t:=107) (p:=21) (v:=?vo_w13) (w1:=((((m.setCell ⟨d,(a:Int).toNat*4,none⟩ (.string s)).setCell ⟨d,(a:Int).toNat*4+1,none⟩ (L)).setCell ⟨d,(a:Int).toNat*4+2,none⟩ (M)).setCell ⟨d,(a:Int).toNat*4+3,none⟩ (.string u))) ?hg ?ho ?hn ?hr ?_;(case ho=>rfl);(case hg=>rfl);(case hn=>rfl);(case hr=>first|(go_simp;done)|(go_simp;rfl)|(obtain⟨_,_,a8⟩:=Kd.R_slice O.out;obtain⟨_,_,a9⟩:=Kd.R_slice P.out;simp only[a8,a9];first|(go_simp;done)|(go_simp;rfl)));intro ac hw;have hg:m.grownBy ac (some d):=(by rw[hw];exact ab.2);have ay:Kd.S k107 107 ac w.heap.size (fun _=>True) (.slice (some ⟨d,0,none⟩) l.length ap) y236:=(by rw[hw,aG.out];exact ab.1);clear ab;have az:=zM (ay);have aA:=zM ((by rw[hw];exact below_set (below_set (below_set (below_set (HB.out) T.out) T.out) T.out) T.out:Below w.heap.size w ac));clear i;clear HB;clear O;clear P;have i:=az;have HB:=aA;clear az aA;clear hg hw ay))
 go_roundg k1
 case measure=>have:=af.out;omega
 case rel=>exact⟨(y236),(wrap64 (a+1)),sr,H',⟨by have:=af.out;omega⟩,⟨by exact sI i.out⟩,⟨sb⟩⟩)
 rw[if_neg K]at H
 exact absurd H (by simp))
 rw[if_neg J]at H
 exact absurd H (by simp))
 rw[if_neg z]at H
 have c6b0:=zF z
 clear z
 obtain rfl:=zI H
 go_wp2
 go_ret
 exact⟨_,sq,by exact sI i.out,sb⟩)))
 rw[if_neg y]at H
 exact absurd H (by simp))
 rw[if_neg x]at H
 exact absurd H (by simp)
end
section
attribute [local go_sem high] eqA114
def laws_toRecordType.f (k:Nat) (a0_0:ByteArray) (l0_1:List ByteArray):Option (ByteArray×List ByteArray):=(laws_toStringS.f k l0_1).bind fun t240=>(some (a0_0,t240))
set_option maxHeartbeats 8000000 in
set_option maxRecDepth 100000 in
theorem laws_toRecordType.calls (k:Nat) (a0_0:ByteArray) (A0_1:Option Addr) (c0_1:Nat) (l0_1:List ByteArray) (r1:ByteArray) (r2:List ByteArray) (w:World) (hr0_1:Kd.C Kd.string w A0_1 l0_1.length l0_1) (hc0_1:l0_1.length≤c0_1) (h:laws_toRecordType.f k a0_0 l0_1=some (r1,r2)):
  Calls Try.prog 93 #[.agg #[.string a0_0,.slice A0_1 l0_1.length c0_1]] w fun e w'=>∃m:Value,e= .returned (.agg #[.string r1,m])∧Kd.R Kd.string 9 w' w.heap.size (fun _=>True) m r2∧Below w.heap.size w w':=by
 have V:=Try.underlying138
 have W:=Try.underlying109
 have J:=zM hr0_1
 have K:=zM hc0_1
 clear hr0_1 hc0_1
 have HB:=zM (Below.refl w.heap.size w)
 have H:((laws_toStringS.f k l0_1).bind fun d=>(some (a0_0,d)))=some (r1,r2):=h
 clear h
 obtain⟨d,L,H⟩:=sO H
 simp only[Option.some.injEq,Prod.mk.injEq]at H
 obtain⟨rfl,rfl⟩:=H
 go_enter Try.func93,Try.ntmps93
 go_wp2_with (first|((with_reducible refine gate_dst (N:=1) rfl ?_);refine sV (N:=1) (cs:= #[.string a0_0,.slice A0_1 l0_1.length c0_1]) (t:=138) ?_;intro M hg X hbox hb;have a:=zM (hbox);have Y:=sG HB hg;have n:=sG HB hg;replace HB:=sB HB hb;clear hb hbox hg)|((with_reducible refine gate_dst (N:=2) rfl ?_);refine sV (N:=2) (cs:= #[.string (⟨#[]⟩:ByteArray),.slice none 0 0]) (t:=109) ?_;intro i hg Z hbox hb;have b:=zM (hbox);have aa:=sG HB hg;have q:=sG HB hg;replace HB:=sB HB hb;have O:=sN a hg;have P:=sM a hg;replace a:=sK a hb;clear hb hbox hg)|((with_reducible refine gate_dst (N:=3) rfl ?_);refine sV (N:=3) (cs:= #[.string (⟨#[]⟩:ByteArray),.slice none 0 0]) (t:=109) ?_;intro s hg w5 hbox hb;have c:=zM (hbox);have ab:=sG HB hg;have u:=sG HB hg;replace HB:=sB HB hb;have x:=sN a hg;have Q:=sM a hg;replace a:=sK a hb;have l:=sN b hg;have T:=sM b hg;replace b:=sK b hb;clear hb hbox hg;have ac:=O.out;have ad:=P.out;have ae:=x.out;have af:=Q.out;obtain⟨ag,ah,ai,aj⟩:=cells2 a.out;have ak:=T.out;have al:=l.out;obtain⟨am,an,ao,ap⟩:=cells2 c.out)|((with_reducible refine gate_callee (f:=43) rfl ?_);refine sC (some 9) Try.func43 #[.slice A0_1 l0_1.length c0_1] (laws_toStringS.calls k _ _ l0_1 d _ ?side1 ?side2 L.out) ?_;(case side1=>exact zC J.out (by repeat(first|(with_reducible first|exact HB.out|apply below_alloc|apply pw_below_drewN|apply below_drew1|refine below_set ?_ n.out|refine below_set ?_ q.out|refine below_set ?_ u.out)|exact HB.out)));(case side2=>exact K.out);rintro e aq ⟨ar,rfl,y,hb⟩;refine⟨_,rfl,?_⟩;have z:=zM (Kd.R_lower y (below_size (by repeat(first|(with_reducible first|exact HB.out|apply below_alloc|apply pw_below_drewN|apply below_drew1|refine below_set ?_ n.out|refine below_set ?_ q.out|refine below_set ?_ u.out)|exact HB.out))));have A:=zM (blk_below (g:=M) (o:= .cells #[.string a0_0,.slice A0_1 l0_1.length c0_1] 138 (0,0)) (by(with_reducible repeat(first|refine blk_drewN ?_ _|refine blk_drew ?_|refine blk_alloc ?_ _));refine blk_far ?_ x.out _;exact sT a.out) hb);have B:=zM (blk_below (g:=i) (o:= .cells #[.string (⟨#[]⟩:ByteArray),.slice none 0 0] 109 (0,0)) (by(with_reducible repeat(first|refine blk_drewN ?_ _|refine blk_drew ?_|refine blk_alloc ?_ _));refine blk_far ?_ l.out _;exact sT b.out) hb);have D:=zM (blk_below (g:=s) (o:= .cells #[.string a0_0,.slice none 0 0] 109 (0,0)) (by(with_reducible repeat(first|refine blk_drewN ?_ _|refine blk_drew ?_|refine blk_alloc ?_ _));refine blk_put (cs:= #[.string (⟨#[]⟩:ByteArray),.slice none 0 0]) ?_ 0 _ rfl;exact sT c.out) hb);have E:=sB HB hb;clear a;clear b;clear c;clear HB;have F:=z;have a:=A;have b:=B;have c:=D;have HB:=E;clear z A B D E;(try clear hb);(try clear y);obtain⟨G,I,U⟩:=Kd.R_slice F.out;subst U;obtain⟨au,av,aw,ax⟩:=cells2 c.out;obtain⟨ay,az,aA,aB⟩:=cells2 b.out))
 refine bodyPost_ret (results_cell_row rfl _ _ i 109 #[.string a0_0,.slice G d.length I] (0,0) _ rfl (by(with_reducible repeat(first|refine blk_drewN ?_ _|refine blk_drew ?_|refine blk_alloc ?_ _));refine blk_put (cs:= #[.string a0_0,.slice none 0 0]) ?_ 1 _ rfl;(with_reducible repeat(first|refine blk_drewN ?_ _|refine blk_drew ?_|refine blk_alloc ?_ _));refine blk_put (cs:= #[.string (⟨#[]⟩:ByteArray),.slice none 0 0]) ?_ 0 _ rfl;(with_reducible repeat(first|refine blk_drewN ?_ _|refine blk_drew ?_|refine blk_alloc ?_ _));refine blk_far ?_ l.out _;exact sT b.out) Try.underlying109 rfl (by kernel_rfl)) rfl ?_
 exact⟨_,sq,by(with_reducible repeat(first|apply Kd.R_alloc|apply Kd.R_drewN|apply Kd.R_drew));exact Kd.R_mono (sRF2 (g:=i) (Kd.R_far (p:=⟨s,1,none⟩) (Kd.R_types (Kd.R_types F.out c.out (by decide)) b.out (by decide)) (fun _ hk=>hk.1.2) (.slice G d.length I)) (fun _ hk=>hk.2)) (fun _ hk=>trivial),sb⟩
end
end Go.Proofs.Ytnneadpahjkhgaa.PFnExactSameMemory
