/- Printed functions: laws_toFile, laws_toFileS. -/
import Derived.Test.YtnneadpahjkhgaaYSmP0
import Derived.Test.YtnneadpahjkhgaaYSmPE
import Derived.Test.YtnneadpahjkhgaaYSmP8
namespace Go.Proofs.Ytnneadpahjkhgaa.PFnExactSameMemory
open Go.RowKit Go.Proofs.YtnneadpahjkhgaaG Go.Proofs.YtnneadpahjkhgaaW.PrintWords Go.Proofs.YtnneadpahjkhgaaW.PrintLast Go.Proofs.YtnneadpahjkhgaaW.PrintMore
attribute [local go_sem] max2_int min2_int max_two min_two max_three min_three max_four min_four
set_option linter.unusedVariables false
set_option linter.unusedSimpArgs false
section
attribute [local go_sem high] eqA114
def laws_toFile.f (k:Nat) (a0_0:ByteArray) (l0_1:List ByteArray) (a0_2:Int) (a0_3:Int):Option (ByteArray×List ByteArray×Int×Int):=(laws_toStringS.f k l0_1).bind fun t267=>(some (a0_0,t267,a0_2,a0_3))
set_option maxHeartbeats 8000000 in
set_option maxRecDepth 100000 in
theorem laws_toFile.calls (k:Nat) (a0_0:ByteArray) (A0_1:Option Addr) (c0_1:Nat) (l0_1:List ByteArray) (a0_2:Int) (a0_3:Int) (r1:ByteArray) (r2:List ByteArray) (r3:Int) (r4:Int) (w:World) (hr0_1:Kd.C Kd.string w A0_1 l0_1.length l0_1) (hc0_1:l0_1.length≤c0_1) (h:laws_toFile.f k a0_0 l0_1 a0_2 a0_3=some (r1,r2,r3,r4)):
  Calls Try.prog 81 #[.agg #[.string a0_0,.slice A0_1 l0_1.length c0_1,.int .i64 a0_2,.int .i64 a0_3]] w fun e w'=>∃s:Value,e= .returned (.agg #[.string r1,s,.int .i64 r3,.int .i64 r4])∧Kd.R Kd.string 9 w' w.heap.size (fun _=>True) s r2∧Below w.heap.size w w':=by
 have V:=Try.underlying127
 have W:=Try.underlying87
 have J:=zM hr0_1
 have K:=zM hc0_1
 clear hr0_1 hc0_1
 have HB:=zM (Below.refl w.heap.size w)
 have H:((laws_toStringS.f k l0_1).bind fun c=>(some (a0_0,c,a0_2,a0_3)))=some (r1,r2,r3,r4):=h
 clear h
 obtain⟨c,L,H⟩:=sO H
 simp only[Option.some.injEq,Prod.mk.injEq]at H
 obtain⟨rfl,rfl,rfl,rfl⟩:=H
 go_enter Try.func81,Try.ntmps81
 go_wp2_with (first|((with_reducible refine gate_dst (N:=1) rfl ?_);refine sV (N:=1) (cs:= #[.string a0_0,.slice A0_1 l0_1.length c0_1,.int .i64 a0_2,.int .i64 a0_3]) (t:=127) ?_;intro M hg X hbox hb;have a:=zM (hbox);have Y:=sG HB hg;have u:=sG HB hg;replace HB:=sB HB hb;clear hb hbox hg)|((with_reducible refine gate_dst (N:=2) rfl ?_);refine sV (N:=2) (cs:= #[.string (⟨#[]⟩:ByteArray),.slice none 0 0,.int .i64 0,.int .i64 0]) (t:=87) ?_;intro q hg Z hbox hb;have b:=zM (hbox);have aa:=sG HB hg;have x:=sG HB hg;replace HB:=sB HB hb;have O:=sN a hg;have P:=sM a hg;replace a:=sK a hb;clear hb hbox hg)|((with_reducible refine gate_dst (N:=3) rfl ?_);refine sV (N:=3) (cs:= #[.string (⟨#[]⟩:ByteArray),.slice none 0 0,.int .i64 0,.int .i64 0]) (t:=87) ?_;intro l hg w5 hbox hb;have d:=zM (hbox);have ab:=sG HB hg;have y:=sG HB hg;replace HB:=sB HB hb;have z:=sN a hg;have Q:=sM a hg;replace a:=sK a hb;have i:=sN b hg;have T:=sM b hg;replace b:=sK b hb;clear hb hbox hg;have ac:=O.out;have ad:=P.out;have ae:=z.out;have af:=Q.out;obtain⟨ag,ah,ai,aj,ak,al,am,an⟩:=cells4 a.out;have ao:=T.out;have ap:=i.out;obtain⟨aq,ar,au,av,aw,ax,ay,az⟩:=cells4 d.out)|((with_reducible refine gate_callee (f:=43) rfl ?_);refine sC (some 9) Try.func43 #[.slice A0_1 l0_1.length c0_1] (laws_toStringS.calls k _ _ l0_1 c _ ?side1 ?side2 L.out) ?_;(case side1=>exact zC J.out (by repeat(first|(with_reducible first|exact HB.out|apply below_alloc|apply pw_below_drewN|apply below_drew1|refine below_set ?_ u.out|refine below_set ?_ x.out|refine below_set ?_ y.out)|exact HB.out)));(case side2=>exact K.out);rintro e aA ⟨aB,rfl,A,hb⟩;refine⟨_,rfl,?_⟩;have B:=zM (Kd.R_lower A (below_size (by repeat(first|(with_reducible first|exact HB.out|apply below_alloc|apply pw_below_drewN|apply below_drew1|refine below_set ?_ u.out|refine below_set ?_ x.out|refine below_set ?_ y.out)|exact HB.out))));have D:=zM (blk_below (g:=M) (o:= .cells #[.string a0_0,.slice A0_1 l0_1.length c0_1,.int .i64 a0_2,.int .i64 a0_3] 127 (0,0)) (by(with_reducible repeat(first|refine blk_drewN ?_ _|refine blk_drew ?_|refine blk_alloc ?_ _));refine blk_far ?_ z.out _;exact sT a.out) hb);have E:=zM (blk_below (g:=q) (o:= .cells #[.string (⟨#[]⟩:ByteArray),.slice none 0 0,.int .i64 0,.int .i64 0] 87 (0,0)) (by(with_reducible repeat(first|refine blk_drewN ?_ _|refine blk_drew ?_|refine blk_alloc ?_ _));refine blk_far ?_ i.out _;exact sT b.out) hb);have F:=zM (blk_below (g:=l) (o:= .cells #[.string a0_0,.slice none 0 0,.int .i64 0,.int .i64 0] 87 (0,0)) (by(with_reducible repeat(first|refine blk_drewN ?_ _|refine blk_drew ?_|refine blk_alloc ?_ _));refine blk_put (cs:= #[.string (⟨#[]⟩:ByteArray),.slice none 0 0,.int .i64 0,.int .i64 0]) ?_ 0 _ rfl;exact sT d.out) hb);have G:=sB HB hb;clear a;clear b;clear d;clear HB;have I:=B;have a:=D;have b:=E;have d:=F;have HB:=G;clear B D E F G;(try clear hb);(try clear A);obtain⟨m,n,U⟩:=Kd.R_slice I.out;subst U;obtain⟨aC,aD,aE,aF,aG,aH,aI,aJ⟩:=cells4 d.out;obtain⟨aK,aL,aM,aN,aO,aP,aQ,aR⟩:=cells4 a.out;obtain⟨aS,aT,aU,aV,aW,aX,aY,aZ⟩:=cells4 b.out))
 refine bodyPost_ret (results_cell_row rfl _ _ q 87 #[.string a0_0,.slice m c.length n,.int .i64 a0_2,.int .i64 a0_3] (0,0) _ rfl (by(with_reducible repeat(first|refine blk_drewN ?_ _|refine blk_drew ?_|refine blk_alloc ?_ _));refine blk_put (cs:= #[.string a0_0,.slice m c.length n,.int .i64 a0_2,.int .i64 0]) ?_ 3 _ rfl;(with_reducible repeat(first|refine blk_drewN ?_ _|refine blk_drew ?_|refine blk_alloc ?_ _));refine blk_put (cs:= #[.string a0_0,.slice m c.length n,.int .i64 0,.int .i64 0]) ?_ 2 _ rfl;(with_reducible repeat(first|refine blk_drewN ?_ _|refine blk_drew ?_|refine blk_alloc ?_ _));refine blk_put (cs:= #[.string a0_0,.slice none 0 0,.int .i64 0,.int .i64 0]) ?_ 1 _ rfl;(with_reducible repeat(first|refine blk_drewN ?_ _|refine blk_drew ?_|refine blk_alloc ?_ _));refine blk_put (cs:= #[.string (⟨#[]⟩:ByteArray),.slice none 0 0,.int .i64 0,.int .i64 0]) ?_ 0 _ rfl;(with_reducible repeat(first|refine blk_drewN ?_ _|refine blk_drew ?_|refine blk_alloc ?_ _));refine blk_far ?_ i.out _;(with_reducible repeat(first|refine blk_drewN ?_ _|refine blk_drew ?_|refine blk_alloc ?_ _));refine blk_far ?_ i.out _;(with_reducible repeat(first|refine blk_drewN ?_ _|refine blk_drew ?_|refine blk_alloc ?_ _));refine blk_far ?_ i.out _;exact sT b.out) Try.underlying87 rfl (by kernel_rfl)) rfl ?_
 exact⟨_,sq,by(with_reducible repeat(first|apply Kd.R_alloc|apply Kd.R_drewN|apply Kd.R_drew));exact Kd.R_mono (sRF4 (g:=q) (Kd.R_far (p:=⟨l,3,none⟩) (Kd.R_far (p:=⟨l,2,none⟩) (Kd.R_far (p:=⟨l,1,none⟩) (Kd.R_types (Kd.R_types I.out d.out (by decide)) b.out (by decide)) (fun _ hk=>hk.1.2) (.slice m c.length n)) (fun _ hk=>hk.1.2) (.int .i64 a0_2)) (fun _ hk=>hk.1.2) (.int .i64 a0_3)) (fun _ hk=>hk.2)) (fun _ hk=>trivial),sb⟩
end
section
attribute [local go_sem high] eqA114
def laws_toFileS.l0 : Nat → List (S127) → List (S87) → Int → Option ((List (S87)))
 |0,_,_,_=>none
 |k+1,x0,x3,x4=>if x4<(x0.length:Int)then(if 0≤x4 then((laws_toFile.f k ((rd_T127 x0 x4).f0) ((rd_T127 x0 x4).f1) ((rd_T127 x0 x4).f2) ((rd_T127 x0 x4).f3)).bind fun bt274=>(if x4<(x3.length:Int)then(laws_toFileS.l0 k x0 (x3.set (x4:Int).toNat (⟨bt274.1,bt274.2.1,bt274.2.2.1,bt274.2.2.2⟩:S87)) (wrap64 (x4+1)))else(none)))else(none))else(some x3)
def laws_toFileS.f (k:Nat) (l0:List (S127)):Option ((List (S87))):=if 0≤(l0.length:Int)then(if((l0.length:Int):Int).toNat≤5026338869833 then(laws_toFileS.l0 k l0 (List.replicate ((l0.length:Int):Int).toNat z87) 0)else(none))else(none)
set_option maxHeartbeats 8000000 in
set_option maxRecDepth 100000 in
theorem laws_toFileS.calls (k:Nat) (A0:Option Addr) (c0:Nat) (l0:List (S127)) (r:List (S87)) (w:World) (hr0:Kd.C k127 w A0 l0.length l0) (hc0:l0.length≤c0) (h:laws_toFileS.f k l0=some r):
  Calls Try.prog 44 #[.slice A0 l0.length c0] w fun e w'=>∃aa:Value,e= .returned (aa)∧Kd.S k87 87 w' w.heap.size (fun _=>True) aa r∧Below w.heap.size w w':=by
 have aZ:=Try.underlying127
 have a0:=Try.underlying87
 have aw:=zM hr0
 have a1:=zM hc0
 clear hr0 hc0
 have HB:=zM (Below.refl w.heap.size w)
 have H:(if 0≤(l0.length:Int)then(if((l0.length:Int):Int).toNat≤5026338869833 then(laws_toFileS.l0 k l0 (List.replicate ((l0.length:Int):Int).toNat z87) 0)else(none))else(none))=some r:=h
 clear h
 by_cases y:0≤(l0.length:Int)
 ·(
 rw[if_pos y]at H
 have c2b0:=eq_true y
 have c2b1:=zT y
 clear y
 by_cases z:((l0.length:Int):Int).toNat≤5026338869833
 ·(
 rw[if_pos z]at H
 have c3b0:=eq_true z
 have c3b1:=zT z
 clear z
 obtain⟨y270,hy270⟩:∃Q:List (S87),Q=(List.replicate ((l0.length:Int):Int).toNat z87):=⟨_,rfl⟩
 replace H:(laws_toFileS.l0 k l0 y270 0)=some r:=by first|(rw[hy270];with_reducible exact H)|(have m:=(Option.bind_some _ _).symm.trans H;rw[hy270];with_reducible exact m)|(have m:=(Option.bind_some _ _).symm.trans H;with_reducible exact m)|with_reducible exact H|(rw[hy270];exact H)|exact H
 have ab:=zM hy270
 clear hy270
 have H':=zM H
 clear H
 go_enter Try.func44,Try.ntmps44
 go_wp2_with (first|((with_reducible refine gate_dst (N:=7) rfl ?_);refine Kd.S_make k87 _ 87 rfl (N:=7) rfl 39 _ _ rfl (l0.length:Int) rfl rfl Try.underlying39 (.agg #[(.string ⟨#[]⟩),(.slice none 0 0),(.int .i64 0),(.int .i64 0)]) 56 info87 rfl (by decide) (by omega) z87 (ok:=fun _=>True) (okp:=fun _=>True) (k87_mkM _ _ _ z87 (Kd.R_nil _ _ _ _ _)) (fun _ hk=>hk) trivial (zO (by first|(with_reducible assumption)|assumption)) (Nat.le_trans (Nat.mul_le_mul_right _ (zO (by first|(with_reducible assumption)|assumption):(l0.length:Int).toNat≤5026338869833)) (by omega)) (Below.refl _ _) (Nat.le_refl _) ?_;intro ax w4 B hb ay az;clear ay az;(first|rw[←ab.out]at B|(simp only[Int.reduceToNat]at B;rw[←ab.out]at B));have aA:=zM (Kd.S_lower B (below_size (sH HB.out)));replace HB:=sB HB hb;clear hb B))
 go_loopg [4] k (fun kq v4 w'=>∃(d:List (S87)) (a:Int),v4= .int .i64 a∧Aside0 (laws_toFileS.l0 kq l0 d a=some r)∧Aside0 (kq≤k)∧Aside0 (Kd.S k87 87 w' w.heap.size (fun _=>True) ax d)∧Aside0 (Below w.heap.size w w'))
 case atStart=>exact⟨(y270),(0),sr,H',⟨Nat.le_refl _⟩,⟨by exact sI aA.out⟩,⟨sb⟩⟩
 case round=>(
 clear H'
 try clear y
 try clear c2b0
 try clear c2b1
 try clear z
 try clear c3b0
 try clear c3b1
 obtain⟨d,a,rfl,HA,ac,i,HB⟩:=hrel
 cases gk with
 |zero=>exact absurd HA.out (by simp[laws_toFileS.l0])
 |succ k1=>(
 have H:=HA.out
 clear HA
 simp only[laws_toFileS.l0]at H
 by_cases A:a<(l0.length:Int)
 ·(
 rw[if_pos A]at H
 have c6b0:=zT A
 clear A
 by_cases J:0≤a
 ·(
 rw[if_pos J]at H
 have c7b0:=zT J
 clear J
 replace H:=Option.bind_eq_some_iff.mp H
 obtain⟨⟨n,D,q,s⟩,ad,H⟩:=H
 replace H:(if a<(d.length:Int)then(laws_toFileS.l0 k1 l0 (d.set (a:Int).toNat (⟨n,D,q,s⟩:S87)) (wrap64 (a+1)))else(none))=some r:=H
 have A8:=zM ad
 clear ad
 by_cases K:a<(d.length:Int)
 ·(
 rw[if_pos K]at H
 have c9b0:=zT K
 clear K
 obtain⟨y280,hy280⟩:∃Q:List (S87),Q=(d.set (a:Int).toNat (⟨n,D,q,s⟩:S87)):=⟨_,rfl⟩
 replace H:(laws_toFileS.l0 k1 l0 y280 (wrap64 (a+1)))=some r:=by first|(rw[hy280];with_reducible exact H)|(have m:=(Option.bind_some _ _).symm.trans H;rw[hy280];with_reducible exact m)|(have m:=(Option.bind_some _ _).symm.trans H;with_reducible exact m)|with_reducible exact H|(rw[hy280];exact H)|exact H
 have aB:=zM hy280
 clear hy280
 have H':=zM H
 clear H
 have T:0≤(a:Int):=zO (by first|(with_reducible assumption)|assumption)
 have U:a<(l0.length:Int):=zO (by first|(with_reducible assumption)|assumption)
 obtain⟨a2,aC,aD,aE,ae,af,ag,ah,ai,aj⟩:=at_T127 aw.out a T U
 cases aE
 replace ae:=sX HB ae
 replace af:=sX HB af
 replace ag:=sX HB ag
 replace ah:=sX HB ah
 have aF:=zM aj
 have aG:=zM ai
 clear aj ai
 replace T:=eq_true T
 replace U:=eq_true U
 go_wp2_with (first|((with_reducible refine gate_callee (f:=81) rfl ?_);refine sC (some 20) Try.func81 #[.agg #[.string ((rd_T127 l0 a).f0),.slice aC ((rd_T127 l0 a).f1).length aD,.int .i64 ((rd_T127 l0 a).f2),.int .i64 ((rd_T127 l0 a).f3)]] (laws_toFile.calls k1 ((rd_T127 l0 a).f0) _ _ ((rd_T127 l0 a).f1) ((rd_T127 l0 a).f2) ((rd_T127 l0 a).f3) n D q s _ ?side1 ?side2 A8.out) ?_;(case side1=>exact sD (zC aF.out HB.out));(case side2=>exact aG.out);rintro e l ⟨L,rfl,V,hb⟩;refine⟨_,rfl,?_⟩;replace i:=zM (Kd.S_elder' (sI i.out) (Kd.R_base V) hb);have M:=zM (Kd.R_lower V (below_size (sH HB.out)));replace HB:=sB HB hb;(try clear hb);(try clear V);have W:0≤(a:Int):=zO (by first|(with_reducible assumption)|assumption);have X:(a:Int)<((d.length:Int):Int):=zO (by first|(with_reducible assumption)|assumption);obtain⟨c,ak,al,am,aH,a3,an⟩:=Kd.S_form i.out (by omega);(first|cases al|(injection al with O aI aJ;(first|subst O|(injection O with O;subst O));subst aJ;clear aI));have P:=zM am;have a4:=zM an;clear am aH an;obtain⟨_,a5,aK,ao,E,F,_,_⟩:=Kd.S_elem i.out z87 (a:Int) W X;obtain⟨aL,rfl,a6⟩:=k87_openM ao;have a7:l.cell? ⟨c,(a:Int).toNat*4,none⟩=some (.string ((rd_T87 d a).f0)):=E 0 _ rfl;have a8:l.cell? ⟨c,(a:Int).toNat*4+1,none⟩=some (aL):=E 1 _ rfl;have a9:l.cell? ⟨c,(a:Int).toNat*4+2,none⟩=some (.int .i64 ((rd_T87 d a).f2)):=E 2 _ rfl;have ba:l.cell? ⟨c,(a:Int).toNat*4+3,none⟩=some (.int .i64 ((rd_T87 d a).f3)):=E 3 _ rfl;have bb:l.frozen? ⟨c,(a:Int).toNat*4,none⟩=false:=F 0;have bc:l.frozen? ⟨c,(a:Int).toNat*4+1,none⟩=false:=F 1;have bd:l.frozen? ⟨c,(a:Int).toNat*4+2,none⟩=false:=F 2;have be:l.frozen? ⟨c,(a:Int).toNat*4+3,none⟩=false:=F 3;clear aK E F ao;replace W:=eq_true W;replace X:=eq_true X;have n_:=zM (Kd.S_mono (ok':=(fun b=>some b≠(L:Value).ownBlock)) i.out (fun b hk=>hk.2));clear i;have i:=n_;clear n_;have aM:=zM (show Kd.S k87 87 l w.heap.size (fun b=>((fun _=>True)) b∧¬((fun b=>some b=(L:Value).ownBlock)) b) (.slice (some ⟨c,0,none⟩) d.length ak) d from(by(with_reducible repeat(first|apply Kd.S_alloc|apply Kd.S_drewN|apply Kd.S_drew));exact Kd.S_mono i.out (fun b hk=>⟨trivial,fun u=>hk u⟩)));obtain⟨bf,bg,aN,ap,G,I,aO,aq⟩:=Kd.S_elem aM.out z87 (a:Int) (zO (by first|(with_reducible assumption)|assumption)) (by have x:(a:Int)<((d.length:Int):Int):=zO (by first|(with_reducible assumption)|assumption);first|exact x|(have u:=(Kd.S_reads' i.out).1;omega)|simpa using x);obtain⟨bh,rfl,bi⟩:=k87_openM ap;have Y:=Kd.S_seg aq (zO (by first|(with_reducible assumption)|assumption)) (by have x:(a:Int)<((d.length:Int):Int):=zO (by first|(with_reducible assumption)|assumption);first|exact x|(have u:=(Kd.S_reads' i.out).1;omega)|simpa using x) (seg:=[.string n,L,.int .i64 q,.int .i64 s]) (j:=0) (show 4≤4 from by decide) (x':=(⟨n,D,q,s⟩:S87)) (k87_mkM _ _ _ (⟨n,D,q,s⟩:S87) (Kd.R_mono (Kd.R_tight rfl (Kd.R_mono (ok':=fun b=>((fun _=>True)) b∧b≠c) (Kd.R_apart' (M.out) (Kd.S_typed i.out) (by decide)) (fun b hk=>⟨trivial,fun u=>(hk.2) (by rw[u];rfl)⟩))) (fun _ x=>Or.inr (x)))) (fun _ hk=>hk) (fun b aP=>((Kd.R_mono (ok':=fun b=>((fun _=>True)) b∧b≠c) (Kd.R_apart' (M.out) (Kd.S_typed i.out) (by decide)) (fun b hk=>⟨trivial,fun u=>(hk.2) (by rw[u];rfl)⟩))).1 b aP.symm);have aQ:=G 0 _ rfl;(try simp only[show(k87).sz=4 from rfl,Nat.mul_one,Nat.add_zero]at aQ);have aR:=I 0;(try simp only[show(k87).sz=4 from rfl,Nat.mul_one,Nat.add_zero]at aR);have aS:=G 1 _ rfl;(try simp only[show(k87).sz=4 from rfl,Nat.mul_one,Nat.add_zero]at aS);have aT:=I 1;(try simp only[show(k87).sz=4 from rfl,Nat.mul_one,Nat.add_zero]at aT);have aU:=G 2 _ rfl;(try simp only[show(k87).sz=4 from rfl,Nat.mul_one,Nat.add_zero]at aU);have aV:=I 2;(try simp only[show(k87).sz=4 from rfl,Nat.mul_one,Nat.add_zero]at aV);have aW:=G 3 _ rfl;(try simp only[show(k87).sz=4 from rfl,Nat.mul_one,Nat.add_zero]at aW);have aX:=I 3;(try simp only[show(k87).sz=4 from rfl,Nat.mul_one,Nat.add_zero]at aX);clear aN G I ap aO aq)|((with_reducible refine gate_store (t:=87) (p:=21) rfl ?_);refine store_event (t:=87) (p:=21) (v:=?vo_w13) (w1:=((((l.setCell ⟨c,(a:Int).toNat*4,none⟩ (.string n)).setCell ⟨c,(a:Int).toNat*4+1,none⟩ (L)).setCell ⟨c,(a:Int).toNat*4+2,none⟩ (.int .i64 q)).setCell ⟨c,(a:Int).toNat*4+3,none⟩ (.int .i64 s))) ?hg ?ho ?hn ?hr ?_;(case ho=>rfl);(case hg=>rfl);(case hn=>rfl);(case hr=>first|(go_simp;done)|(go_simp;rfl)|(obtain⟨_,_,aY⟩:=Kd.R_slice M.out;simp only[aY];first|(go_simp;done)|(go_simp;rfl)));intro Z hw;have hg:l.grownBy Z (some c):=(by rw[hw];exact Y.2);have ar:Kd.S k87 87 Z w.heap.size (fun _=>True) (.slice (some ⟨c,0,none⟩) d.length ak) y280:=(by rw[hw,aB.out];exact Y.1);clear Y;have au:=zM (ar);have av:=zM ((by rw[hw];exact below_set (below_set (below_set (below_set (HB.out) P.out) P.out) P.out) P.out:Below w.heap.size w Z));clear i;clear HB;clear M;have i:=au;have HB:=av;clear au av;clear hg hw ar))
 go_roundg k1
 case measure=>have:=ac.out;omega
 case rel=>exact⟨(y280),(wrap64 (a+1)),sr,H',⟨by have:=ac.out;omega⟩,⟨by exact sI i.out⟩,⟨sb⟩⟩)
 rw[if_neg K]at H
 exact absurd H (by simp))
 rw[if_neg J]at H
 exact absurd H (by simp))
 rw[if_neg A]at H
 have c6b0:=zF A
 clear A
 obtain rfl:=zI H
 go_wp2
 go_ret
 exact⟨_,sq,by exact sI i.out,sb⟩)))
 rw[if_neg z]at H
 exact absurd H (by simp))
 rw[if_neg y]at H
 exact absurd H (by simp)
end
end Go.Proofs.Ytnneadpahjkhgaa.PFnExactSameMemory
