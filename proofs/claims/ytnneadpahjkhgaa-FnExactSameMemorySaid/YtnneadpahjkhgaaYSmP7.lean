/- Printed functions: laws_toBinding, laws_toBindingS. -/
import Derived.Test.YtnneadpahjkhgaaYSmP0
import Derived.Test.YtnneadpahjkhgaaYSmP5
namespace Go.Proofs.Ytnneadpahjkhgaa.PFnExactSameMemory
open Go.RowKit Go.Proofs.YtnneadpahjkhgaaG Go.Proofs.YtnneadpahjkhgaaW.PrintWords Go.Proofs.YtnneadpahjkhgaaW.PrintLast Go.Proofs.YtnneadpahjkhgaaW.PrintMore
attribute [local go_sem] max2_int min2_int max_two min_two max_three min_three max_four min_four
set_option linter.unusedVariables false
set_option linter.unusedSimpArgs false
def laws_toBinding.f (a0_0:ByteArray) (a0_1:Int) (a0_2:Int) (a0_3:ByteArray) (a0_4:Int):Option (ByteArray×Int×Int×ByteArray×Int):=(laws_toValue.f a0_1 a0_2 a0_3 a0_4).bind fun bt196=>(some (a0_0,bt196.1,bt196.2.1,bt196.2.2.1,bt196.2.2.2))
set_option maxHeartbeats 8000000 in
set_option maxRecDepth 100000 in
theorem laws_toBinding.calls (a0_0:ByteArray) (a0_1:Int) (a0_2:Int) (a0_3:ByteArray) (a0_4:Int) (r1:ByteArray) (r2:Int) (r3:Int) (r4:ByteArray) (r5:Int) (w:World) (h:laws_toBinding.f a0_0 a0_1 a0_2 a0_3 a0_4=some (r1,r2,r3,r4,r5)):
  Calls Try.prog 91 #[.agg #[.string a0_0,.int .i64 a0_1,.int .i64 a0_2,.string a0_3,.int .i64 a0_4]] w fun e w'=>e= .returned (.agg #[.string r1,.int .i64 r2,.int .i64 r3,.string r4,.int .i64 r5])∧Below w.heap.size w w':=by
 have L:=Try.underlying134
 have M:=Try.underlying116
 have O:=Try.underlying132
 have P:=Try.underlying114
 have HB:=zM (Below.refl w.heap.size w)
 have H:((laws_toValue.f a0_1 a0_2 a0_3 a0_4).bind fun m=>(some (a0_0,m.1,m.2.1,m.2.2.1,m.2.2.2)))=some (r1,r2,r3,r4,r5):=h
 clear h
 replace H:=Option.bind_eq_some_iff.mp H
 obtain⟨⟨c,i,n,q⟩,s,H⟩:=H
 replace H:(some (a0_0,c,i,n,q))=some (r1,r2,r3,r4,r5):=H
 have D:=zM s
 clear s
 simp only[Option.some.injEq,Prod.mk.injEq]at H
 obtain⟨rfl,rfl,rfl,rfl,rfl⟩:=H
 go_enter Try.func91,Try.ntmps91
 go_wp2_with (first|((with_reducible refine gate_dst (N:=1) rfl ?_);refine sV (N:=1) (cs:= #[.string a0_0,.int .i64 a0_1,.int .i64 a0_2,.string a0_3,.int .i64 a0_4]) (t:=134) ?_;intro E hg Q hbox hb;have a:=zM (hbox);have S:=sG HB hg;have T:=sG HB hg;replace HB:=sB HB hb;clear hb hbox hg)|((with_reducible refine gate_dst (N:=2) rfl ?_);refine sV (N:=2) (cs:= #[.string (⟨#[]⟩:ByteArray),.int .i64 0,.int .i64 0,.string (⟨#[]⟩:ByteArray),.int .i64 0]) (t:=116) ?_;intro u hg U hbox hb;have b:=zM (hbox);have V:=sG HB hg;have W:=sG HB hg;replace HB:=sB HB hb;have F:=sN a hg;have G:=sM a hg;replace a:=sK a hb;clear hb hbox hg)|((with_reducible refine gate_dst (N:=3) rfl ?_);refine sV (N:=3) (cs:= #[.string (⟨#[]⟩:ByteArray),.int .i64 0,.int .i64 0,.string (⟨#[]⟩:ByteArray),.int .i64 0]) (t:=116) ?_;intro I hg X hbox hb;have l:=zM (hbox);have Y:=sG HB hg;have Z:=sG HB hg;replace HB:=sB HB hb;have x:=sN a hg;have J:=sM a hg;replace a:=sK a hb;have d:=sN b hg;have K:=sM b hg;replace b:=sK b hb;clear hb hbox hg;have aa:=F.out;have ab:=G.out;have ac:=x.out;have ad:=J.out;obtain⟨ae,af,ag,ah,ai,aj,ak,al,am,an⟩:=cells5 a.out;have ao:=K.out;have ap:=d.out;obtain⟨aq,ar,au,av,aw,ax,ay,az,aA,aB⟩:=cells5 l.out)|((with_reducible refine gate_callee (f:=112) rfl ?_);refine sC (some 9) Try.func112 #[.agg #[.int .i64 a0_1,.int .i64 a0_2,.string a0_3,.int .i64 a0_4]] (laws_toValue.calls a0_1 a0_2 a0_3 a0_4 c i n q _ D.out) ?_;rintro e aC ⟨rfl,hb⟩;refine⟨_,rfl,?_⟩;have y:=zM (blk_below (g:=E) (o:= .cells #[.string a0_0,.int .i64 a0_1,.int .i64 a0_2,.string a0_3,.int .i64 a0_4] 134 (0,0)) (by(with_reducible repeat(first|refine blk_drewN ?_ _|refine blk_drew ?_|refine blk_alloc ?_ _));refine blk_far ?_ x.out _;exact sT a.out) hb);have z:=zM (blk_below (g:=u) (o:= .cells #[.string (⟨#[]⟩:ByteArray),.int .i64 0,.int .i64 0,.string (⟨#[]⟩:ByteArray),.int .i64 0] 116 (0,0)) (by(with_reducible repeat(first|refine blk_drewN ?_ _|refine blk_drew ?_|refine blk_alloc ?_ _));refine blk_far ?_ d.out _;exact sT b.out) hb);have A:=zM (blk_below (g:=I) (o:= .cells #[.string a0_0,.int .i64 0,.int .i64 0,.string (⟨#[]⟩:ByteArray),.int .i64 0] 116 (0,0)) (by(with_reducible repeat(first|refine blk_drewN ?_ _|refine blk_drew ?_|refine blk_alloc ?_ _));refine blk_put (cs:= #[.string (⟨#[]⟩:ByteArray),.int .i64 0,.int .i64 0,.string (⟨#[]⟩:ByteArray),.int .i64 0]) ?_ 0 _ rfl;exact sT l.out) hb);have B:=sB HB hb;clear a;clear b;clear l;clear HB;have a:=y;have b:=z;have l:=A;have HB:=B;clear y z A B;(try clear hb);obtain⟨aD,aE,aF,aG,aH,aI,aJ,aK,aL,aM⟩:=cells5 l.out;obtain⟨aN,aO,aP,aQ,aR,aS,aT,aU,aV,aW⟩:=cells5 b.out))
 refine bodyPost_ret (results_cell_row rfl _ _ u 116 #[.string a0_0,.int .i64 c,.int .i64 i,.string n,.int .i64 q] (0,0) _ rfl (by(with_reducible repeat(first|refine blk_drewN ?_ _|refine blk_drew ?_|refine blk_alloc ?_ _));refine blk_put (cs:= #[.string a0_0,.int .i64 c,.int .i64 i,.string n,.int .i64 0]) ?_ 4 _ rfl;(with_reducible repeat(first|refine blk_drewN ?_ _|refine blk_drew ?_|refine blk_alloc ?_ _));refine blk_put (cs:= #[.string a0_0,.int .i64 c,.int .i64 i,.string (⟨#[]⟩:ByteArray),.int .i64 0]) ?_ 3 _ rfl;(with_reducible repeat(first|refine blk_drewN ?_ _|refine blk_drew ?_|refine blk_alloc ?_ _));refine blk_put (cs:= #[.string a0_0,.int .i64 c,.int .i64 0,.string (⟨#[]⟩:ByteArray),.int .i64 0]) ?_ 2 _ rfl;(with_reducible repeat(first|refine blk_drewN ?_ _|refine blk_drew ?_|refine blk_alloc ?_ _));refine blk_put (cs:= #[.string a0_0,.int .i64 0,.int .i64 0,.string (⟨#[]⟩:ByteArray),.int .i64 0]) ?_ 1 _ rfl;(with_reducible repeat(first|refine blk_drewN ?_ _|refine blk_drew ?_|refine blk_alloc ?_ _));refine blk_put (cs:= #[.string (⟨#[]⟩:ByteArray),.int .i64 0,.int .i64 0,.string (⟨#[]⟩:ByteArray),.int .i64 0]) ?_ 0 _ rfl;(with_reducible repeat(first|refine blk_drewN ?_ _|refine blk_drew ?_|refine blk_alloc ?_ _));refine blk_far ?_ d.out _;(with_reducible repeat(first|refine blk_drewN ?_ _|refine blk_drew ?_|refine blk_alloc ?_ _));refine blk_far ?_ d.out _;(with_reducible repeat(first|refine blk_drewN ?_ _|refine blk_drew ?_|refine blk_alloc ?_ _));refine blk_far ?_ d.out _;(with_reducible repeat(first|refine blk_drewN ?_ _|refine blk_drew ?_|refine blk_alloc ?_ _));refine blk_far ?_ d.out _;exact sT b.out) Try.underlying116 rfl (by kernel_rfl)) rfl ?_
 exact⟨sq,sb⟩
def laws_toBindingS.l0 : Nat → List (S134) → List (S116) → Int → Option ((List (S116)))
 |0,_,_,_=>none
 |k+1,x0,x3,x4=>if x4<(x0.length:Int)then(if 0≤x4 then((laws_toBinding.f ((rd_T134 x0 x4).f0) ((rd_T134 x0 x4).f1.f0) ((rd_T134 x0 x4).f1.f1) ((rd_T134 x0 x4).f1.f2) ((rd_T134 x0 x4).f1.f3)).bind fun bt204=>(if x4<(x3.length:Int)then(laws_toBindingS.l0 k x0 (x3.set (x4:Int).toNat (⟨bt204.1,(⟨bt204.2.1,bt204.2.2.1,bt204.2.2.2.1,bt204.2.2.2.2⟩:S114)⟩:S116)) (wrap64 (x4+1)))else(none)))else(none))else(some x3)
def laws_toBindingS.f (k:Nat) (l0:List (S134)):Option ((List (S116))):=if 0≤(l0.length:Int)then(if((l0.length:Int):Int).toNat≤5026338869833 then(laws_toBindingS.l0 k l0 (List.replicate ((l0.length:Int):Int).toNat z116) 0)else(none))else(none)
set_option maxHeartbeats 8000000 in
set_option maxRecDepth 100000 in
theorem laws_toBindingS.calls (k:Nat) (A0:Option Addr) (c0:Nat) (l0:List (S134)) (r:List (S116)) (w:World) (hr0:Kd.C k134 w A0 l0.length l0) (hc0:l0.length≤c0) (h:laws_toBindingS.f k l0=some r):
  Calls Try.prog 64 #[.slice A0 l0.length c0] w fun e w'=>∃V:Value,e= .returned (V)∧Kd.R k116 116 w' w.heap.size (fun _=>True) V r∧Below w.heap.size w w':=by
 have aM:=Try.underlying134
 have aN:=Try.underlying116
 have ap:=zM hr0
 have aO:=zM hc0
 clear hr0 hc0
 have HB:=zM (Below.refl w.heap.size w)
 have H:(if 0≤(l0.length:Int)then(if((l0.length:Int):Int).toNat≤5026338869833 then(laws_toBindingS.l0 k l0 (List.replicate ((l0.length:Int):Int).toNat z116) 0)else(none))else(none))=some r:=h
 clear h
 by_cases y:0≤(l0.length:Int)
 ·(
 rw[if_pos y]at H
 have c2b0:=eq_true y
 have c2b1:=zT y
 clear y
 by_cases z:((l0.length:Int):Int).toNat≤5026338869833
 ·(
 rw[if_pos z]at H
 have c3b0:=eq_true z
 have c3b1:=zT z
 clear z
 obtain⟨y200,hy200⟩:∃M:List (S116),M=(List.replicate ((l0.length:Int):Int).toNat z116):=⟨_,rfl⟩
 replace H:(laws_toBindingS.l0 k l0 y200 0)=some r:=by first|(rw[hy200];with_reducible exact H)|(have l:=(Option.bind_some _ _).symm.trans H;rw[hy200];with_reducible exact l)|(have l:=(Option.bind_some _ _).symm.trans H;with_reducible exact l)|with_reducible exact H|(rw[hy200];exact H)|exact H
 have W:=zM hy200
 clear hy200
 have H':=zM H
 clear H
 go_enter Try.func64,Try.ntmps64
 go_wp2_with (first|((with_reducible refine gate_dst (N:=7) rfl ?_);refine Kd.R_make k116 _ 116 rfl (N:=7) rfl 53 _ _ rfl (l0.length:Int) rfl rfl Try.underlying53 (.agg #[(.string ⟨#[]⟩),(.int .i64 0),(.int .i64 0),(.string ⟨#[]⟩),(.int .i64 0)]) 56 info116 rfl (by decide) (by omega) z116 (ok:=fun _=>True) (okp:=fun _=>True) (k116_mkM _ _ _ z116) (fun _ hk=>hk) trivial (zO (by first|(with_reducible assumption)|assumption)) (Nat.le_trans (Nat.mul_le_mul_right _ (zO (by first|(with_reducible assumption)|assumption):(l0.length:Int).toNat≤5026338869833)) (by omega)) (Below.refl _ _) (Nat.le_refl _) ?_;intro aq w4 F hb ar au;clear ar au;(first|rw[←W.out]at F|(simp only[Int.reduceToNat]at F;rw[←W.out]at F));have av:=zM (Kd.R_lower F (below_size (sH HB.out)));replace HB:=sB HB hb;clear hb F))
 go_loopg [4] k (fun kq v4 w'=>∃(b:List (S116)) (a:Int),v4= .int .i64 a∧Aside0 (laws_toBindingS.l0 kq l0 b a=some r)∧Aside0 (kq≤k)∧Aside0 (Kd.R k116 116 w' w.heap.size (fun _=>True) aq b)∧Aside0 (Below w.heap.size w w'))
 case atStart=>exact⟨(y200),(0),sr,H',⟨Nat.le_refl _⟩,⟨by exact sE av.out⟩,⟨sb⟩⟩
 case round=>(
 clear H'
 try clear y
 try clear c2b0
 try clear c2b1
 try clear z
 try clear c3b0
 try clear c3b1
 obtain⟨b,a,rfl,HA,X,i,HB⟩:=hrel
 cases gk with
 |zero=>exact absurd HA.out (by simp[laws_toBindingS.l0])
 |succ k1=>(
 have H:=HA.out
 clear HA
 simp only[laws_toBindingS.l0]at H
 by_cases A:a<(l0.length:Int)
 ·(
 rw[if_pos A]at H
 have c6b0:=zT A
 clear A
 by_cases J:0≤a
 ·(
 rw[if_pos J]at H
 have c7b0:=zT J
 clear J
 replace H:=Option.bind_eq_some_iff.mp H
 obtain⟨⟨m,n,q,s,u⟩,Y,H⟩:=H
 replace H:(if a<(b.length:Int)then(laws_toBindingS.l0 k1 l0 (b.set (a:Int).toNat (⟨m,(⟨n,q,s,u⟩:S114)⟩:S116)) (wrap64 (a+1)))else(none))=some r:=H
 have A8:=zM Y
 clear Y
 by_cases K:a<(b.length:Int)
 ·(
 rw[if_pos K]at H
 have c9b0:=zT K
 clear K
 obtain⟨y209,hy209⟩:∃M:List (S116),M=(b.set (a:Int).toNat (⟨m,(⟨n,q,s,u⟩:S114)⟩:S116)):=⟨_,rfl⟩
 replace H:(laws_toBindingS.l0 k1 l0 y209 (wrap64 (a+1)))=some r:=by first|(rw[hy209];with_reducible exact H)|(have l:=(Option.bind_some _ _).symm.trans H;rw[hy209];with_reducible exact l)|(have l:=(Option.bind_some _ _).symm.trans H;with_reducible exact l)|with_reducible exact H|(rw[hy209];exact H)|exact H
 have aw:=zM hy209
 clear hy209
 have H':=zM H
 clear H
 have O:0≤(a:Int):=zO (by first|(with_reducible assumption)|assumption)
 have P:a<(l0.length:Int):=zO (by first|(with_reducible assumption)|assumption)
 obtain⟨aP,ax,Z,aa,ab,ac,ad⟩:=at_T134 ap.out a O P
 cases ax
 replace Z:=sX HB Z
 replace aa:=sX HB aa
 replace ab:=sX HB ab
 replace ac:=sX HB ac
 replace ad:=sX HB ad
 replace O:=eq_true O
 replace P:=eq_true P
 go_wp2_with (first|((with_reducible refine gate_callee (f:=91) rfl ?_);refine sC (some 20) Try.func91 #[.agg #[.string ((rd_T134 l0 a).f0),.int .i64 ((rd_T134 l0 a).f1.f0),.int .i64 ((rd_T134 l0 a).f1.f1),.string ((rd_T134 l0 a).f1.f2),.int .i64 ((rd_T134 l0 a).f1.f3)]] (laws_toBinding.calls ((rd_T134 l0 a).f0) ((rd_T134 l0 a).f1.f0) ((rd_T134 l0 a).f1.f1) ((rd_T134 l0 a).f1.f2) ((rd_T134 l0 a).f1.f3) m n q s u _ A8.out) ?_;rintro e d ⟨rfl,hb⟩;refine⟨_,rfl,?_⟩;replace i:=zM (Kd.R_below (sE i.out) hb);replace HB:=sB HB hb;(try clear hb);have Q:0≤(a:Int):=zO (by first|(with_reducible assumption)|assumption);have S:(a:Int)<((b.length:Int):Int):=zO (by first|(with_reducible assumption)|assumption);obtain⟨c,ae,af,ag,ay,aQ,ah⟩:=Kd.R_form i.out (by omega);(first|cases af|(injection af with L az aA;(first|subst L|(injection L with L;subst L));subst aA;clear az));have G:=zM ag;have aR:=zM ah;clear ag ay ah;obtain⟨aS,aB,ai,B,D⟩:=Kd.R_elem i.out z116 (a:Int) Q S;obtain rfl:=k116_openM ai;have aT:d.cell? ⟨c,(a:Int).toNat*5,none⟩=some (.string ((rd_T116 b a).f0)):=B 0 _ rfl;have aU:d.cell? ⟨c,(a:Int).toNat*5+1,none⟩=some (.int .i64 ((rd_T116 b a).f1.f0)):=B 1 _ rfl;have aV:d.cell? ⟨c,(a:Int).toNat*5+2,none⟩=some (.int .i64 ((rd_T116 b a).f1.f1)):=B 2 _ rfl;have aW:d.cell? ⟨c,(a:Int).toNat*5+3,none⟩=some (.string ((rd_T116 b a).f1.f2)):=B 3 _ rfl;have aX:d.cell? ⟨c,(a:Int).toNat*5+4,none⟩=some (.int .i64 ((rd_T116 b a).f1.f3)):=B 4 _ rfl;have aY:d.frozen? ⟨c,(a:Int).toNat*5,none⟩=false:=D 0;have aZ:d.frozen? ⟨c,(a:Int).toNat*5+1,none⟩=false:=D 1;have a0:d.frozen? ⟨c,(a:Int).toNat*5+2,none⟩=false:=D 2;have a1:d.frozen? ⟨c,(a:Int).toNat*5+3,none⟩=false:=D 3;have a2:d.frozen? ⟨c,(a:Int).toNat*5+4,none⟩=false:=D 4;clear aB B D ai;replace Q:=eq_true Q;replace S:=eq_true S;have aj:=zM (show Kd.R k116 116 d w.heap.size (fun _=>True) (.slice (some ⟨c,0,none⟩) b.length ae) b from(sE i.out));obtain⟨a3,ak,al,x,E⟩:=Kd.R_elem aj.out z116 (a:Int) (zO (by first|(with_reducible assumption)|assumption)) (by have I:(a:Int)<((b.length:Int):Int):=zO (by first|(with_reducible assumption)|assumption);first|exact I|(have e_:=(Kd.R_reads' i.out).1;omega)|simpa using I);obtain rfl:=k116_openM al;have T:=Kd.R_seg aj.out (a:Int) (zO (by first|(with_reducible assumption)|assumption)) (by have I:(a:Int)<((b.length:Int):Int):=zO (by first|(with_reducible assumption)|assumption);first|exact I|(have e_:=(Kd.R_reads' i.out).1;omega)|simpa using I) (seg:=[.string m,.int .i64 n,.int .i64 q,.string s,.int .i64 u]) (j:=0) ak x (show 5≤5 from by decide) (x':=(⟨m,(⟨n,q,s,u⟩:S114)⟩:S116)) (k116_mkM _ _ _ (⟨m,(⟨n,q,s,u⟩:S114)⟩:S116)) (fun _ hk=>hk);have aC:=x 0 _ rfl;(try simp only[show(k116).sz=5 from rfl,Nat.mul_one,Nat.add_zero]at aC);have aD:=E 0;(try simp only[show(k116).sz=5 from rfl,Nat.mul_one,Nat.add_zero]at aD);have aE:=x 1 _ rfl;(try simp only[show(k116).sz=5 from rfl,Nat.mul_one,Nat.add_zero]at aE);have aF:=E 1;(try simp only[show(k116).sz=5 from rfl,Nat.mul_one,Nat.add_zero]at aF);have aG:=x 2 _ rfl;(try simp only[show(k116).sz=5 from rfl,Nat.mul_one,Nat.add_zero]at aG);have aH:=E 2;(try simp only[show(k116).sz=5 from rfl,Nat.mul_one,Nat.add_zero]at aH);have aI:=x 3 _ rfl;(try simp only[show(k116).sz=5 from rfl,Nat.mul_one,Nat.add_zero]at aI);have aJ:=E 3;(try simp only[show(k116).sz=5 from rfl,Nat.mul_one,Nat.add_zero]at aJ);have aK:=x 4 _ rfl;(try simp only[show(k116).sz=5 from rfl,Nat.mul_one,Nat.add_zero]at aK);have aL:=E 4;(try simp only[show(k116).sz=5 from rfl,Nat.mul_one,Nat.add_zero]at aL);clear ak x E al)|((with_reducible refine gate_store (t:=116) (p:=21) rfl ?_);refine store_event (t:=116) (p:=21) (v:=?vo_w13) (w1:=(((((d.setCell ⟨c,(a:Int).toNat*5,none⟩ (.string m)).setCell ⟨c,(a:Int).toNat*5+1,none⟩ (.int .i64 n)).setCell ⟨c,(a:Int).toNat*5+2,none⟩ (.int .i64 q)).setCell ⟨c,(a:Int).toNat*5+3,none⟩ (.string s)).setCell ⟨c,(a:Int).toNat*5+4,none⟩ (.int .i64 u))) ?hg ?ho ?hn ?hr ?_;(case ho=>rfl);(case hg=>rfl);(case hn=>rfl);(case hr=>first|(go_simp;done)|(go_simp;rfl));intro U hw;have hg:d.grownBy U (some c):=(by rw[hw];exact T.2);have am:Kd.R k116 116 U w.heap.size (fun _=>True) (.slice (some ⟨c,0,none⟩) b.length ae) y209:=(by rw[hw,aw.out];exact T.1);clear T;have an:=zM (am);have ao:=zM ((by rw[hw];exact below_set (below_set (below_set (below_set (below_set (HB.out) G.out) G.out) G.out) G.out) G.out:Below w.heap.size w U));clear i;clear HB;have i:=an;have HB:=ao;clear an ao;clear hg hw am))
 go_roundg k1
 case measure=>have:=X.out;omega
 case rel=>exact⟨(y209),(wrap64 (a+1)),sr,H',⟨by have:=X.out;omega⟩,⟨by exact sE i.out⟩,⟨sb⟩⟩)
 rw[if_neg K]at H
 exact absurd H (by simp))
 rw[if_neg J]at H
 exact absurd H (by simp))
 rw[if_neg A]at H
 have c6b0:=zF A
 clear A
 obtain rfl:=zI H
 go_wp2
 go_ret
 exact⟨_,sq,by exact sE i.out,sb⟩)))
 rw[if_neg z]at H
 exact absurd H (by simp))
 rw[if_neg y]at H
 exact absurd H (by simp)
end Go.Proofs.Ytnneadpahjkhgaa.PFnExactSameMemory
